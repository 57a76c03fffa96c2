import PyProof.Rows.All
import Wide.All
import OpenK.AllK
import Wide.FinOn
import Lean
import PySem.Challenge.RW_nm0021_01
open PySem PySem.W PyProof.Rows
set_option Elab.async false
set_option linter.all false
set_option genInjectivity false
set_option genSizeOf false
set_option compiler.extract_closed false
set_option bootstrap.genMatcherCode false
set_option maxRecDepth 4000
namespace Mine.Internal
section
set_option maxRecDepth 100000
theorem zJe:OpenLaw.wellSaid PySem.Challenge.rw_nm0021_01=true:=by decide +kernel
end
noncomputable section
inductive Val where
 | none
 | bool (b:Bool)
 | int (i:Int)
 | str (s:Str)
 | tup (vs:List Val)
 | ref (a:Addr)
inductive Fld where
 | op | dst | args | more | is_volatile | line | number | steps | end_ | name | params | is_static | slots | blocks | registers | has_value
 deriving DecidableEq
noncomputable def Fld.txts:List Str:=["op","dst","args","more","is_volatile","line","number","steps","end","name","params","is_static","slots","blocks","registers","has_value"]
noncomputable def Fld.all:List Fld:=[.op,.dst,.args,.more,.is_volatile,.line,.number,.steps,.end_,.name,.params,.is_static,.slots,.blocks,.registers,.has_value]
noncomputable def Fld.txt (f:Fld):Str:=Fld.txts.getD f.ctorIdx ""
theorem Fld.txts_nodup:Fld.txts.Nodup:=by decide +kernel
theorem Fld.idx_lt (f:Fld):f.ctorIdx<16:=by cases f<;>decide
theorem Fld.at_idx (f:Fld):Fld.all[f.ctorIdx]?=some f:=by cases f<;>rfl
theorem Fld.txt_inj (a b:Fld)(h:a.txt=b.txt):a=b:=by
 have key:∀f:Fld,Fld.txts[f.ctorIdx]?=some f.txt:=λf=>by
  have:f.ctorIdx<Fld.txts.length:=f.idx_lt
  unfold Fld.txt
  rw[List.getD_eq_getElem?_getD,List.getElem?_eq_getElem this];rfl
 obtain⟨l1,e1⟩:=List.getElem?_eq_some_iff.mp (key a)
 obtain⟨l2,e2⟩:=List.getElem?_eq_some_iff.mp (key b)
 have e:=(List.getElem_inj Fld.txts_nodup).mp ((e1.trans h).trans e2.symm)
 have:=a.at_idx
 rw[e,b.at_idx] at this
 exact(Option.some.inj this).symm
inductive Cls where
 | step | block | func
inductive GObj where
 | list (xs:List Val)
 | dict (es:List (Int×Val))
 | set (S:Int->Bool) (fresh:Bool)
 | inst (C:Cls) (fs:Fld->Option Val)
noncomputable abbrev Gh:=Addr->Option GObj
noncomputable def Gh.upd (G:Gh)(a:Addr)(o:GObj):Gh:=λb=>if b=a then some o else G b
theorem Gh.upd_same (G:Gh)(a:Addr)(o:GObj):G.upd a o a=some o:=if_pos rfl
theorem Gh.upd_ne (G:Gh){a b:Addr}(o:GObj)(h:b≠a):G.upd a o b=G b:=if_neg h
inductive VR (h:Heap):Val->Value->Prop where
 | none:VR h .none .none
 | bool (b:Bool):VR h (.bool b) (.bool b)
 | int (i:Int) (t:Tok):VR h (.int i) (.int i t)
 | str (x:Str) (t:Tok):VR h (.str x) (.str x t)
 | ref (a:Addr):VR h (.ref a) (.ref a)
 | tup {a:Addr} {n:Nat} {vs:List Val} {ys:List Value} :
   h.get? a=some ⟨.type "tuple",.none,.seq ys.toArray n,#[]⟩->vs.length=ys.length->(∀(i:Nat) (v:Val) (y:Value),vs[i]?=some v->ys[i]?=some y->VR h v y)->VR h (.tup vs) (.ref a)
structure VRs (h:Heap)(vs:List Val)(ys:List Value):Prop where
 length:vs.length=ys.length
 at_:∀(i:Nat) (v:Val) (y:Value),vs[i]?=some v->ys[i]?=some y->VR h v y
theorem VR.tup' {h:Heap}{a:Addr}{n:Nat}{vs:List Val}{ys:List Value}(e:h.get? a=some ⟨.type "tuple",.none,.seq ys.toArray n,#[]⟩)(r:VRs h vs ys):VR h (.tup vs) (.ref a):=.tup e r.length r.at_
theorem VR.int_inv {h:Heap}{i:Int}{y:Value}(r:VR h (.int i) y):∃t,y=.int i t:=by cases r;exact⟨_,rfl⟩
theorem VR.str_inv {h:Heap}{x:Str}{y:Value}(r:VR h (.str x) y):∃t,y=.str x t:=by cases r;exact⟨_,rfl⟩
theorem VR.ref_inv {h:Heap}{a:Addr}{y:Value}(r:VR h (.ref a) y):y=.ref a:=by cases r;rfl
theorem VR.bool_inv {h:Heap}{b:Bool}{y:Value}(r:VR h (.bool b) y):y=.bool b:=by cases r;rfl
theorem VR.none_inv {h:Heap}{y:Value}(r:VR h .none y):y=.none:=by cases r;rfl
theorem VR.tup_inv {h:Heap}{vs:List Val}{y:Value}(r:VR h (.tup vs) y):∃a n ys,y=.ref a/\h.get? a=some ⟨.type "tuple",.none,.seq (List.toArray ys) n,#[]⟩/\VRs h vs ys:=by
 cases r with | tup e l k=>exact⟨_,_,_,rfl,e,l,k⟩
noncomputable def IsT (o:Obj):Prop:=o.cls=.type "tuple"/\∃xs k,o.data=.seq xs k
theorem notT {o:Obj}{T:String}(h:o.cls=.type T)(n:(T == "tuple")=false:=by rfl):¬IsT o:=λt=>by
 have:=h.symm.trans t.1
 cases this;cases n
noncomputable def TK (h h':Heap):Prop:=∀a o,h.get? a=some o->IsT o->h'.get? a=some o
theorem TK.refl (h:Heap):TK h h:=λ_ _ e _=>e
theorem TK.trans {h1 h2 h3:Heap}(x:TK h1 h2)(y:TK h2 h3):TK h1 h3:=λa o e c=>y a o (x a o e c) c
theorem TK.of_keep {h h':Heap}(k:∀b o,h.get? b=some o->h'.get? b=some o):TK h h':=λa o e _=>k a o e
theorem TK.extBut {h h':Heap}{a:Addr}{o:Obj}(hs:Heap.ExtBut a h h')(ho:h.get? a=some o)(hc:¬IsT o):TK h h':=λb o' e c=>
 hs b o' (λq=>by subst q;rw[ho] at e;cases e;exact hc c) e
theorem TK.sameButT {h h':Heap}{a:Addr}{o:Obj}(hs:Heap.SameBut a h h')(ho:h.get? a=some o)(hc:¬IsT o):TK h h':=.extBut hs.extBut ho hc
theorem TK.sameBut {h h':Heap}{a:Addr}{o:Obj}(hs:Heap.SameBut a h h')(ho:h.get? a=some o)(hc:o.cls≠.type "tuple"):TK h h':=.sameButT hs ho λc=>hc c.1
theorem VR.mono {h h':Heap}(k:TK h h'){v:Val}{y:Value}(r:VR h v y):VR h' v y:=by
 induction r with
 | none=>exact .none
 | bool b=>exact .bool b
 | int i t=>exact .int i t
 | str x t=>exact .str x t
 | ref a=>exact .ref a
 | tup e l _ ih=>exact .tup (k _ _ e ⟨rfl,_,_,rfl⟩) l ih
theorem VRs.mono {h h':Heap}(k:TK h h'){vs:List Val}{ys:List Value}(r:VRs h vs ys):VRs h' vs ys:=⟨r.length,λi v y a b=>(r.at_ i v y a b).mono k⟩
section
variable {h:Heap}
theorem VRs.get {vs:List Val}{ys:List Value}(r:VRs h vs ys){i:Nat}{v:Val}(e:vs[i]?=some v):∃y,ys[i]?=some y/\VR h v y:=by
 have hi:=(List.getElem?_eq_some_iff.mp e).1
 rw[r.length] at hi
 exact⟨_,List.getElem?_eq_getElem hi,r.at_ i v _ e (List.getElem?_eq_getElem hi)⟩
theorem VRs.nil:VRs h [] []:=⟨rfl,λi v y a _=>by cases a⟩
theorem VRs.cons {v:Val}{vs:List Val}{y:Value}{ys:List Value}(a:VR h v y)(r:VRs h vs ys):VRs h (v::vs) (y::ys):=
 ⟨congrArg (· + 1) r.length,λi w z e1 e2=>by
  cases i with
  | zero=>cases e1;cases e2;exact a
  | succ i=>exact r.at_ i w z e1 e2⟩
theorem VRs.cons_inv {v:Val}{vs:List Val}{zs:List Value}(r:VRs h (v::vs) zs):∃y ys,zs=y::ys/\VR h v y/\VRs h vs ys:=by
 cases zs with
 | nil=>exact absurd r.length (by simp)
 | cons y ys=>exact⟨y,ys,rfl,r.at_ 0 v y rfl rfl,by simpa using r.length,λi w z e1 e2=>r.at_ (i+1) w z e1 e2⟩
theorem VRs.nil_inv {zs:List Value}(r:VRs h [] zs):zs=[]:=List.length_eq_zero_iff.mp r.length.symm
theorem VRs.one_inv {v:Val}{zs:List Value}(r:VRs h [v] zs):∃y,zs=[y]/\VR h v y:=by
 obtain⟨y,ys,e,a,b⟩:=r.cons_inv
 exact⟨y,by rw[e,b.nil_inv],a⟩
theorem VRs.two_inv {v w:Val}{zs:List Value}(r:VRs h [v,w] zs):∃y z,zs=[y,z]/\VR h v y/\VR h w z:=by
 obtain⟨y,ys,e,a,b⟩:=r.cons_inv
 obtain⟨z,e',c⟩:=b.one_inv
 exact⟨y,z,by rw[e,e'],a,c⟩
theorem VRs.single {v:Val}{y:Value}(a:VR h v y):VRs h [v] [y]:=.cons a .nil
theorem VRs.append {vs ws:List Val}{ys zs:List Value}(a:VRs h vs ys)(b:VRs h ws zs):VRs h (vs++ws) (ys++zs):=
 ⟨by rw[List.length_append,List.length_append,a.length,b.length],λi v y e1 e2=>by
  by_cases hi:i<vs.length
  ·rw[List.getElem?_append_left hi] at e1
   rw[List.getElem?_append_left (a.length▸hi)] at e2
   exact a.at_ i v y e1 e2
  ·rw[List.getElem?_append_right (Nat.le_of_not_lt hi)] at e1
   rw[List.getElem?_append_right (Nat.le_of_not_lt (a.length▸hi))] at e2
   exact b.at_ _ v y e1 (by rw[a.length];exact e2)⟩
theorem VRs.take {vs:List Val}{ys:List Value}(a:VRs h vs ys)(n:Nat):VRs h (vs.take n) (ys.take n):=
 ⟨by rw[List.length_take,List.length_take,a.length],λi v y e1 e2=>by
  rw[List.getElem?_take] at e1 e2
  by_cases hi:i<n
  ·rw[if_pos hi] at e1 e2;exact a.at_ i v y e1 e2
  ·rw[if_neg hi] at e1;cases e1⟩
theorem VRs.drop {vs:List Val}{ys:List Value}(a:VRs h vs ys)(n:Nat):VRs h (vs.drop n) (ys.drop n):=
 ⟨by rw[List.length_drop,List.length_drop,a.length],λi v y e1 e2=>by
  rw[List.getElem?_drop] at e1 e2;exact a.at_ _ v y e1 e2⟩
theorem VRs.reverse {vs:List Val}{ys:List Value}(a:VRs h vs ys):VRs h vs.reverse ys.reverse:=
 ⟨by rw[List.length_reverse,List.length_reverse,a.length],λi v y e1 e2=>by
  have hi:=(List.getElem?_eq_some_iff.mp e1).1
  rw[List.length_reverse] at hi
  rw[List.getElem?_reverse hi] at e1
  rw[List.getElem?_reverse (a.length▸hi),<-a.length] at e2
  exact a.at_ _ v y e1 e2⟩
theorem VRs.set {vs:List Val}{ys:List Value}(a:VRs h vs ys)(j:Nat){v:Val}{y:Value}(b:VR h v y):VRs h (vs.set j v) (ys.set j y):=
 ⟨by rw[List.length_set,List.length_set,a.length],λi w z e1 e2=>by
  rw[List.getElem?_set] at e1 e2
  by_cases hj:j=i
  ·rw[if_pos hj] at e1 e2
   by_cases hl:i<vs.length
   ·rw[if_pos (hj▸hl)] at e1;rw[if_pos (hj▸a.length▸hl)] at e2;cases e1;cases e2;exact b
   ·rw[if_neg (hj▸hl)] at e1;cases e1
  ·rw[if_neg hj] at e1 e2;exact a.at_ i w z e1 e2⟩
end
structure Cx where
 prog:Program
 w:World
 K:Frag
 H0:Heap
 mg:Str->Option Value
 mb:Str->Option Value
 cA:Cls->Addr
 kin:K.In H0
 ng:H0.Ns mainGlobals mg
 nb:H0.Ns builtinsNs mb
 lim:H0.NoLimit
inductive DR (h:Heap):List (Int×Val)->List (Int×Value)->Prop where
 | nil:DR h [] []
 | cons {k:Int} {v:Val} {y:Value} {es:List (Int×Val)} {ys:List (Int×Value)}:VR h v y->DR h es ys->DR h ((k,v)::es) ((k,y)::ys)
theorem DR.mono {h h':Heap}(k:TK h h'){es:List (Int×Val)}{ys:List (Int×Value)}(d:DR h es ys):DR h' es ys:=by
 induction d with
 | nil=>exact .nil
 | cons a _ ih=>exact .cons (a.mono k) ih
noncomputable def FR (h:Heap)(od:Obj)(fs:Fld->Option Val):Prop:=∀f:Fld,(∀v,fs f=some v->∃y,lookIn f.txt od=some (some y)/\VR h v y)/\(fs f=none->lookIn f.txt od=some none)
theorem FR.mono {h h':Heap}(k:TK h h'){od:Obj}{fs:Fld->Option Val}(r:FR h od fs):FR h' od fs:=λf=>
 ⟨λv e=>by obtain⟨y,a,b⟩:=(r f).1 v e;exact⟨y,a,b.mono k⟩,(r f).2⟩
noncomputable def cap:Nat:=1048576
theorem uo {a:Nat}(h:a<cap):a+1<=2 * cap:=Nat.le_trans h (Nat.le_mul_of_pos_left cap (by decide))
theorem yc {a:Nat}(h:a<cap):a<=2 * cap:=Nat.le_of_succ_le (uo h)
theorem zDi {a:Nat}(h:a<=2 * cap):a<=16777216:=Nat.le_trans h (by unfold cap;decide)
theorem zHh {a:Nat}(h:a<=2 * cap):(a:Int)<2 ^ 63:=Int.lt_of_le_of_lt (Int.ofNat_le.mpr h) (by unfold cap;decide)
theorem zJZ {k:Int}(h:k<(cap:Int)):k<2 ^ 63:=Int.lt_trans h (by unfold cap;decide)
theorem zGF {i:Int}{c:Nat}{d:Int}(h:i.natAbs<c)(hd:(c:Int)<=d):i<d:=Int.lt_of_lt_of_le (Int.lt_of_le_of_lt Int.le_natAbs (Int.ofNat_lt.mpr h)) hd
theorem zHi {i:Int}{c:Nat}{d:Int}(h:i.natAbs<c)(hd:(c:Int)<=d) : -d<i:=by
 have:=zGF (i:=-i) (by rw[Int.natAbs_neg];exact h) hd
 exact Int.neg_lt_of_neg_lt this
theorem zEn {m i k:Nat}(hk:k=m+1 - i)(h:i<m):m+1 - (i+1)<k:=by rw[hk,Nat.add_sub_add_right,Nat.succ_sub (Nat.le_of_lt h)];exact Nat.lt_succ_self _
theorem zJG {j i z:Nat}(hj:j<i+1)(h:¬j=z)(hz:z=i):j<i:=Nat.lt_of_le_of_ne (Nat.le_of_lt_succ hj) λq=>h (q.trans hz.symm)
theorem zDx {i m:Nat}:i+(m+1)=i+1+m:=(Nat.succ_add_eq_add_succ i m).symm
theorem noI {C:Prop}{i:Int}(h:i<0)(h0:0<=i):C:=absurd h0 (Int.not_le.mpr h)
noncomputable def cntF (fs:Fld->Option Val):Nat:=Fld.all.countP λf=>(fs f).isSome
theorem zIK (fs:Fld->Option Val):cntF fs<=16:=List.countP_le_length
theorem zDe {α:Type}[DecidableEq α](p:α->Bool)(f:α)(l:List α)(hn:l.Nodup)(hm:f∈l):(l.countP λg=>if g=f then true else p g)=l.countP p+(if p f then 0 else 1):=by
 induction l with
 | nil=>cases hm
 | cons a l ih=>
  have hn':=List.nodup_cons.mp hn
  rw[List.countP_cons,List.countP_cons]
  by_cases ha:a=f
  ·subst ha
   have:(l.countP λg=>if g=a then true else p g)=l.countP p:=
    List.countP_congr λx hx=>by rw[if_neg (λq:x=a=>hn'.1 (q▸hx))]
   rw[this,if_pos rfl]
   cases p a<;>rfl
  ·rw[ih hn'.2 ((List.mem_cons.mp hm).resolve_left (Ne.symm ha)),if_neg ha]
   lia
theorem zG2 (fs:Fld->Option Val)(f:Fld)(v:Val):cntF (λg=>if g=f then some v else fs g)=cntF fs+(if (fs f).isSome then 0 else 1):=by
 refine Eq.trans (congrArg (λp=>List.countP p Fld.all) ?_) (zDe (λg=>(fs g).isSome) f Fld.all (by decide) (by cases f<;>decide))
 funext g
 by_cases q:g=f
 ·simp only [if_pos q];rfl
 ·simp only [if_neg q]
noncomputable def SetI (h:Heap)(a:Addr)(S:Int->Bool):Prop:=∃(ks:List (Int×Tok)) (ep:Nat) (t:SetTable),
 h.get? a=some ⟨.type "set",none,.set (ks.map λk=>(hashInt k.1,Value.int k.1 k.2)).toArray ep t,#[]⟩/\(ks.map (·.1)).Nodup/\(∀k,S k=true↔k∈ks.map (·.1))/\t.fits ks.length=true/\∀k∈ks.map (·.1),0<=k/\k<32
noncomputable def Is (X:Cx)(h:Heap)(a:Addr):GObj->Prop
 | .list xs=>xs.length<=2 * cap/\∃ys n,h.get? a=some ⟨.type "list",none,.seq ys n,#[]⟩/\VRs h xs ys.toList
 | .dict es=>es.length<=2 * cap/\∃kvs:List (Int×Value),h.DictOf (intKind X.prog X.w) a kvs/\DR h es kvs
 | .set S fr=>SetI h a S/\(fr=true->∃led,h.get? a=some ⟨.type "set",none,.set #[] 0 (.fresh 0 0 led),#[]⟩)
 | .inst c fs=>∃d es n,h.get? a=some ⟨.ref (X.cA c),some d,.plain,#[]⟩/\h.get? d=some ⟨.type "dict",none,.dict es n,#[]⟩/\es.size<=cntF fs/\FR h ⟨.type "dict",none,.dict es n,#[]⟩ fs
noncomputable def GObj.isInst:GObj->Bool
 | .inst ..=>true
 | _=>false
theorem Is.obj {X:Cx}{h:Heap}{a:Addr}{g:GObj}(i:Is X h a g):∃o,h.get? a=some o/\¬IsT o/\(g.isInst=false->o.dict=none):=by
 cases g with
 | list xs=>obtain⟨_,ys,n,e,_⟩:=i;exact⟨_,e,notT rfl,λ_=>rfl⟩
 | dict es=>obtain⟨_,kvs,⟨o,_,_,e,x,_⟩,_⟩:=i;exact⟨_,e,notT x.1,λ_=>x.2.1⟩
 | set S fr=>obtain⟨⟨_,_,_,e,_⟩,_⟩:=i;exact⟨_,e,notT rfl,λ_=>rfl⟩
 | inst c fs=>obtain⟨d,es,n,e,_⟩:=i;exact⟨_,e,(λt=>nomatch t.1),λq=>(nomatch q)⟩
theorem Is.move {X:Cx}{h h':Heap}{a:Addr}{g:GObj}(i:Is X h a g)(k:TK h h')(ha:∀o,h.get? a=some o->h'.get? a=some o)
  (hd:∀o d,h.get? a=some o->o.dict=some d->∀od,h.get? d=some od->h'.get? d=some od):Is X h' a g:=by
 cases g with
 | list xs=>obtain⟨l,ys,n,e,r⟩:=i;exact⟨l,ys,n,ha _ e,r.mono k⟩
 | dict es=>obtain⟨l,kvs,⟨o,es',ep,e,x⟩,r⟩:=i;exact⟨l,kvs,⟨o,es',ep,ha _ e,x⟩,r.mono k⟩
 | set S fr=>obtain⟨⟨ks,ep,t,e,x⟩,r⟩:=i;exact⟨⟨ks,ep,t,ha _ e,x⟩,λq=>(r q).elim λled z=>⟨led,ha _ z⟩⟩
 | inst c fs=>obtain⟨d,es,n,e,e',z,r⟩:=i;exact⟨d,es,n,ha _ e,hd _ _ e rfl _ e',z,r.mono k⟩
noncomputable abbrev Bs:=Addr->Option Obj
noncomputable def Bs.put (b:Bs)(a:Addr)(o:Obj):Bs:=λx=>if x=a then some o else b x
noncomputable def Bs.del (b:Bs)(a:Addr):Bs:=λx=>if x=a then none else b x
theorem Bs.put_ne {b:Bs}{a x:Addr}{o:Obj}(h:x≠a):b.put a o x=b x:=if_neg h
theorem Bs.put_eq {b:Bs}{a:Addr}{o:Obj}:b.put a o a=some o:=if_pos rfl
theorem Bs.del_ne {b:Bs}{a x:Addr}(h:x≠a):b.del a x=b x:=if_neg h
structure Rep (X:Cx)(b:Bs)(G:Gh)(h:Heap):Prop where
 keep:∀a o,b a=some o->h.get? a=some o
 low:∀a g,G a=some g->a≠sysModules
 own:∀a g,G a=some g->b a=none/\Is X h a g
 dsep:∀a c fs o d,G a=some (.inst c fs)->h.get? a=some o->o.dict=some d->b d=none/\G d=none/\∀a' c' fs' o',G a'=some (.inst c' fs')->h.get? a'=some o'->o'.dict=some d->a'=a
theorem Rep.step {X:Cx}{W:Addr->Prop}{b b':Bs}{G:Gh}{h h':Heap}(r:Rep X b G h)
  (hW:∀a,W a->∃o,b a=some o/\¬IsT o) (hk:∀a o,¬W a->h.get? a=some o->h'.get? a=some o)
  (hb':∀a o,b' a=some o->h'.get? a=some o) (hsub:∀a o,b' a=some o->(b a).isSome=true\/h.get? a=none\/IsT o):Rep X b' G h'/\TK h h':=by
 have tk:TK h h':=λa o e t=>hk a o (λw=>by obtain⟨o',e',n⟩:=hW a w;rw[r.keep _ _ e'] at e;cases e;exact n t) e
 have nW:∀a,b a=none->¬W a:=λa e w=>by obtain⟨_,e',_⟩:=hW a w;rw[e] at e';cases e'
 have nb:∀a o,b a=none->h.get? a=some o->¬IsT o->b' a=none:=λa o e ho ht=>by
  cases q:b' a with
  | none=>rfl
  | some o'=>
   rcases hsub a o' q with z | z | z
   ·rw[e] at z;cases z
   ·rw[z] at ho;cases ho
   ·have:=hb' a o' q
    rw[hk a o (nW a e) ho] at this;cases this;exact absurd z ht
 refine⟨⟨hb',r.low,λa g e=>?_,λa c fs o d e e1 e2=>?_⟩,tk⟩
 ·obtain⟨p,i⟩:=r.own a g e
  obtain⟨o,ho,hc,hd⟩:=i.obj
  refine⟨nb a o p ho hc,i.move tk (λo=>hk a o (nW a p)) λo' d eo ed od eod=>?_⟩
  rw[ho] at eo;cases eo
  cases g with
  | inst c fs=>exact hk d od (nW d (r.dsep a _ _ o d e ho ed).1) eod
  | _=>rw[hd rfl] at ed;cases ed
 ·obtain⟨p,i⟩:=r.own a _ e
  obtain⟨d0,es,nn,f1,f2,_⟩:=id i
  rw[hk a _ (nW a p) f1] at e1;cases e1;cases e2
  obtain⟨q1,q2,q3⟩:=r.dsep a c fs _ d e f1 rfl
  refine⟨nb d _ q1 f2 (notT rfl),q2,λa' c' fs' o' e' e1' e2'=>?_⟩
  obtain⟨p',i'⟩:=r.own a' _ e'
  obtain⟨_,_,_,g1,_⟩:=i'
  rw[hk a' _ (nW a' p') g1] at e1';cases e1'
  exact q3 a' c' fs' _ e' g1 e2'
theorem Rep.mono {X:Cx}{b:Bs}{G:Gh}{h h':Heap}(r:Rep X b G h)(k:∀a o,h.get? a=some o->h'.get? a=some o):Rep X b G h':=
 (r.step (W:=λ_=>False) (λ_ f=>f.elim) (λa o _ e=>k a o e) (λa o e=>k a o (r.keep a o e)) λa o e=>.inl (by rw[e];rfl)).1
theorem Rep.less {X:Cx}{b b':Bs}{G:Gh}{h:Heap}(r:Rep X b' G h)(k:∀a o,b a=some o->b' a=some o):Rep X b G h:=
 (r.step (W:=λ_=>False) (λ_ f=>f.elim) (λa o _ e=>e) (λa o e=>r.keep a o (k a o e)) λa o e=>.inl (by rw[k a o e];rfl)).1
theorem Rep.own_change {X:Cx}{b:Bs}{G:Gh}{h h':Heap}{a:Addr}{g:GObj}(r:Rep X b G h)(ni:g.isInst=false)(hl:a≠sysModules)(hb:b a=none)(hd:∀x c fs ox,G x=some (.inst c fs)->h.get? x=some ox->ox.dict≠some a/\x≠a)
  (tk:TK h h') (hs:∀x o,x≠a->h.get? x=some o->h'.get? x=some o) (i:Is X h' a g):Rep X b (G.upd a g) h':=by
 refine⟨λx ox e=>hs x ox (λq=>by rw[q,hb] at e;cases e) (r.keep x ox e),λx gx e=>?_,λx gx e=>?_,λx c fs ox d e e1 e2=>?_⟩
 ·by_cases q:x=a
  ·rw[q];exact hl
  ·rw[Gh.upd_ne _ _ q] at e;exact r.low x gx e
 ·by_cases q:x=a
  ·subst q;rw[Gh.upd_same] at e;cases e;exact⟨hb,i⟩
  ·rw[Gh.upd_ne _ _ q] at e
   refine⟨(r.own x gx e).1,(r.own x gx e).2.move tk (λox eo=>hs x ox q eo) λox d eo ed od eod=>hs d od ?_ eod⟩
   obtain⟨o2,eo2,_,ed2⟩:=(r.own x gx e).2.obj
   rw[eo2] at eo;cases eo
   revert ed2
   cases gx with
   | inst c fs=>exact λ_ q'=>(hd x _ _ _ e eo2).1 (q'▸ed)
   | _=>intro ed2;rw[ed2 rfl] at ed;cases ed
 ·by_cases q:x=a
  ·subst q;rw[Gh.upd_same] at e;cases e;cases ni
  ·rw[Gh.upd_ne _ _ q] at e
   have back:∀{y c0 f0 o},y≠a->G y=some (.inst c0 f0)->h'.get? y=some o->h.get? y=some o:=λ{y c0 f0 o} n q1 q2=>by
    obtain⟨d0,_,_,e3,_⟩:=(r.own _ _ q1).2
    rw[hs y _ n e3] at q2;cases q2;exact e3
   have e1':=back q e e1
   obtain⟨p1,p2,p3⟩:=r.dsep x c fs ox d e e1' e2
   refine⟨p1,(Gh.upd_ne _ _ λq':d=a=>(hd x c fs ox e e1').1 (q'▸e2)).trans p2,λa' c' fs' o' f f1 f2=>?_⟩
   by_cases q':a'=a
   ·subst q';rw[Gh.upd_same] at f;cases f;cases ni
   ·rw[Gh.upd_ne _ _ q'] at f
    exact p3 a' c' fs' o' f (back q' f f1) f2
theorem Rep.noG {X:Cx}{b:Bs}{G:Gh}{h:Heap}{a:Addr}(r:Rep X b G h)(hn:h.get? a=none):G a=none:=by
 cases q:G a with
 | none=>rfl
 | some g=>obtain⟨o,ho,_⟩:=(r.own _ _ q).2.obj;rw[hn] at ho;cases ho
theorem Rep.noB {X:Cx}{b:Bs}{G:Gh}{h:Heap}{a:Addr}(r:Rep X b G h)(hn:h.get? a=none):b a=none:=by
 cases q:b a with
 | none=>rfl
 | some o=>rw[r.keep _ _ q] at hn;cases hn
theorem Rep.alloc {X:Cx}{b:Bs}{G:Gh}{h h':Heap}{a:Addr}{g:GObj}(r:Rep X b G h)(k:∀a o,h.get? a=some o->h'.get? a=some o)(hn:h.get? a=none)(hl:a≠sysModules)(i:Is X h' a g)(ni:g.isInst=false) :
  Rep X b (G.upd a g) h':=
 r.own_change ni hl (r.noB hn) (λx c fs ox e e1=>⟨λq=>(by obtain⟨d,_,_,e2,e3,_⟩:=(r.own _ _ e).2;rw[e1] at e2;cases e2;cases q;rw[hn] at e3;cases e3),λq=>(by rw[q,hn] at e1;cases e1)⟩)
  (.of_keep k) (λx o _ e=>k x o e) i
theorem Rep.change {X:Cx}{b:Bs}{G:Gh}{h h':Heap}{a:Addr}{g g':GObj}(r:Rep X b G h)(hg:G a=some g)(ni:g.isInst=false)(ni':g'.isInst=false)(hs:Heap.SameBut a h h')(i:Is X h' a g') :
  Rep X b (G.upd a g') h'/\TK h h':=by
 obtain⟨hb,i0⟩:=r.own a g hg
 obtain⟨o,ho,hc,_⟩:=i0.obj
 have tk:TK h h':=.sameButT hs ho hc
 exact⟨r.own_change ni' (r.low a g hg) hb (λx c fs ox e e1=>⟨λq=>(by have:=(r.dsep x c fs ox a e e1 q).2.1;rw[hg] at this;cases this),λq=>(by rw[q,hg] at e;cases e;cases ni)⟩) tk (λx o n e=>(hs.2 x n).trans e) i,tk⟩
theorem Rep.one {X:Cx}{b:Bs}{G:Gh}{h h':Heap}{a:Addr}{o o':Obj}(r:Rep X b G h)(hb:b a=some o)(ht:¬IsT o)(hs:Heap.ExtBut a h h')(ho:h'.get? a=some o'):Rep X (b.put a o') G h'/\TK h h':=
 r.step (W:=λx=>x=a) (λx e=>by subst e;exact⟨o,hb,ht⟩) (λx o hx e=>hs x o hx e) (λx ox e=>by
  by_cases q:x=a
  ·subst q;rw[Bs.put_eq] at e;cases e;exact ho
  ·rw[Bs.put_ne q] at e;exact hs x ox q (r.keep _ _ e)) λx ox e=>.inl (by
  by_cases q:x=a
  ·subst q;rw[hb];rfl
  ·rw[Bs.put_ne q] at e;rw[e];rfl)
theorem Rep.gone {X:Cx}{b:Bs}{G:Gh}{h h':Heap}{a:Addr}{o:Obj}(r:Rep X b G h)(hb:b a=some o)(ht:¬IsT o)(hs:Heap.ExtBut a h h'):Rep X (b.del a) G h'/\TK h h':=
 r.step (W:=λx=>x=a) (λx e=>by subst e;exact⟨o,hb,ht⟩) (λx o hx e=>hs x o hx e) (λx ox e=>by
  by_cases q:x=a
  ·rw[q] at e;unfold Bs.del at e;rw[if_pos rfl] at e;cases e
  ·rw[Bs.del_ne q] at e;exact hs x ox q (r.keep _ _ e)) λx ox e=>.inl (by
  by_cases q:x=a
  ·rw[q] at e;unfold Bs.del at e;rw[if_pos rfl] at e;cases e
  ·rw[Bs.del_ne q] at e;rw[e];rfl)
theorem Rep.hide {X:Cx}{b:Bs}{G:Gh}{h h':Heap}{a:Addr}{o:Obj}(r:Rep X b G h)(k:∀a o,h.get? a=some o->h'.get? a=some o)(hn:h.get? a=none)(ho:h'.get? a=some o):Rep X (b.put a o) G h':=
 (r.step (W:=λ_=>False) (λ_ f=>f.elim) (λa o _ e=>k a o e) (λx ox e=>by
  by_cases q:x=a
  ·subst q;rw[Bs.put_eq] at e;cases e;exact ho
  ·rw[Bs.put_ne q] at e;exact k x ox (r.keep _ _ e)) λx ox e=>by
  by_cases q:x=a
  ·subst q;exact .inr (.inl hn)
  ·rw[Bs.put_ne q] at e;exact .inl (by rw[e];rfl)).1
end
noncomputable section
noncomputable abbrev M:=Str->Val->Prop
noncomputable def M.upd (m:M)(x:Str)(v:Val):M:=λy w=>(y=x/\w=v)\/(y≠x/\m y w)
inductive RD (G:Gh):Nat->Val->PyData->Prop where
 | none {n:Nat}:RD G n .none .none
 | bool {n:Nat} (b:Bool):RD G n (.bool b) (.bool b)
 | int {n:Nat} (i:Int):RD G n (.int i) (.int i)
 | str {n:Nat} {x:Str}:PyData.strOk x=true->RD G n (.str x) (.str x)
 | tup {n:Nat} {vs:List Val} {ds:List PyData}:vs.length=ds.length->(∀(i:Nat) (v:Val) (d:PyData),vs[i]?=some v->ds[i]?=some d->RD G n v d)->RD G (n+1) (.tup vs) (.tuple ds)
 | list {n:Nat} {a:Addr} {vs:List Val} {ds:List PyData}:G a=some (.list vs)->vs.length=ds.length->(∀(i:Nat) (v:Val) (d:PyData),vs[i]?=some v->ds[i]?=some d->RD G n v d)->RD G (n+1) (.ref a) (.list ds)
structure RDs (G:Gh)(n:Nat)(vs:List Val)(ds:List PyData):Prop where
 length:vs.length=ds.length
 at_:∀(i:Nat) (v:Val) (d:PyData),vs[i]?=some v->ds[i]?=some d->RD G n v d
theorem RD.tup' {G:Gh}{n:Nat}{vs:List Val}{ds:List PyData}(r:RDs G n vs ds):RD G (n+1) (.tup vs) (.tuple ds):=.tup r.length r.at_
theorem RD.list' {G:Gh}{n:Nat}{a:Addr}{vs:List Val}{ds:List PyData}(e:G a=some (.list vs))(r:RDs G n vs ds):RD G (n+1) (.ref a) (.list ds):=.list e r.length r.at_
theorem RDs.nil {G:Gh}{n:Nat}:RDs G n [] []:=⟨rfl,λi v d a _=>by cases a⟩
theorem RDs.cons {G:Gh}{n:Nat}{v:Val}{d:PyData}{vs:List Val}{ds:List PyData}(a:RD G n v d)(r:RDs G n vs ds):RDs G n (v::vs) (d::ds):=
 ⟨congrArg (· + 1) r.length,λi w z e1 e2=>by
  cases i with
  | zero=>cases e1;cases e2;exact a
  | succ i=>exact r.at_ i w z e1 e2⟩
theorem RDs.map {α:Type}{G:Gh}{n:Nat}(f:α->Val)(g:α->PyData)(l:List α)(h:∀x∈l,RD G n (f x) (g x)):RDs G n (l.map f) (l.map g):=
 ⟨by rw[List.length_map,List.length_map],λi v d e1 e2=>by
  rw[List.getElem?_map] at e1 e2
  cases q:l[i]? with
  | none=>rw[q] at e1;cases e1
  | some x=>rw[q] at e1 e2;cases e1;cases e2;exact h x (List.mem_of_getElem? q)⟩
noncomputable def b2i (b:Bool):Int:=if b then 1 else 0
noncomputable def zq (es:List (Int×Val))(k:Int):Option Val:=(es.find? λkv=>kv.1=k).map (·.2)
noncomputable def uX (es:List (Int×Val))(k:Int)(v:Val):List (Int×Val):=
 if es.any (λkv=>kv.1=k) then es.map (λkv=>if kv.1=k then(kv.1,v) else kv) else es++[(k,v)]
noncomputable def wW {α:Type}(xs:List α)(i:Int):Option α:=if 0<=i then xs[i.toNat]? else if 0<=i+xs.length then xs[(i+xs.length).toNat]? else none
noncomputable def slice {α:Type}(xs:List α)(lo hi:Option Int):List α:=(xs.drop (kms_lo lo xs.length)).take (kms_hi hi xs.length - kms_lo lo xs.length)
noncomputable def vC (k:Nat):List Val:=(List.range k).map λ(i:Nat)=>Val.int i
noncomputable def zBa (xs:List Val):List Val:=xs.zipIdx.map λp=>.tup [.int p.2,p.1]
noncomputable abbrev QE:=Val->Gh->Prop
noncomputable def newList (xs:List Val)(G:Gh)(Q:QE):Prop:=∀c,G c=none->Q (.ref c) (G.upd c (.list xs))
noncomputable abbrev NoE:Value->Shared->Prop:=λ_ _=>False
structure AOk (A:Around)(n:Nat):Prop where
 hd:A.handled=none
 dep:A.depth+3 * n+20<=recursionLimit
 uni:A.units+30 * n+300<=cLine
structure Fwd (s s':Shared):Prop where
 tk:TK s.heap s'.heap
 g:s'.gens=s.gens
 o:s'.os=s.os
theorem Fwd.refl {s:Shared}:Fwd s s:=⟨.refl _,rfl,rfl⟩
theorem Fwd.trans {s s₁ s2:Shared}(x:Fwd s s₁)(y:Fwd s₁ s2):Fwd s s2:=⟨x.tk.trans y.tk,y.g.trans x.g,y.o.trans x.o⟩
inductive Out (X:Cx)(b:Bs)(s:Shared)(Q:QE)(x:Value)(s':Shared):Prop where
 | mk (v:Val) (G':Gh) (hv:VR s'.heap v x) (hr:Rep X b G' s'.heap) (f:Fwd s s') (q:Q v G')
inductive OutT (X:Cx)(b:Bs)(s:Shared)(Q:Bool->Gh->Prop)(t:Bool)(s':Shared):Prop where
 | mk (G':Gh) (hr:Rep X b G' s'.heap) (f:Fwd s s') (q:Q t G')
theorem Out.next {X:Cx}{b:Bs}{s s₁:Shared}{Q:QE}{x:Value}{s':Shared}(o:Out X b s₁ Q x s')(f:Fwd s s₁):Out X b s Q x s':=by
 cases o with | mk v G' a1 a2 a3 a4=>exact .mk v G' a1 a2 (f.trans a3) a4
theorem OutT.next {X:Cx}{b:Bs}{s s₁:Shared}{Q:Bool->Gh->Prop}{x:Bool}{s':Shared}(o:OutT X b s₁ Q x s')(f:Fwd s s₁):OutT X b s Q x s':=by
 cases o with | mk G' a2 a3 a4=>exact .mk G' a2 (f.trans a3) a4
theorem Out.here {X:Cx}{b:Bs}{G:Gh}{s:Shared}{tk:Tok}{Q:QE}{v:Val}{x:Value}(r:Rep X b G s.heap)(hv:VR s.heap v x)(q:Q v G):Out X b s Q x { s with toks:=tk }:=
 .mk v G hv r ⟨.refl _,rfl,rfl⟩ q
theorem Out.grow {X:Cx}{b:Bs}{G:Gh}{s:Shared}{h':Heap}{tk:Tok}{Q:QE}{v:Val}{x:Value}(r:Rep X b G s.heap)(hv:VR h' v x)(hh:∀a o,s.heap.get? a=some o->h'.get? a=some o)(q:Q v G):Out X b s Q x { s with heap:=h',toks:=tk }:=
 .mk v G hv (r.mono hh) ⟨.of_keep hh,rfl,rfl⟩ q
noncomputable def Base (X:Cx)(b:Bs):Prop:=∀a o,X.H0.get? a=some o->b a=some o
theorem Base.kin {X:Cx}{b:Bs}{G:Gh}{h:Heap}(hb:Base X b)(hr:Rep X b G h):X.K.In h:=X.kin.keeps λa o e=>hr.keep _ _ (hb _ _ e)
theorem Base.kp {X:Cx}{b:Bs}{G:Gh}{h:Heap}(hb:Base X b)(hr:Rep X b G h):∀a o,X.H0.get? a=some o->h.get? a=some o:=λa o e=>hr.keep _ _ (hb _ _ e)
noncomputable def scOK (sc:Scope):Bool:=decide (sc.names.map (·.1)).Nodup&&sc.names.all λp=>!(p.1 == ("__classdict__" : Str))&&!(p.1 == ("__debug__" : Str))
structure Zr (X:Cx)(sc:Scope)(env:Env):Prop where
 scope:env.scope=sc
 kind:sc.kind=.function
 glob:env.globals=mainGlobals
 blt:env.builtins=builtinsNs
 cel:∀x,sc.names.lookup x=some .cell->∃a,env.cells.lookup x=some a
 code:∃a o vs,env.code=.ref a/\X.K.lookup a=some o/\o.data=.fields vs
 ok:scOK sc=true
theorem zR {α:Type}{x:Str}{a:α}{l:List (Str×α)}(h:l.lookup x=some a):(x,a)∈l:=by
 induction l with
 | nil=>cases h
 | cons p l ih=>
  rw[List.lookup_cons] at h
  split at h
  ·rename_i q;cases h;rw[eq_of_beq q];exact .head _
  ·exact .tail _ (ih h)
theorem zI {α:Type}{x:Str}{a:α}{l:List (Str×α)}(hn:(l.map (·.1)).Nodup)(h:(x,a)∈l):l.lookup x=some a:=by
 induction l with
 | nil=>cases h
 | cons p l ih=>
  obtain⟨n1,n2⟩:=List.nodup_cons.mp hn
  rw[List.lookup_cons]
  rcases List.mem_cons.mp h with e | h
  ·rw[<-e,beq_self_eq_true]
  ·have:(x == p.1)=false:=by
    rw[beq_eq_false_iff_ne]
    intro q;apply n1;show p.1∈_;rw[<-q];exact List.mem_map_of_mem (f:=(·.1)) h
   rw[this];exact ih n2 h
section
variable {X:Cx}{n:Nat}{sc:Scope}{env:Env}
theorem scOK.nd (h:scOK sc=true):(sc.names.map (·.1)).Nodup:=of_decide_eq_true (Bool.and_eq_true_iff.mp h).1
theorem scOK.no (h:scOK sc=true){x:Str}{k:NameKind}(hx:(x,k)∈sc.names):(x == ("__classdict__" : Str))=false/\(x == ("__debug__" : Str))=false:=by
 have:=List.all_eq_true.mp (Bool.and_eq_true_iff.mp h).2 _ hx
 simpa using this
theorem Zr.kindOf (h:Zr X sc env)(x:Str):env.kindOf x=sc.names.lookup x:=by unfold Env.kindOf;rw[h.scope]
theorem Zr.dbg (h:Zr X sc env){x:Str}{k:NameKind}(hk:env.kindOf x=some k):(x == ("__debug__" : Str))=false:=by
 rw[h.kindOf] at hk
 exact(scOK.no h.ok (zR hk)).2
end
noncomputable def Yg (env:Env)(b:Bs)(name:Str)(y:Value):Prop:=
 (env.kindOf name=some .local/\∃o es ep,b env.locals=some o/\o.data=.dict es ep/\StrKeys es/\nsFind es name=some y) \/
 ((env.kindOf name=some .cell\/env.kindOf name=some .free)/\∃ca o,env.cells.lookup name=some ca/\b ca=some o/\o.data=.cell (some y))
theorem Yg.imp {env:Env}{b b':Bs}{x:Str}{y:Value}(h:Yg env b x y)(k1:∀o es ep,b env.locals=some o->o.data=.dict es ep->b' env.locals=some o)(k2:∀ca o v,env.cells.lookup x=some ca->b ca=some o->o.data=.cell v->b' ca=some o):Yg env b' x y:=by
 rcases h with ⟨h1,o,es,ep,h2,h3,r⟩ | ⟨h1,ca,o,h3,h4,h5⟩
 ·exact .inl ⟨h1,o,es,ep,k1 _ _ _ h2 h3,h3,r⟩
 ·exact .inr ⟨h1,ca,o,h3,k2 _ _ _ h3 h4 h5,h5⟩
noncomputable def Frm (env:Env)(b:Bs)(h:Heap)(m:M):Prop:=∀x v,m x v->∃y,VR h v y/\Yg env b x y
theorem Frm.mono {env:Env}{b:Bs}{h h':Heap}{m:M}(f:Frm env b h m)(k:TK h h'):Frm env b h' m:=λx v e=>by
 obtain⟨y,a,c⟩:=f x v e;exact⟨y,a.mono k,c⟩
theorem Frm.weak {env:Env}{b:Bs}{h:Heap}{m m':M}(f:Frm env b h m)(k:∀x v,m' x v->m x v):Frm env b h m':=λx v e=>f x v (k x v e)
structure Hy (X:Cx)(n:Nat)(sc:Scope)(env:Env)(A:Around)(b:Bs)(m:M)(G:Gh)(s:Shared):Prop where
 he:Zr X sc env
 hA:AOk A n
 hb:Base X b
 hr:Rep X b G s.heap
 hf:Frm env b s.heap m
theorem Hy.next {X:Cx}{n:Nat}{sc:Scope}{env:Env}{A:Around}{b:Bs}{m:M}{G G':Gh}{s s':Shared}(h:Hy X n sc env A b m G s)(r:Rep X b G' s'.heap)(f:Fwd s s'):Hy X n sc env A b m G' s':=⟨h.he,h.hA,h.hb,r,h.hf.mono f.tk⟩
structure Sn (X:Cx)(n:Nat)(sc:Scope)(e:Expr)(m:M)(G:Gh)(Q:QE):Prop where
 go:∀{env:Env} {A:Around} {b:Bs} {s:Shared},Hy X n sc env A b m G s->wpAny (model X.prog X.w) A (eval e env) (Out X b s Q) NoE s
structure SnT (X:Cx)(n:Nat)(sc:Scope)(e:Expr)(m:M)(G:Gh)(Q:Bool->Gh->Prop):Prop where
 go:∀{env:Env} {A:Around} {b:Bs} {s:Shared},Hy X n sc env A b m G s->wpAny (model X.prog X.w) A (isTrue e env (eval e env)) (OutT X b s Q) NoE s
theorem zA {α:Type}{M:Model}{A:Around}{t:Sem α}{P Q:α->Shared->Prop}{s:Shared}(h:wpAny M A t P NoE s)(k:∀a s',P a s'->Q a s'):wpAny M A t Q NoE s:=wpAny_mono h k λ_ _ x=>x
theorem zN {α:Type}{M:Model}{A:Around}{t:Sem α}{P Q:α->Shared->Prop}{E:Value->Shared->Prop}{s:Shared}(h:wpAny M A t P NoE s)(k:∀a s',P a s'->Q a s'):wpAny M A t Q E s:=wpAny_mono h k λ_ _ f=>f.elim
section
variable {X:Cx}{n:Nat}{sc:Scope}{env:Env}{A:Around}{b:Bs}{m:M}{G:Gh}{s:Shared}{Q:QE}{e:Expr}
theorem Out.elim {x:Value}{s':Shared}{P:Prop}(o:Out X b s Q x s')(k:∀v G',VR s'.heap v x->Rep X b G' s'.heap->Fwd s s'->Q v G'->P):P:=by
 cases o with | mk v G' a1 a2 a3 a4=>exact k v G' a1 a2 a3 a4
theorem OutT.elim {Q:Bool->Gh->Prop}{t:Bool}{s':Shared}{P:Prop}(o:OutT X b s Q t s')(k:∀G',Rep X b G' s'.heap->Fwd s s'->Q t G'->P):P:=by
 cases o with | mk G' a2 a3 a4=>exact k G' a2 a3 a4
theorem Sn.use {P:Value->Shared->Prop}(h:Sn X n sc e m G Q)(hy:Hy X n sc env A b m G s)(k:∀x s₁ v G1,VR s₁.heap v x->Hy X n sc env A b m G1 s₁->Fwd s s₁->Q v G1->P x s₁):wpAny (model X.prog X.w) A (eval e env) P NoE s:=
 zA (h.go hy) λx s₁ o=>o.elim λv G' a1 a2 a3 a4=>k x s₁ v G' a1 (hy.next a2 a3) a3 a4
theorem SnT.use {Q:Bool->Gh->Prop}{P:Bool->Shared->Prop}(h:SnT X n sc e m G Q)(hy:Hy X n sc env A b m G s)(k:∀t s₁ G1,Hy X n sc env A b m G1 s₁->Fwd s s₁->Q t G1->P t s₁):wpAny (model X.prog X.w) A (isTrue e env (eval e env)) P NoE s:=
 zA (h.go hy) λx s₁ o=>o.elim λG' a2 a3 a4=>k x s₁ G' (hy.next a2 a3) a3 a4
theorem Sn.mono {Q':QE}(h:Sn X n sc e m G Q)(k:∀v G',Q v G'->Q' v G'):Sn X n sc e m G Q':=⟨λhy=>zA (h.go hy) λx s₁ o=>o.elim λv G' a1 a2 a3 a4=>.mk v G' a1 a2 a3 (k v G' a4)⟩
theorem SnT.mono {Q Q':Bool->Gh->Prop}(h:SnT X n sc e m G Q)(k:∀v G',Q v G'->Q' v G'):SnT X n sc e m G Q':=⟨λhy=>zA (h.go hy) λx s₁ o=>o.elim λG' a2 a3 a4=>.mk G' a2 a3 (k x G' a4)⟩
theorem Sn.noneC {k:Nat}{pos:Pos}(q:Q .none G):Sn X n sc (.Constant .none k pos) m G Q:=⟨λhy=>Constant_none (.mk _ _ .none hy.hr .refl q)⟩
theorem Sn.tru {t:Bool}{k:Nat}{pos:Pos}(q:Q (.bool t) G):Sn X n sc (.Constant (.bool t) k pos) m G Q:=⟨λhy=>Constant_bool (.mk _ _ (.bool t) hy.hr .refl q)⟩
theorem Sn.int {i:Int}{k:Nat}{pos:Pos}(q:Q (.int i) G):Sn X n sc (.Constant (.int i) k pos) m G Q:=⟨λhy=>wpAny_Constant_int (Out.here hy.hr (.int i _) q)⟩
theorem Sn.str {x:Str}{k:Nat}{pos:Pos}(q:Q (.str x) G):Sn X n sc (.Constant (.str x) k pos) m G Q:=⟨λhy=>wpAny_Constant_str (Out.here hy.hr (.str x _) q)⟩
theorem vv {Mo:Model}{E:Value->Shared->Prop}{name:Str}{y:Value}{Q:Value->Shared->Prop}(he:Zr X sc env)(hr:Rep X b G s.heap)(hs:Yg env b name y)(q:Q y s) :
  wpAny Mo A (loadName env name) Q E s:=by
 have hk':env.scope.kind=.function:=by rw[he.scope];exact he.kind
 rcases hs with ⟨hk,o,es,ep,hb,hd,hsk,hn⟩ | ⟨hk,ca,o,hc,hb,hd⟩
 ·exact wpAny_loadName_local (m:=λx=>nsFind es x) hk' hk ⟨o,es,ep,hr.keep _ _ hb,hd,hsk,λ_=>rfl⟩ hn q
 ·have ho:=hr.keep _ _ hb
  rcases hk with hk | hk
  ·exact wpAny_loadName_cell hk' hk hc ⟨o,ho,hd⟩ q
  ·have hx:=hk
   rw[he.kindOf] at hx
   exact wpAny_loadName_free (hn:=(scOK.no he.ok (zR hx)).1) hk' hk hc ⟨o,ho,hd⟩ q
theorem Yg.kind {name:Str}{y:Value}(h:Yg env b name y):∃k,env.kindOf name=some k:=by
 rcases h with ⟨h,_⟩ | ⟨h | h,_⟩<;>exact⟨_,h⟩
theorem Sn.var {x:Str}{v:Val}{pos:Pos}(hx:m x v)(q:Q v G):Sn X n sc (.Name x pos) m G Q:=⟨λhy=>by
 obtain⟨y,hv,hs⟩:=hy.hf x v hx
 obtain⟨k,hk⟩:=hs.kind
 exact wpAny_Name (vv hy.he hy.hr hs (Out.here hy.hr hv q)) (hy.he.dbg hk)⟩
theorem z9 {k:Nat}(h:k<cap):k<=sizeLine:=by rw[sizeLine_eq];exact zDi (yc h)
theorem zm {h:Heap}{a:Addr}(ha:h.objs.size<=a):h.get? a=Option.none:=by
 cases q:h.get? a with
 | none=>rfl
 | some o=>exact absurd (Heap.lt_size q) (Nat.not_lt.mpr ha)
theorem hlow {h:Heap}(hb:Base X b)(hr:Rep X b G h):h.objs.size≠sysModules:=by
 obtain⟨mc,⟨o,es,ep,ho,_⟩,_⟩:=X.lim
 have:(2:Nat)<h.objs.size:=Heap.lt_size (hb.kp hr _ _ ho)
 exact λq=>by rw[q] at this;exact absurd this (by decide)
theorem zHe {s':Shared}{xs:List Val}{ys:Array Value}{D:Addr}{k:Nat}(hb:Base X b)(hr:Rep X b G s.heap)(hl:xs.length<=2 * cap)(kp:∀a o,s.heap.get? a=some o->s'.heap.get? a=some o)(hn:s.heap.get? D=Option.none)
  (hD:s'.heap.get? D=some ⟨.type "list",Option.none,.seq ys k,#[]⟩) (hlow:D≠sysModules) (hv:VRs s'.heap xs ys.toList) (hg:s'.gens=s.gens) (ho:s'.os=s.os) (h:newList xs G Q):Out X b s Q (.ref D) s':=
 .mk (.ref _) _ (.ref _) (hr.alloc (g:=.list xs) kp hn hlow ⟨hl,ys,k,hD,hv⟩ rfl) ⟨.of_keep kp,hg,ho⟩ (h _ (hr.noG hn))
theorem newL {xs:List Val}{ys:Array Value}(hb:Base X b)(hr:Rep X b G s.heap)(hl:xs.length<=2 * cap)(hv:VRs s.heap xs ys.toList)(h:newList xs G Q) :
  Out X b s Q (.ref s.heap.objs.size) { s with heap:=s.heap.push { cls:=.type "list",data:=.seq ys } }:=
 have kp:∀a o,s.heap.get? a=some o->(s.heap.push { cls:=.type "list",data:=.seq ys }).get? a=some o:=λa o e=>Heap.get?_push_of_some _ e
 zHe hb hr hl kp (zm (Nat.le_refl _)) (Heap.get?_push_size _ rfl) (hlow hb hr) (hv.mono (.of_keep kp)) rfl rfl h
theorem newT {vs:List Val}{ys:List Value}(hr:Rep X b G s.heap)(hv:VRs s.heap vs ys)(h:Q (.tup vs) G) :
  Out X b s Q (.ref s.heap.objs.size) { s with heap:=s.heap.push { cls:=.type "tuple",data:=.seq ys.toArray } }:=by
 have kp:∀a o,s.heap.get? a=some o->(s.heap.push { cls:=.type "tuple",data:=.seq ys.toArray }).get? a=some o:=λa o e=>Heap.get?_push_of_some _ e
 exact .grow (tk:=s.toks) hr (.tup' (Heap.get?_push_size _ rfl) (hv.mono (.of_keep kp))) kp h
structure Op1 (X:Cx)(n:Nat)(f:Value->Sem Value)(v:Val)(G:Gh)(Q:QE):Prop where
 go:∀{A:Around} {b:Bs} {s:Shared} {x:Value},AOk A n->Base X b->Rep X b G s.heap->VR s.heap v x->wpAny (model X.prog X.w) A (f x) (Out X b s Q) NoE s
structure Op2 (X:Cx)(n:Nat)(f:Value->Value->Sem Value)(v w:Val)(G:Gh)(Q:QE):Prop where
 go:∀{A:Around} {b:Bs} {s:Shared} {x y:Value},AOk A n->Base X b->Rep X b G s.heap->VR s.heap v x->VR s.heap w y->wpAny (model X.prog X.w) A (f x y) (Out X b s Q) NoE s
structure OpN (X:Cx)(n:Nat)(f:List Value->Sem Value)(vs:List Val)(G:Gh)(Q:QE):Prop where
 go:∀{A:Around} {b:Bs} {s:Shared} {ys:List Value},AOk A n->Base X b->Rep X b G s.heap->VRs s.heap vs ys->wpAny (model X.prog X.w) A (f ys) (Out X b s Q) NoE s
theorem Op2.ints {f:Value->Value->Sem Value}{i j:Int}(h:∀{A:Around} {b:Bs} {s:Shared} {t u:Tok},Rep X b G s.heap->wpAny (model X.prog X.w) A (f (.int i t) (.int j u)) (Out X b s Q) NoE s):Op2 X n f (.int i) (.int j) G Q:=by
 refine⟨λ{A b s x y} hA hb hr hv hw=>?_⟩
 obtain⟨t,rfl⟩:=hv.int_inv
 obtain⟨u,rfl⟩:=hw.int_inv
 exact h hr
theorem Op2.add {i j:Int}(q:Q (.int (i+j)) G):Op2 X n (binaryOp .Add) (.int i) (.int j) G Q:=.ints λhr=>P.add_int (Out.here hr (.int _ _) q)
theorem Op2.sub {i j:Int}(q:Q (.int (i - j)) G):Op2 X n (binaryOp .Sub) (.int i) (.int j) G Q:=.ints λhr=>P.sub_int (Out.here hr (.int _ _) q)
theorem zFW {i:Int}(h:i.natAbs<2 ^ 63):Builtin.Int.intBits i<=64:=intBits_le_64 (zHi h (by decide)) (zGF h (by decide))
theorem Op2.mulL {i j:Int}(h:i.natAbs<2 ^ 63)(q:Q (.int (i * j)) G):Op2 X n (binaryOp .Mult) (.int i) (.int j) G Q:=.ints λhr=>P.mul_int (Out.here hr (.int _ _) q) (IntMulOk.of_left (zFW h))
theorem Op2.mulR {i j:Int}(h:j.natAbs<2 ^ 63)(q:Q (.int (i * j)) G):Op2 X n (binaryOp .Mult) (.int i) (.int j) G Q:=.ints λhr=>P.mul_int (Out.here hr (.int _ _) q) (IntMulOk.of_right (zFW h))
theorem zIr {i j:Int}(h:j.natAbs<8589934592):Builtin.divisionGoesByPylong i j=false:=PyProof.noPylong_of_log2 (by
 by_cases h0:j.natAbs=0
 ·rw[h0];decide +kernel
 ·have:j.natAbs.log2<34:=(Nat.log2_lt h0).mpr (Nat.lt_trans h (by decide))
  exact Nat.lt_trans this (by decide))
theorem Op2.fdiv {i j:Int}(h0:j≠0)(h:j.natAbs<8589934592)(q:Q (.int (i.fdiv j)) G):Op2 X n (binaryOp .FloorDiv) (.int i) (.int j) G Q:=.ints λhr=>floordiv_int h0 (Out.here hr (.int _ _) q) (.inl (zIr h))
theorem Op2.mod {i j:Int}(h0:j≠0)(q:Q (.int (i.fmod j)) G):Op2 X n (binaryOp .Mod) (.int i) (.int j) G Q:=.ints λhr=>mod_int' h0 (Out.here hr (.int _ _) q)
theorem Op2.pow {i j:Int}(h1:0<=j)(h2:j<=1000)(h3:i.natAbs<1024)(q:Q (.int (i ^ j.toNat)) G):Op2 X n (binaryOp .Pow) (.int i) (.int j) G Q:=.ints λhr=>pow_int h1 (by
 have hb:=zFW (i:=i) (Nat.lt_trans h3 (by decide))
 have:(Builtin.Int.intBits i:Int) * j<=64 * 1000:=Int.mul_le_mul (by exact_mod_cast hb) h2 h1 (by decide)
 lia) (Out.here hr (.int _ _) q)
theorem Op2.band {i j:Int}(q:Q (.int (Builtin.bitAnd i j)) G):Op2 X n (binaryOp .BitAnd) (.int i) (.int j) G Q:=.ints λhr=>and_int (Out.here hr (.int _ _) q)
theorem Op2.bor {i j:Int}(q:Q (.int (Builtin.bitOr i j)) G):Op2 X n (binaryOp .BitOr) (.int i) (.int j) G Q:=.ints λhr=>or_int (Out.here hr (.int _ _) q)
theorem Op2.bxor {i j:Int}(q:Q (.int (Builtin.bitXor i j)) G):Op2 X n (binaryOp .BitXor) (.int i) (.int j) G Q:=.ints λhr=>xor_int (Out.here hr (.int _ _) q)
theorem zJ {a:Addr}{xs:List Val}{h:Heap}(hr:Rep X b G h)(e:G a=some (.list xs)):∃ys k,xs.length<=2 * cap/\h.get? a=some ⟨.type "list",Option.none,.seq ys k,#[]⟩/\VRs h xs ys.toList/\xs.length=ys.size:=by
 obtain⟨l,ys,k,ho,hs⟩:=(hr.own _ _ e).2
 exact⟨ys,k,l,ho,hs,by rw[hs.length,Array.length_toList]⟩
theorem Op2.addL {p q:Addr}{xs ys:List Val}(e1:G p=some (.list xs))(e2:G q=some (.list ys))(hl:xs.length+ys.length<cap)(h:newList (xs++ys) G Q):Op2 X n (binaryOp .Add) (.ref p) (.ref q) G Q:=by
 refine⟨λ{A b s x y} hA hb hr hv hw=>?_⟩
 rw[hv.ref_inv,hw.ref_inv]
 obtain⟨zs,k,_,hz,hzs,l1⟩:=zJ hr e1
 obtain⟨us,k',_,hu,hus,l2⟩:=zJ hr e2
 exact P.add_list hz hu (newL hb hr (by rw[List.length_append];exact yc hl) (by rw[Array.toList_append];exact hzs.append hus) h) (by rw[<-l1,<-l2];exact z9 hl)
theorem Sn.two {l r:Expr}{K:Val->Val->Gh->Prop}{P:Value->Value->Shared->Prop}(hl:Sn X n sc l m G λv G1=>Sn X n sc r m G1 (K v))(hy:Hy X n sc env A b m G s)
  (k:∀x y s2 v w G2,VR s2.heap v x->VR s2.heap w y->Hy X n sc env A b m G2 s2->Fwd s s2->K v w G2->P x y s2) :
  wpAny (model X.prog X.w) A (eval l env) (λx s₁=>wpAny (model X.prog X.w) A (eval r env) (P x) NoE s₁) NoE s:=
 hl.use hy λx s₁ v G1 hv hy1 f1 h1=>Sn.use h1 hy1 λy s2 w G2 hw hy2 f2 h2=>k x y s2 v w G2 (hv.mono f2.tk) hw hy2 (f1.trans f2) h2
theorem Sn.bin {l r:Expr}{op:Operator}{pos:Pos}(h:Sn X n sc l m G λv G1=>Sn X n sc r m G1 λw G2=>Op2 X n (binaryOp op) v w G2 Q):Sn X n sc (.BinOp l op r pos) m G Q:=⟨λhy=>
 wpAny_BinOp (h.two hy λx y s2 v w G2 hv hw hy2 f2 h2=>zA (h2.go hy2.hA hy2.hb hy2.hr hv hw) λ_ _ q=>q.next f2)⟩
theorem Sn.neg {l:Expr}{pos:Pos}(h:Sn X n sc l m G λv G1=>∃i,v=.int i/\Q (.int (-i)) G1):Sn X n sc (.UnaryOp .USub l pos) m G Q:=⟨λhy=>
 UnaryOp_ (h.use hy λx s₁ v G1 hv hy1 f1 h1=>by
  obtain⟨i,rfl,q⟩:=h1
  obtain⟨t,rfl⟩:=hv.int_inv
  exact P.neg_int ((Out.here hy1.hr (.int _ _) q).next f1))⟩
end
end
noncomputable section
section
variable {X:Cx}{n:Nat}{sc:Scope}{env:Env}{A:Around}{b:Bs}{m:M}{G:Gh}{s:Shared}{Q:QE}{e:Expr}
theorem vB {h:Heap}{vs:List Val}{ds:List PyData}(hl:vs.length=ds.length)(k:∀(i:Nat) (v:Val) (d:PyData),vs[i]?=some v->ds[i]?=some d->∀y,VR h v y->∃as,Reads h y d as) :
  ∀{ys:List Value},VRs h vs ys->∃as,ReadsAll h ys ds as:=by
 induction vs generalizing ds with
 | nil=>intro ys r;rw[r.nil_inv,List.length_eq_zero_iff.mp hl.symm];exact⟨_,.nil⟩
 | cons v vs ih=>
  intro ys r
  obtain⟨y,zs,rfl,a,r'⟩:=r.cons_inv
  cases ds with
  | nil=>cases hl
  | cons d ds=>
   obtain⟨as,x⟩:=k 0 v d rfl rfl y a
   obtain⟨bs,z⟩:=ih (Nat.succ.inj hl) (λi v d e1 e2=>k (i+1) v d e1 e2) r'
   exact⟨_,.cons x z⟩
theorem wu {h:Heap}(hr:Rep X b G h){k:Nat}{v:Val}{d:PyData}(r:RD G k v d):∀y,VR h v y->∃as,Reads h y d as:=by
 induction r with
 | none=>intro y q;rw[q.none_inv];exact⟨_,.none⟩
 | bool t=>intro y q;rw[q.bool_inv];exact⟨_,.bool _⟩
 | int i=>intro y q;obtain⟨t,rfl⟩:=q.int_inv;exact⟨_,.int _ _⟩
 | str _=>intro y q;obtain⟨t,rfl⟩:=q.str_inv;exact⟨_,.str _ _⟩
 | tup hl _ ih=>
  intro y q
  obtain⟨a,k,ys,rfl,e,r⟩:=q.tup_inv
  obtain⟨as,x⟩:=vB hl ih r
  exact⟨_,.tuple e rfl rfl x⟩
 | list hg hl _ ih=>
  intro y q
  rw[q.ref_inv]
  obtain⟨ys,k,_,e,r,_⟩:=zJ hr hg
  obtain⟨as,x⟩:=vB hl ih r
  exact⟨_,.list e rfl rfl x⟩
theorem zB0 {k:Nat}:∀{ds:List PyData},(∀d∈ds,d.canLay0=true/\d.depth<=k)->PyData.canLayAll0 ds=true/\PyData.depthAll ds<=k:=by
 intro ds
 induction ds with
 | nil=>intro _;exact⟨rfl,Nat.zero_le _⟩
 | cons d ds ih=>
  intro h
  obtain⟨a1,a2⟩:=h d (.head _)
  obtain⟨b1,b2⟩:=ih λd hd=>h d (.tail _ hd)
  exact⟨by unfold PyData.canLayAll0;rw[a1,b1];rfl,by unfold PyData.depthAll;exact Nat.max_le.mpr ⟨a2,b2⟩⟩
theorem zCt {vs:List Val}{ds:List PyData}(hl:vs.length=ds.length){d:PyData}(h:d∈ds):∃(i:Nat) (v:Val),vs[i]?=some v/\ds[i]?=some d:=by
 obtain⟨i,hi⟩:=List.mem_iff_getElem?.mp h
 have:=(List.getElem?_eq_some_iff.mp hi).1
 rw[<-hl] at this
 exact⟨i,_,List.getElem?_eq_getElem this,hi⟩
theorem vI {k:Nat}{v:Val}{d:PyData}(r:RD G k v d):d.canLay0=true/\d.depth<=k:=by
 induction r with
 | none=>exact⟨rfl,Nat.zero_le _⟩
 | bool t=>exact⟨rfl,Nat.zero_le _⟩
 | int i=>exact⟨rfl,Nat.zero_le _⟩
 | str h=>exact⟨by unfold PyData.canLay0;exact h,Nat.zero_le _⟩
 | tup hl _ ih=>
  obtain⟨a,c⟩:=zB0 λd hd=>by obtain⟨i,v,e1,e2⟩:=zCt hl hd;exact ih i v d e1 e2
  exact⟨by unfold PyData.canLay0;exact a,by unfold PyData.depth;exact Nat.succ_le_succ c⟩
 | list _ hl _ ih=>
  obtain⟨a,c⟩:=zB0 λd hd=>by obtain⟨i,v,e1,e2⟩:=zCt hl hd;exact ih i v d e1 e2
  exact⟨by unfold PyData.canLay0;exact a,by unfold PyData.depth;exact Nat.succ_le_succ c⟩
theorem jo {v:Val}{d:PyData}(r:RD G 12 v d):SeqAt.shaped d=true:=by
 obtain⟨a,c⟩:=vI r
 unfold SeqAt.shaped
 rw[a,Bool.true_and];exact decide_eq_true (Nat.le_trans c (by decide))
section
variable {v w:Val}
theorem zHG {u k:Nat}(h:u+30 * k+300<=cLine):u+64<cLine:=Nat.lt_of_lt_of_le (Nat.lt_of_lt_of_le (Nat.add_lt_add_left (by decide:64<300) u) (Nat.add_le_add_right (Nat.le_add_right u _) _)) h
theorem uni1 {u k a d:Nat}(h:u+30 * k+300<=cLine)(hd:d<=12):u+1+min a d<cLine:=Nat.lt_of_le_of_lt (by rw[Nat.add_assoc];exact Nat.add_le_add_left (Nat.le_trans (Nat.add_le_add_left (Nat.le_trans (Nat.min_le_right a d) hd) 1) (by decide)) u) (zHG h)
theorem Op2.eq {d e:PyData}(r1:RD G 12 v d)(r2:RD G 12 w e)(q:Q (.bool (d.eqv e)) G):Op2 X n (compareOp .Eq) v w G Q:=by
 refine⟨λhA hb hr hv hw=>?_⟩
 obtain⟨as,x1⟩:=wu hr r1 _ hv
 obtain⟨bs,x2⟩:=wu hr r2 _ hw
 exact eq_dataH x1 x2 (jo r1) (jo r2) (zHG hA.uni) (Out.here hr (.bool _) q)
theorem Op2.ne {d e:PyData}(r1:RD G 12 v d)(r2:RD G 12 w e)(q:Q (.bool (!d.eqv e)) G):Op2 X n (compareOp .NotEq) v w G Q:=by
 refine⟨λhA hb hr hv hw=>?_⟩
 obtain⟨as,x1⟩:=wu hr r1 _ hv
 obtain⟨bs,x2⟩:=wu hr r2 _ hw
 exact ne_dataH x1 x2 (jo r1) (jo r2) (zHG hA.uni) (Out.here hr (.bool _) q)
theorem Op2.eqI {i j:Int}(q:Q (.bool (i == j)) G):Op2 X n (compareOp .Eq) (.int i) (.int j) G Q:=.ints λhr=>P.eq_int (Out.here hr (.bool _) q)
theorem Op2.neI {i j:Int}(q:Q (.bool (!(i == j))) G):Op2 X n (compareOp .NotEq) (.int i) (.int j) G Q:=.ints λhr=>P.ne_int (Out.here hr (.bool _) q)
theorem Op2.lt {i j:Int}(q:Q (.bool (decide (i<j))) G):Op2 X n (compareOp .Lt) (.int i) (.int j) G Q:=.ints λhr=>P.lt_int (Out.here hr (.bool _) q)
theorem Op2.le {i j:Int}(q:Q (.bool (decide (i<=j))) G):Op2 X n (compareOp .LtE) (.int i) (.int j) G Q:=.ints λhr=>P.le_int (Out.here hr (.bool _) q)
theorem Op2.ge {i j:Int}(q:Q (.bool (decide (i >= j))) G):Op2 X n (compareOp .GtE) (.int i) (.int j) G Q:=.ints λhr=>P.ge_int (Out.here hr (.bool _) q)
theorem Op2.strs {f:Value->Value->Sem Value}{i j:Str}(h:∀{A:Around} {b:Bs} {s:Shared} {t u:Tok},Rep X b G s.heap->wpAny (model X.prog X.w) A (f (.str i t) (.str j u)) (Out X b s Q) NoE s):Op2 X n f (.str i) (.str j) G Q:=by
 refine⟨λ{A b s x y} hA hb hr hv hw=>?_⟩
 obtain⟨t,rfl⟩:=hv.str_inv
 obtain⟨u,rfl⟩:=hw.str_inv
 exact h hr
theorem Op2.eqS {i j:Str}(q:Q (.bool (i == j)) G):Op2 X n (compareOp .Eq) (.str i) (.str j) G Q:=.strs λhr=>PyProof.Rows.eq_str (Out.here hr (.bool _) q)
theorem Op2.neS {i j:Str}(q:Q (.bool (!(i == j))) G):Op2 X n (compareOp .NotEq) (.str i) (.str j) G Q:=.strs λhr=>PyProof.Rows.ne_str (Out.here hr (.bool _) q)
theorem Op2.isNone (q:Q (.bool true) G):Op2 X n (compareOp .Is) .none .none G Q:=⟨λhA hb hr hv hw=>by
 rw[hv.none_inv,hw.none_inv];exact is_none_none (.mk _ _ (.bool _) hr .refl q)⟩
theorem Op2.isNoneI {i:Int}(q:Q (.bool false) G):Op2 X n (compareOp .Is) (.int i) .none G Q:=⟨λhA hb hr hv hw=>by
 obtain⟨t,rfl⟩:=hv.int_inv
 rw[hw.none_inv];exact is_none_ne (λq=>nomatch q) (.mk _ _ (.bool _) hr .refl q)⟩
theorem Op2.inD {ds:List PyData}{d:PyData}(r1:RD G 12 v d)(r2:RD G 12 w (.tuple ds)\/RD G 12 w (.list ds))(q:Q (.bool (ds.any λe=>e.eqv d)) G):Op2 X n (compareOp .In) v w G Q:=by
 refine⟨λhA hb hr hv hw=>?_⟩
 obtain⟨as,x1⟩:=wu hr r1 _ hv
 have l1:=vI r1
 have hu:=hA.uni
 rcases r2 with r2 | r2
 ·obtain⟨bs,x2⟩:=wu hr r2 _ hw
  exact SeqAt.in_tuple_reads x2 x1 (by have:=(vI r2).1;unfold PyData.canLay0 at this;exact this) l1.1 (uni1 hA.uni l1.2) (Out.here hr (.bool _) q)
 ·obtain⟨bs,x2⟩:=wu hr r2 _ hw
  exact SeqAt.in_list_reads x2 x1 (by have:=(vI r2).1;unfold PyData.canLay0 at this;exact this) l1.1 (uni1 hA.uni l1.2) (Out.here hr (.bool _) q)
theorem Op2.notinD {ds:List PyData}{d:PyData}(r1:RD G 12 v d)(r2:RD G 12 w (.tuple ds)\/RD G 12 w (.list ds))(q:Q (.bool (!(ds.any λe=>e.eqv d))) G):Op2 X n (compareOp .NotIn) v w G Q:=by
 refine⟨λhA hb hr hv hw=>?_⟩
 obtain⟨as,x1⟩:=wu hr r1 _ hv
 have l1:=vI r1
 have hu:=hA.uni
 rcases r2 with r2 | r2
 ·obtain⟨bs,x2⟩:=wu hr r2 _ hw
  exact SeqAt.notIn_tuple_reads x2 x1 (by have:=(vI r2).1;unfold PyData.canLay0 at this;exact this) l1.1 (uni1 hA.uni l1.2) (Out.here hr (.bool _) q)
 ·obtain⟨bs,x2⟩:=wu hr r2 _ hw
  exact SeqAt.notIn_list_reads x2 x1 (by have:=(vI r2).1;unfold PyData.canLay0 at this;exact this) l1.1 (uni1 hA.uni l1.2) (Out.here hr (.bool _) q)
end
theorem few (n:Nat):∀(l:List Int),l.Nodup->(∀k∈l,0<=k/\k<n)->l.length<=n:=by
 induction n with
 | zero=>intro l _ h;cases l with | nil=>exact Nat.le_refl _ | cons a r=>exact noI (h a (.head _)).2 (h a (.head _)).1
 | succ n ih=>
  intro l hn h
  have h1:=ih (l.erase (n:Int)) (hn.erase _) λk hk=>by
   have h2:=(List.Nodup.mem_erase_iff hn).mp hk
   have h3:=h k h2.2
   have h4:=h2.1
   lia
  have:=List.length_erase_of_mem (a:=(n:Int)) (l:=l)
  by_cases hm:(n:Int)∈l
  ·rw[this hm] at h1;exact Nat.le_add_of_sub_le h1
  ·rw[List.erase_of_not_mem hm] at h1;exact Nat.le_succ_of_le h1
theorem SetI.small {h:Heap}{a:Addr}{S:Int->Bool}(i:SetI h a S):∀k,S k=true->0<=k/\k<32:=by
 obtain⟨ks,ep,t,e,hn,hm,hf,hr⟩:=i
 exact λk hk=>hr k ((hm k).mp hk)
theorem zEs {k j:Int}{t:Tok}:(intKind X.prog X.w).is k (Value.int j t)=decide (j=k):=by
 show Value.isInt k (Value.int j t)=_
 by_cases hk:j=k
 ·subst hk;simp [Value.isInt]
 ·simp [Value.isInt,hk]
noncomputable abbrev zC (ks:List (Int×Tok)):List (Int×Value):=ks.map λk=>(hashInt k.1,Value.int k.1 k.2)
theorem jR (ks:List (Int×Tok)):ElemsOf (intKind X.prog X.w) (zC ks):=λx hx=>by
 obtain⟨k,_,rfl⟩:=List.mem_map.mp hx
 exact⟨⟨k.1,by rw[zEs];exact decide_eq_true rfl,rfl⟩,rfl⟩
theorem zCs {ks:List (Int×Tok)}(k:Int):(∃e∈zC ks,(intKind X.prog X.w).is k e.2=true)↔k∈ks.map (·.1):=by
 constructor
 ·rintro ⟨e,he,hk⟩
  obtain⟨p,hp,rfl⟩:=List.mem_map.mp he
  rw[zEs] at hk
  exact List.mem_map.mpr ⟨p,hp,of_decide_eq_true hk⟩
 ·intro h
  obtain⟨p,hp,rfl⟩:=List.mem_map.mp h
  exact⟨_,List.mem_map_of_mem hp,by rw[zEs];exact decide_eq_true rfl⟩
theorem SetI.parts {h:Heap}{a:Addr}{S:Int->Bool}(i:SetI h a S):∃l:List Int,l.Nodup/\(∀x,S x=true↔x∈l)/\l.length<=32/\h.SetOf (intKind X.prog X.w) a S l.length:=by
 obtain⟨ks,ep,t,e,hn,hm,hf,hr⟩:=i
 have hl:=few 32 _ hn hr
 refine⟨_,hn,hm,hl,_,_,ep,t,e,⟨rfl,rfl,rfl⟩,rfl,jR ks,λk=>?_,?_,?_,?_⟩
 ·rw[hm k,<-zCs (X:=X)]
 ·rw[List.size_toArray,List.length_map];rw[List.length_map] at hl;exact Nat.lt_of_le_of_lt hl (by unfold scanBound;decide)
 ·rw[List.size_toArray,List.length_map];exact hf
 ·rw[List.size_toArray,List.length_map,List.length_map]
theorem DR.look {h:Heap}{es:List (Int×Val)}{kvs:List (Int×Value)}(d:DR h es kvs)(k:Int):(∀v,zq es k=some v->∃y,valueAt kvs k=some y/\VR h v y)/\(zq es k=none->valueAt kvs k=none):=by
 induction d with
 | nil=>exact⟨λv e=>(nomatch e),λ_=>rfl⟩
 | @cons k' v y es ys hv _ ih=>
  unfold zq valueAt at ih ⊢
  rw[List.find?_cons,List.find?_cons]
  by_cases hk:k'=k
  ·simp only [hk,decide_true]
   exact⟨λw e=>by cases e;exact⟨_,rfl,hv⟩,λe=>nomatch e⟩
  ·simp only [hk,decide_false];exact ih
theorem DR.length {h:Heap}{es:List (Int×Val)}{kvs:List (Int×Value)}(d:DR h es kvs):es.length=kvs.length:=by
 induction d with
 | nil=>rfl
 | cons _ _ ih=>exact congrArg (· + 1) ih
theorem DR.isSome {h:Heap}{es:List (Int×Val)}{kvs:List (Int×Value)}(d:DR h es kvs)(k:Int):(valueAt kvs k).isSome=(zq es k).isSome:=by
 cases e:zq es k with
 | none=>rw[(d.look k).2 e];rfl
 | some v=>obtain⟨y,q,_⟩:=(d.look k).1 v e;rw[q];rfl
theorem zBT {h:Heap}(hr:Rep X b G h){a:Addr}{g:GObj}(e:G a=some g):(a == sysModules)=false:=beq_eq_false_iff_ne.mpr (hr.low a g e)
theorem Op2.inDict {k:Int}{a:Addr}{es:List (Int×Val)}(e:G a=some (.dict es))(q:Q (.bool (zq es k).isSome) G):Op2 X n (compareOp .In) (.int k) (.ref a) G Q:=⟨λhA hb hr hv hw=>by
 obtain⟨t,rfl⟩:=hv.int_inv
 rw[hw.ref_inv]
 obtain⟨_,kvs,hd,hes⟩:=(hr.own _ _ e).2
 refine wpAny_in_of (knd:=intKind X.prog X.w) (intKind_is _ _ _ _) (zBT hr e) hd.mapOf ?_
 rw[hes.isSome]
 exact Out.here hr (.bool _) q⟩
theorem Op2.inSet {k:Int}{a:Addr}{S:Int->Bool}{f:Bool}(e:G a=some (.set S f))(q:Q (.bool (S k)) G):Op2 X n (compareOp .In) (.int k) (.ref a) G Q:=⟨λhA hb hr hv hw=>by
 obtain⟨t,rfl⟩:=hv.int_inv
 rw[hw.ref_inv]
 obtain⟨_,_,_,_,hS⟩:=SetI.parts (X:=X) (hr.own _ _ e).2.1
 exact wpAny_inSet_of (knd:=intKind X.prog X.w) (intKind_is _ _ _ _) rfl hS (Out.here hr (.bool _) q)⟩
theorem Op2.notinSet {k:Int}{a:Addr}{S:Int->Bool}{f:Bool}(e:G a=some (.set S f))(q:Q (.bool (!S k)) G):Op2 X n (compareOp .NotIn) (.int k) (.ref a) G Q:=⟨λhA hb hr hv hw=>by
 obtain⟨t,rfl⟩:=hv.int_inv
 rw[hw.ref_inv]
 obtain⟨_,_,_,_,hS⟩:=SetI.parts (X:=X) (hr.own _ _ e).2.1
 exact wpAny_notInSet_of (knd:=intKind X.prog X.w) (intKind_is _ _ _ _) rfl hS (Out.here hr (.bool _) q)⟩
inductive Tru (G:Gh):Val->Bool->Prop where
 | none:Tru G .none false
 | bool (t:Bool):Tru G (.bool t) t
 | int (i:Int):Tru G (.int i) (i != 0)
 | list {a:Addr} {xs:List Val}:G a=some (.list xs)->Tru G (.ref a) (!xs.isEmpty)
 | dict {a:Addr} {es:List (Int×Val)}:G a=some (.dict es)->Tru G (.ref a) (!es.isEmpty)
theorem jc {Q:Bool->Gh->Prop}{v:Val}{x:Value}{t:Bool}(hr:Rep X b G s.heap)(hv:VR s.heap v x)(ht:Tru G v t)(h:Q t G):wpAny (model X.prog X.w) A (truthy x) (OutT X b s Q) NoE s:=by
 have fin:∀tk,OutT X b s Q t { s with toks:=tk }:=λ_=>.mk G hr ⟨.refl _,rfl,rfl⟩ h
 cases ht with
 | none=>rw[hv.none_inv];exact truthy_none (fin _)
 | bool t=>rw[hv.bool_inv];exact wpAny_truthy_bool (fin _)
 | int i=>obtain⟨u,rfl⟩:=hv.int_inv;exact P.truthy_int (fin _)
 | @list a xs e=>
  rw[hv.ref_inv]
  obtain⟨ys,k,hl,ho,hy,e2⟩:=zJ hr e
  refine wpAny_truthy_list ⟨_,ho,rfl,k,rfl⟩ (by rw[<-e2];exact zHh hl) ?_
  have e1:ys.isEmpty=xs.isEmpty:=by rw[Array.isEmpty,<-e2];cases xs<;>rfl
  rw[e1];exact fin _
 | @dict a es e=>
  rw[hv.ref_inv]
  obtain⟨hl,kvs,hd,hes⟩:=(hr.own _ _ e).2
  have e2:=hes.length
  refine wpAny_truthy_dict (knd:=intKind X.prog X.w) (zBT hr e) hd (by rw[<-e2];exact zHh hl) ?_
  have e1:kvs.isEmpty=es.isEmpty:=by cases hes<;>rfl
  rw[e1];exact fin _
noncomputable abbrev TQ (Q:Bool->Gh->Prop):QE:=λv G=>∃t,Tru G v t/\Q t G
theorem Out.test {Q:Bool->Gh->Prop}{s0:Shared}{x:Value}{s':Shared}(f:Fwd s0 s)(q:Out X b s (TQ Q) x s'):wpAny (model X.prog X.w) A (truthy x) (OutT X b s0 Q) NoE s':=
 q.elim λv G' hv hr f' h=>by obtain⟨t,ht,h⟩:=h;exact zA (jc hr hv ht h) λ_ _ q=>q.next (f.trans f')
theorem SnT.val {Q:Bool->Gh->Prop}(h:Sn X n sc e m G (TQ Q))(hp:∀env whole,isTrue e env whole=(do let v <-whole;standAt e.pos;holding [v] (truthy v)):=by intro _ _;rfl):SnT X n sc e m G Q:=⟨λhy=>
 isTrue_plain (zA (h.go hy) λ_ _ o=>o.test .refl) (hp _ _)⟩
theorem Sn.not {l:Expr}{pos:Pos}(h:Sn X n sc l m G (TQ λt G'=>Q (.bool (!t)) G')):Sn X n sc (.UnaryOp .Not l pos) m G Q:=⟨λhy=>
 UnaryOp_ (zA (h.go hy) λ_ _ o=>not_of (zA (o.test .refl) λt s2 o=>o.elim λG2 hr f h=>.mk _ G2 (.bool _) hr f h))⟩
theorem SnT.not {Q:Bool->Gh->Prop}{l:Expr}{pos:Pos}(h:SnT X n sc l m G λt G'=>Q (!t) G'):SnT X n sc (.UnaryOp .Not l pos) m G Q:=⟨λhy=>
 isTrue_not (zA (h.go hy) λt s₁ o=>o.elim λG2 hr f h=>.mk G2 hr f h)⟩
noncomputable abbrev Two (T F:Prop)(t:Bool):Prop:=(t=true->T)/\(t=false->F)
theorem Sn.ite {t a c:Expr}{pos:Pos}(h:SnT X n sc t m G λr G'=>Two (Sn X n sc a m G' Q) (Sn X n sc c m G' Q) r):Sn X n sc (.IfExp t a c pos) m G Q:=⟨λhy=>
 IfExp_ (h.use hy λr s₁ G1 hy1 f1 h1=>by
  cases r
  ·exact zA ((h1.2 rfl).go hy1) λ_ _ q=>q.next f1
  ·exact zA ((h1.1 rfl).go hy1) λ_ _ q=>q.next f1)⟩
theorem Sn.and1 {a:Expr}{pos:Pos}(h:Sn X n sc a m G Q):Sn X n sc (.BoolOp .And [a] pos) m G Q:=⟨λhy=>BoolOp_one (h.go hy)⟩
theorem Sn.or1 {a:Expr}{pos:Pos}(h:Sn X n sc a m G Q):Sn X n sc (.BoolOp .Or [a] pos) m G Q:=⟨λhy=>BoolOp_one (h.go hy)⟩
theorem Sn.and {a c:Expr}{rest:List Expr}{pos:Pos}(h:Sn X n sc a m G λv G'=>∃t,Tru G' v t/\Two (Sn X n sc (.BoolOp .And (c::rest) pos) m G' Q) (Q v G') t):Sn X n sc (.BoolOp .And (a::c::rest) pos) m G Q:=⟨λhy=>
 BoolOp_and (h.use hy λx s₁ v G1 hv hy1 f1 h1=>by
  obtain⟨t,ht,h1⟩:=h1
  refine zA (jc (Q:=λt' G'=>t'=t/\G'=G1) hy1.hr hv ht ⟨rfl,rfl⟩) λt' s2 o=>o.elim λG' hr f q=>?_
  obtain⟨rfl,rfl⟩:=q
  cases t'
  ·exact .mk v G' (hv.mono f.tk) hr (f1.trans f) (h1.2 rfl)
  ·exact zA ((h1.1 rfl).go (hy1.next hr f)) λ_ _ q=>q.next (f1.trans f))⟩
theorem Sn.or {a c:Expr}{rest:List Expr}{pos:Pos}(h:Sn X n sc a m G λv G'=>∃t,Tru G' v t/\Two (Q v G') (Sn X n sc (.BoolOp .Or (c::rest) pos) m G' Q) t):Sn X n sc (.BoolOp .Or (a::c::rest) pos) m G Q:=⟨λhy=>
 BoolOp_or (h.use hy λx s₁ v G1 hv hy1 f1 h1=>by
  obtain⟨t,ht,h1⟩:=h1
  refine zA (jc (Q:=λt' G'=>t'=t/\G'=G1) hy1.hr hv ht ⟨rfl,rfl⟩) λt' s2 o=>o.elim λG' hr f q=>?_
  obtain⟨rfl,rfl⟩:=q
  cases t'
  ·exact zA ((h1.2 rfl).go (hy1.next hr f)) λ_ _ q=>q.next (f1.trans f)
  ·exact .mk v G' (hv.mono f.tk) hr (f1.trans f) (h1.1 rfl))⟩
theorem SnT.and1 {Q:Bool->Gh->Prop}{a:Expr}{pos:Pos}(h:SnT X n sc a m G Q):SnT X n sc (.BoolOp .And [a] pos) m G Q:=⟨λhy=>
 isTrue_and (zA (h.go hy) λt s₁ q=>by
  cases t
  ·exact q
  ·exact isTrue_and_nil q)⟩
theorem SnT.or1 {Q:Bool->Gh->Prop}{a:Expr}{pos:Pos}(h:SnT X n sc a m G Q):SnT X n sc (.BoolOp .Or [a] pos) m G Q:=⟨λhy=>
 isTrue_or (zA (h.go hy) λt s₁ q=>by
  cases t
  ·exact isTrue_or_nil q
  ·exact q)⟩
theorem SnT.and {Q:Bool->Gh->Prop}{a c:Expr}{rest:List Expr}{pos:Pos}(h:SnT X n sc a m G λt G'=>Two (SnT X n sc (.BoolOp .And (c::rest) pos) m G' Q) (Q false G') t):SnT X n sc (.BoolOp .And (a::c::rest) pos) m G Q:=⟨λhy=>
 isTrue_and (h.use hy λt s₁ G1 hy1 f1 h1=>by
  cases t
  ·exact .mk G1 hy1.hr f1 (h1.2 rfl)
  ·exact zA ((h1.1 rfl).go hy1) λ_ _ q=>q.next f1)⟩
theorem SnT.or {Q:Bool->Gh->Prop}{a c:Expr}{rest:List Expr}{pos:Pos}(h:SnT X n sc a m G λt G'=>Two (Q true G') (SnT X n sc (.BoolOp .Or (c::rest) pos) m G' Q) t):SnT X n sc (.BoolOp .Or (a::c::rest) pos) m G Q:=⟨λhy=>
 isTrue_or (h.use hy λt s₁ G1 hy1 f1 h1=>by
  cases t
  ·exact zA ((h1.2 rfl).go hy1) λ_ _ q=>q.next f1
  ·exact .mk G1 hy1.hr f1 (h1.1 rfl))⟩
theorem Sn.cmp {l r:Expr}{op:CmpOp}{pos:Pos}(h:Sn X n sc l m G λv G1=>Sn X n sc r m G1 λw G2=>Op2 X n (compareOp op) v w G2 Q)(hm:behindInMarks op r=false:=by with_unfolding_all rfl):Sn X n sc (.Compare l [op] [r] pos) m G Q:=⟨λhy=>
 wpAny_Compare1 (h.two hy λx y s2 v w G2 hv hw hy2 f2 h2=>zA (h2.go hy2.hA hy2.hb hy2.hr hv hw) λ_ _ q=>q.next f2) hm⟩
theorem SnT.cmp {Q:Bool->Gh->Prop}{l r:Expr}{op:CmpOp}{pos:Pos}(h:Sn X n sc l m G λv G1=>Sn X n sc r m G1 λw G2=>Op2 X n (compareOp op) v w G2 (TQ Q))(hm:behindInMarks op r=false:=by with_unfolding_all rfl):SnT X n sc (.Compare l [op] [r] pos) m G Q:=⟨λhy=>
 wpAny_isTrue_Compare1 (h.two hy λx y s2 v w G2 hv hw hy2 f2 h2=>zA (h2.go hy2.hA hy2.hb hy2.hr hv hw) λ_ _ q=>q.test f2) hm⟩
inductive Yp (X:Cx)(b:Bs)(s:Shared)(Q:List Val->Gh->Prop)(ys:List Value)(s':Shared):Prop where
 | mk (vs:List Val) (G':Gh) (hv:VRs s'.heap vs ys) (hr:Rep X b G' s'.heap) (f:Fwd s s') (q:Q vs G')
structure SnEs (X:Cx)(n:Nat)(sc:Scope)(es:List Expr)(m:M)(G:Gh)(Q:List Val->Gh->Prop):Prop where
 go:∀{env:Env} {A:Around} {b:Bs} {s:Shared} {pos:Pos},Hy X n sc env A b m G s->wpAny (model X.prog X.w) A (spliced (backTo pos (starEach es env))) (Yp X b s Q) NoE s
theorem Yp.elim {Q:List Val->Gh->Prop}{ys:List Value}{s':Shared}{P:Prop}(o:Yp X b s Q ys s')(k:∀vs G',VRs s'.heap vs ys->Rep X b G' s'.heap->Fwd s s'->Q vs G'->P):P:=by
 cases o with | mk v G' a1 a2 a3 a4=>exact k v G' a1 a2 a3 a4
theorem SnEs.use {es:List Expr}{Q:List Val->Gh->Prop}{P:List Value->Shared->Prop}{pos:Pos}(h:SnEs X n sc es m G Q)(hy:Hy X n sc env A b m G s)(k:∀ys s₁ vs G1,VRs s₁.heap vs ys->Hy X n sc env A b m G1 s₁->Fwd s s₁->Q vs G1->P ys s₁) :
  wpAny (model X.prog X.w) A (spliced (backTo pos (starEach es env))) P NoE s:=
 zA (h.go hy) λx s₁ o=>o.elim λv G' a1 a2 a3 a4=>k x s₁ v G' a1 (hy.next a2 a3) a3 a4
theorem SnEs.nil {Q:List Val->Gh->Prop}(q:Q [] G):SnEs X n sc [] m G Q:=⟨λhy=>args_nil (.mk [] G .nil hy.hr .refl q)⟩
theorem SnEs.cons {Q:List Val->Gh->Prop}{es:List Expr}(h:Sn X n sc e m G λv G1=>SnEs X n sc es m G1 λvs G2=>Q (v::vs) G2)(hp:∀env,starEach (e::es) env=(false,eval e env)::starEach es env:=by intro _;rfl):SnEs X n sc (e::es) m G Q:=⟨λhy=>
 args_cons (h.use hy λx s₁ v G1 hv hy1 f1 h1=>SnEs.use h1 hy1 λys s2 vs G2 hvs hy2 f2 h2=>.mk (v::vs) G2 (.cons (hv.mono f2.tk) hvs) hy2.hr (f1.trans f2) h2) (hp _)⟩
theorem Sn.tup {es:List Expr}{k:Nat}{pos:Pos}(h:SnEs X n sc es m G λvs G'=>vs.length<cap/\Q (.tup vs) G'):Sn X n sc (.Tuple es k pos) m G Q:=⟨λhy=>
 Tuple_ (h.use hy λys s₁ vs G1 hv hy1 f1 h1=>wpAny_newObj_type ((newT hy1.hr hv h1.2).next f1) (by
  show ys.toArray.size<=sizeLine
  rw[List.size_toArray,<-hv.length];exact z9 h1.1))⟩
theorem Sn.list {es:List Expr}{pos:Pos}(h:SnEs X n sc es m G λvs G'=>vs.length<cap/\newList vs G' Q):Sn X n sc (.List es pos) m G Q:=⟨λhy=>
 List_ (h.use hy λys s₁ vs G1 hv hy1 f1 h1=>wpAny_newObj_type ((newL (ys:=ys.toArray) hy1.hb hy1.hr (yc h1.1) (by rw[List.toList_toArray];exact hv) h1.2).next f1) (by
  show ys.toArray.size<=sizeLine
  rw[List.size_toArray,<-hv.length];exact z9 h1.1))⟩
structure Z5 (X:Cx):Prop where
 plain:∀c f,plainGet X.K (X.cA c) (Fld.txt f)=true
 has:∀c,hasDictIn X.K (X.cA c)=true
 no:∀c (f:Fld),findIn X.K (.ref (X.cA c)) f.txt=some none
 setA:∀c,findIn X.K (.ref (X.cA c)) "__setattr__" = some (some (.builtin "object.__setattr__"))
 over:∀c,plainOver X.K (X.cA c)=true
 makes:∀c,makesIn X.K (X.cA c)=true
theorem zJI {h:Heap}{v:Val}{y:Value}(hv:VR h v y):handedIn y=true:=by cases hv<;>rfl
theorem Sn.attr {o:Expr}{attr:Str}{pos:Pos}(hc:Z5 X)(f:Fld)(ha:attr=f.txt)(h:Sn X n sc o m G λv G1=>∃a k fs w,v=.ref a/\G1 a=some (.inst k fs)/\fs f=some w/\Q w G1)
  (hs:∀env whole,attributeBase o attr env whole=whole:=by intro _ _;rfl):Sn X n sc (.Attribute o attr pos) m G Q:=⟨λ{env A b s} hy=>by
 subst ha
 refine Attribute_any_ (h.use hy λx s₁ v G1 hv hy1 f1 h₁=>?_) ?_
 ·obtain⟨a,k,fs,w,rfl,e,ef,q⟩:=h₁
  rw[hv.ref_inv]
  obtain⟨d,es,nn,h1,h2,h3,h4⟩:=(hy1.hr.own _ _ e).2
  obtain⟨y,hyy,hvv⟩:=(h4 f).1 w ef
  exact get_value (od:=some ⟨.type "dict",Option.none,.dict es nn,#[]⟩) (C:=X.cA k) (hy1.hb.kin hy1.hr) ⟨h1,rfl,rfl,h2⟩ (plainGet_of (hc.plain k f)).1 (findObj_own (hc.has k) (hc.no k f) rfl hyy) (zJI hvv) ((Out.here hy1.hr hvv q).next f1)
 ·show (do
   let o' <-attributeBase o f.txt env (eval o env)
   standAt pos.atName
   let r <-holding [o'] (getAttr o' f.txt true)
   letTemporaryGo o o' r
   pure r)=_
  rw[hs]⟩
end
end
noncomputable section
section
variable {X:Cx}{n:Nat}{sc:Scope}{env:Env}{A:Around}{b:Bs}{m:M}{G:Gh}{s:Shared}{Q:QE}{e:Expr}
structure Idx (X:Cx)(v w:Val)(G:Gh)(Q:QE):Prop where
 go:∀{A:Around} {b:Bs} {s:Shared} {x y:Value} {value sl:Expr} {ops:List Value},Rep X b G s.heap->VR s.heap v x->VR s.heap w y->subscripted sl false x y=operate ops (getItem x y) ->
  wpAny (model X.prog X.w) A (subscriptTail value sl x y) (Out X b s Q) NoE s
theorem zBv {α:Type}{xs:List α}{k:Nat}(hl:xs.length=k){i:Int}{x:α}(h:wW xs i=some x):∃j,seqIndex? i k=some j/\xs[j]?=some x:=by
 unfold wW at h
 unfold seqIndex?
 split at h
 ·rename_i h0
  have h1:=(List.getElem?_eq_some_iff.mp h).1
  refine⟨i.toNat,?_,h⟩
  rw[if_neg (by lia:¬i<0),if_pos (by simp only [Bool.and_eq_true,decide_eq_true_eq];lia)]
 ·split at h
  ·rename_i h0 h1
   have h2:=(List.getElem?_eq_some_iff.mp h).1
   refine⟨(i+xs.length).toNat,?_,h⟩
   rw[if_pos (by lia:i<0),if_pos (by simp only [Bool.and_eq_true,decide_eq_true_eq];lia),hl]
  ·cases h
theorem Idx.tup {vs:List Val}{i:Int}{v:Val}(hi:i.natAbs<cap)(hx:wW vs i=some v)(q:Q v G):Idx X (.tup vs) (.int i) G Q:=⟨λ{A b s x y value sl ops} hr hv hw hs=>by
 obtain⟨a,k,ys,rfl,e,r⟩:=hv.tup_inv
 obtain⟨t,rfl⟩:=hw.int_inv
 obtain⟨j,hj,hk⟩:=zBv (k:=ys.toArray.size) (by rw[List.size_toArray];exact r.length) hx
 obtain⟨z,hz,hvr⟩:=r.get hk
 exact tail_any ⟨_,e,rfl⟩ slot_tuple_getitem.lookup (P.getItem_tuple (items:=ys.toArray) e (Int.le_of_lt (zHi hi (by unfold cap;decide))) (zGF hi (by unfold cap;decide)) hj (by rw[List.getElem?_toArray];exact hz) (Out.here hr hvr q)) hs⟩
theorem Idx.list {a:Addr}{xs:List Val}{i:Int}{v:Val}(e:G a=some (.list xs))(hi:i.natAbs<cap)(hx:wW xs i=some v)(q:Q v G):Idx X (.ref a) (.int i) G Q:=⟨λ{A b s x y value sl ops} hr hv hw hs=>by
 rw[hv.ref_inv] at hs ⊢
 obtain⟨t,rfl⟩:=hw.int_inv
 obtain⟨ys,k,hl,ho,r,hlen⟩:=zJ hr e
 refine tail_any ⟨_,ho,rfl⟩ slot_list_getitem.lookup ?_ hs
 unfold wW at hx
 split at hx
 ·rename_i h0
  obtain⟨y,hy,hvr⟩:=r.get hx
  exact wpAny_getItem_list ⟨_,ho,rfl,k,rfl⟩ h0 (zGF hi (by unfold cap;decide)) (by rw[<-Array.getElem?_toList];exact hy) (Out.here hr hvr q)
 ·split at hx
  ·rename_i h0 h3
   obtain⟨y,hy,hvr⟩:=r.get hx
   rw[hlen] at hy h3
   exact wpAny_getItem_list_neg ⟨_,ho,rfl,k,rfl⟩ (Int.not_le.mp h0) (Int.sub_nonneg.mp (by rw[Int.sub_neg];exact h3)) (Int.le_of_lt (zHi hi (by unfold cap;decide))) (by rw[<-Array.getElem?_toList];exact hy) (Out.here hr hvr q)
  ·cases hx⟩
theorem Idx.dict {a:Addr}{es:List (Int×Val)}{k:Int}{v:Val}(e:G a=some (.dict es))(hx:zq es k=some v)(q:Q v G):Idx X (.ref a) (.int k) G Q:=⟨λ{A b s x y value sl ops} hr hv hw hs=>by
 rw[hv.ref_inv] at hs ⊢
 obtain⟨t,rfl⟩:=hw.int_inv
 obtain⟨hl,kvs,hd,hes⟩:=(hr.own _ _ e).2
 obtain⟨y,hy,hvr⟩:=(hes.look _).1 _ hx
 exact tail_any hd.typeIs slot_dict_getitem.lookup (wpAny_getItem_of (knd:=intKind X.prog X.w) (intKind_is _ _ _ _) hd.mapOf hy (Out.here hr hvr q)) hs⟩
theorem Sn.idx {o i:Expr}{pos:Pos}(h:Sn X n sc o m G λv G1=>Sn X n sc i m G1 λw G2=>Idx X v w G2 Q)(hs:∀x y,subscripted i false x y=operate [x,y] (getItem x y):=by intro _ _;rfl):Sn X n sc (.Subscript o i pos) m G Q:=⟨λhy=>
 Subscript_ (h.two hy λx y s2 v w G2 hv hw hy2 f2 h2=>zA (h2.go hy2.hr hv hw (hs x y)) λ_ _ q=>q.next f2)⟩
inductive OutP (X:Cx)(b:Bs)(s:Shared)(Q:Option Int->Gh->Prop)(x:Value)(s':Shared):Prop where
 | mk (i:Option Int) (G':Gh) (hi:IsPart x i) (hr:Rep X b G' s'.heap) (f:Fwd s s') (q:Q i G')
structure SnP (X:Cx)(n:Nat)(sc:Scope)(e:Option Expr)(m:M)(G:Gh)(Q:Option Int->Gh->Prop):Prop where
 go:∀{env:Env} {A:Around} {b:Bs} {s:Shared},Hy X n sc env A b m G s->wpAny (model X.prog X.w) A (evalPart e env) (OutP X b s Q) NoE s
theorem SnP.none {Q:Option Int->Gh->Prop}(q:Q .none G):SnP X n sc .none m G Q:=⟨λhy=>wpAny_pure (.mk .none G .none hy.hr .refl q)⟩
theorem SnP.some {Q:Option Int->Gh->Prop}(h:Sn X n sc e m G λv G'=>∃i,v=.int i/\Q (some i) G'):SnP X n sc (some e) m G Q:=⟨λhy=>h.use hy λx s₁ v G1 hv hy1 f1 h1=>by
 obtain⟨i,rfl,q⟩:=h1
 obtain⟨t,rfl⟩:=hv.int_inv
 exact .mk (.some i) G1 (.int _ _) hy1.hr f1 q⟩
theorem SnP.use {e:Option Expr}{Q:Option Int->Gh->Prop}{P:Value->Shared->Prop}(h:SnP X n sc e m G Q)(hy:Hy X n sc env A b m G s)(k:∀x s₁ i G1,IsPart x i->Hy X n sc env A b m G1 s₁->Fwd s s₁->Q i G1->P x s₁) :
  wpAny (model X.prog X.w) A (evalPart e env) P NoE s:=
 zA (h.go hy) λx s₁ o=>by cases o with | mk i G' a1 a2 a3 a4=>exact k x s₁ i G' a1 (hy.next a2 a3) a3 a4
structure SlOp (X:Cx)(v:Val)(lo hi:Option Int)(G:Gh)(Q:QE):Prop where
 go:∀{A:Around} {b:Bs} {s:Shared} {x vl vu:Value} {o:Expr} {l u:Option Expr} {p:Pos},Base X b->Rep X b G s.heap->VR s.heap v x->IsPart vl lo->IsPart vu hi ->
  wpAny (model X.prog X.w) A (subscriptTail o (.Slice l u .none p) x (.ref s.heap.objs.size)) (Out X b s Q) NoE { s with heap:=s.heap.push { cls:=.type "slice",data:=.fields #[vl,vu,.none] } }
theorem vw {a:Addr}{xs:List Val}{ys:Array Value}{vl vu:Value}{lo hi:Option Int}{o:Expr}{l u:Option Expr}{p:Pos}(hb:Base X b)(hr:Rep X b G s.heap)
  (hl:xs.length<=2 * cap) (hL:Heap.IsList s.heap a ys) (hs:VRs s.heap xs ys.toList) (pl:IsPart vl lo) (pu:IsPart vu hi) (h:newList (slice xs lo hi) G Q) :
  wpAny (model X.prog X.w) A (subscriptTail o (.Slice l u .none p) (.ref a) (.ref s.heap.objs.size)) (Out X b s Q) NoE { s with heap:=s.heap.push { cls:=.type "slice",data:=.fields #[vl,vu,.none] } }:=by
 have hlen:xs.length=ys.size:=by rw[hs.length,Array.length_toList]
 generalize hso:({ cls:=.type "slice",data:=.fields #[vl,vu,.none] }:Obj)=so
 have kp:∀a o,s.heap.get? a=some o->(s.heap.push so).get? a=some o:=λa o e=>Heap.get?_push_of_some _ e
 refine tail_any (s:={ s with heap:=s.heap.push so }) (Heap.IsList.typeIs (s:={ s with heap:=s.heap.push so }) (hL.push _)) list_getitem_lookup
  (wpAny_getItem_list_slice (hL.push _) (by rw[<-hso];exact Heap.IsSliceOf.new ..) pl pu .none (by simp) ?_ (by rw[sizeLine_eq,<-hlen];exact zDi hl)) rfl
 rw[kms_pick_eq]
 have hs':VRs (s.heap.push so) (slice xs lo hi) (kms_pick ys.toList lo hi):=by
  unfold slice kms_pick
  rw[hs.length]
  exact((hs.mono (.of_keep kp)).drop _).take _
 exact(newL (s:={ s with heap:=s.heap.push so }) (Q:=Q) (ys:=(kms_pick ys.toList lo hi).toArray) hb (hr.mono kp) (by unfold slice;rw[List.length_take,List.length_drop];exact Nat.le_trans (Nat.min_le_right ..) (Nat.le_trans (Nat.sub_le ..) hl)) (by rw[List.toList_toArray];exact hs') h).next ⟨.of_keep kp,rfl,rfl⟩
theorem SlOp.list {a:Addr}{xs:List Val}{lo hi:Option Int}(e:G a=some (.list xs))(h:newList (slice xs lo hi) G Q):SlOp X (.ref a) lo hi G Q:=⟨λhb hr hv pl pu=>by
 rw[hv.ref_inv]
 obtain⟨ys,k,hl,ho,r,hlen⟩:=zJ hr e
 exact vw hb hr hl ⟨_,ho,rfl,k,rfl⟩ r pl pu h⟩
theorem SlOp.ground {a:Addr}{xs:List Val}{lo hi:Option Int}(e:xs.length<=2 * cap/\∃ys,X.H0.IsList a ys/\VRs X.H0 xs ys.toList)(h:newList (slice xs lo hi) G Q):SlOp X (.ref a) lo hi G Q:=⟨λhb hr hv pl pu=>by
 rw[hv.ref_inv]
 obtain⟨hl,ys,⟨o,h1,h3⟩,h2⟩:=e
 exact vw hb hr hl ⟨o,hb.kp hr _ _ h1,h3⟩ (h2.mono (.of_keep (hb.kp hr))) pl pu h⟩
theorem Sn.slice {o:Expr}{lo hi:Option Expr}{p pos:Pos}(h:Sn X n sc o m G λv G1=>SnP X n sc lo m G1 λl G2=>SnP X n sc hi m G2 λu G3=>SlOp X v l u G3 Q):Sn X n sc (.Subscript o (.Slice lo hi .none p) pos) m G Q:=⟨λhy=>
 Subscript_ (h.use hy λx s₁ v G1 hv hy1 f1 h1=>wpAny_Slice (h1.use hy1 λxl s2 l G2 hl hy2 f2 h2=>h2.use hy2 λxu s3 u G3 hu hy3 f3 h3=>wpAny_pure (zA (h3.go hy3.hb hy3.hr (hv.mono (f2.trans f3).tk) hl hu) λ_ _ q=>q.next ((f1.trans f2).trans f3))))⟩
theorem Sn.rev {o:Expr}{k:Nat}{p1 p2 p pos:Pos}(h:Sn X n sc o m G λv G1=>∃a xs,v=.ref a/\G1 a=some (.list xs)/\newList xs.reverse G1 Q):Sn X n sc (.Subscript o (.Slice .none .none (some (.UnaryOp .USub (.Constant (.int 1) k p1) p2)) p) pos) m G Q:=⟨λhy=>
 Subscript_ (h.use hy λx s₁ v G1 hv hy1 f1 h1=>by
  refine wpAny_Slice (wpAny_pure (wpAny_pure ?_))
  refine UnaryOp_ (wpAny_Constant_int (P.neg_int ?_))
  obtain⟨a,xs,rfl,e,h3⟩:=h1
  rw[hv.ref_inv]
  obtain⟨ys,kk,hl,hoo,r,hlen⟩:=zJ hy1.hr e
  generalize hso:({ cls:=.type "slice",data:=.fields #[.none,.none,.int (-1) (s₁.toks+1)] }:Obj)=so
  have kp:∀a o,s₁.heap.get? a=some o->(s₁.heap.push so).get? a=some o:=λa o e=>Heap.get?_push_of_some _ e
  have hL:Heap.IsList s₁.heap a ys:=⟨_,hoo,rfl,kk,rfl⟩
  refine tail_any (s:={ s₁ with heap:=s₁.heap.push so,toks:=s₁.toks+1+1 }) (Heap.IsList.typeIs (s:={ s₁ with heap:=s₁.heap.push so,toks:=s₁.toks+1+1 }) (hL.push _)) list_getitem_lookup
   (wpAny_getItem_list_slice (lo:=.none) (hi:=.none) (st:=some (-1)) (hL.push _) (by rw[<-hso];exact Heap.IsSliceOf.new ..) .none .none (.int _ _) (by simp) ?_ (by rw[sizeLine_eq,<-hlen];exact zDi hl)) rfl
  rw[krv_pick]
  exact(newL (s:={ s₁ with heap:=s₁.heap.push so,toks:=s₁.toks+1+1 }) (Q:=Q) (ys:=ys.toList.reverse.toArray) hy1.hb (hy1.hr.mono kp) (by rw[List.length_reverse];exact hl) (by rw[List.toList_toArray];exact((r.mono (.of_keep kp)).reverse)) h3).next (f1.trans ⟨.of_keep kp,rfl,rfl⟩))⟩
noncomputable def Ze (sc:Scope)(x:Str):Prop:=(x,NameKind.globalImplicit)∈sc.names
theorem Ze.look (he:Zr X sc env){x:Str}(h:Ze sc x):env.kindOf x=some .globalImplicit:=(he.kindOf x).trans (zI (scOK.nd he.ok) h)
theorem zBZ {Mo:Model}{E:Value->Shared->Prop}{x:Str}{Q:Value->Shared->Prop}(he:Zr X sc env)(hk:Ze sc x)(q:wpAny Mo A (loadGlobal env x) Q E s):wpAny Mo A (loadName env x) Q E s:=by
 have e1:loadName env x=loadGlobal env x:=by
  unfold loadName
  simp only [Env.blockKind,he.scope,he.kind,ScopeKind.isAnnotationScope,Bool.false_and,Bool.false_eq_true,if_false,hk.look he]
 rw[e1];exact q
theorem vH {Mo:Model}{E:Value->Shared->Prop}{x:Str}{v:Value}{Q:Value->Shared->Prop}(he:Zr X sc env)(hb:Base X b)(hr:Rep X b G s.heap)(hk:Ze sc x)(hv:X.mg x=some v)(q:Q v s):wpAny Mo A (loadName env x) Q E s:=by
 refine zBZ he hk ?_
 unfold loadGlobal
 rw[he.glob]
 refine wpAny_bind (wpAny_nsGet (X.ng.keeps (hb.kp hr)) ?_)
 rw[hv];exact wpAny_pure q
theorem zAD {Mo:Model}{E:Value->Shared->Prop}{x:Str}{v:Value}{Q:Value->Shared->Prop}(he:Zr X sc env)(hb:Base X b)(hr:Rep X b G s.heap)(hk:Ze sc x)(hm:X.mg x=none)(hv:X.mb x=some v)(q:Q v s):wpAny Mo A (loadName env x) Q E s:=by
 refine zBZ he hk ?_
 unfold loadGlobal
 rw[he.glob,he.blt]
 refine wpAny_bind (wpAny_nsGet (X.ng.keeps (hb.kp hr)) ?_)
 rw[hm]
 show wpAny Mo A (nsGet builtinsNs x >>= _) Q E s
 refine wpAny_bind (wpAny_nsGet (X.nb.keeps (hb.kp hr)) ?_)
 rw[hv];exact wpAny_pure q
theorem Ze.dbg (he:Zr X sc env){x:Str}(h:Ze sc x):(x == ("__debug__" : Str))=false:=he.dbg (h.look he)
noncomputable def Z7 (X:Cx)(x:Str)(v:Val):Prop:=∃y,X.mg x=some y/\VR X.H0 v y
noncomputable def Zz (X:Cx)(x:Str)(ks:List Str):Prop:=∃a es k,X.mg x=some (.ref a)/\X.K.lookup a=some ⟨.type "dict",none,.dict es k,#[]⟩/\KeysLit X.w.params es.toList/\(a == sysModules)=false/\∀x,(findBy Value.isStrOf es x).isSome=ks.contains x
theorem Sn.glob {x:Str}{v:Val}{pos:Pos}(hg:Z7 X x v)(hk:Ze sc x)(q:Q v G):Sn X n sc (.Name x pos) m G Q:=⟨λhy=>by
 obtain⟨y,h1,h2⟩:=hg
 exact wpAny_Name (vH hy.he hy.hb hy.hr hk h1 (.mk v G (h2.mono (.of_keep (hy.hb.kp hy.hr))) hy.hr .refl q)) (hk.dbg hy.he)⟩
theorem zB2 {x:Str}{z:Str}{ks:List Str}{y:Value}{pos:Pos}(hg:Zz X x ks)(hk:Ze sc x)(hy:Hy X n sc env A b m G s)(hv:VR s.heap (.str z) y)(h:Q (.bool (ks.contains z)) G) :
  wpAny (model X.prog X.w) A (eval (.Name x pos) env) (λd s2=>wpAny (model X.prog X.w) A (compareOp .In y d) (Out X b s Q) NoE s2) NoE s:=by
 obtain⟨a,es,k,h1,h2,h3,h4,h5⟩:=hg
 obtain⟨t,rfl⟩:=hv.str_inv
 refine wpAny_Name (vH hy.he hy.hb hy.hr hk h1 (wpAny_in_of (knd:=strKind X.prog X.w) (strKind_is _ _ _ _) h4 (mapOf_K (prog:=X.prog) (hy.hb.kin hy.hr) h2 h3) ?_)) (hk.dbg hy.he)
 rw[h5];exact Out.here hy.hr (.bool _) h
theorem zBS {x:Str}{z:Str}{ks:List Str}{y:Value}{pos:Pos}(hg:Zz X x ks)(hk:Ze sc x)(hy:Hy X n sc env A b m G s)(hv:VR s.heap (.str z) y)(h:Q (.bool (!ks.contains z)) G) :
  wpAny (model X.prog X.w) A (eval (.Name x pos) env) (λd s2=>wpAny (model X.prog X.w) A (compareOp .NotIn y d) (Out X b s Q) NoE s2) NoE s:=by
 obtain⟨a,es,k,h1,h2,h3,h4,h5⟩:=hg
 obtain⟨t,rfl⟩:=hv.str_inv
 refine wpAny_Name (vH hy.he hy.hb hy.hr hk h1 (wpAny_notIn_of (knd:=strKind X.prog X.w) (strKind_is _ _ _ _) h4 (mapOf_K (prog:=X.prog) (hy.hb.kin hy.hr) h2 h3) ?_)) (hk.dbg hy.he)
 rw[h5];exact Out.here hy.hr (.bool _) h
theorem Sn.inG {l:Expr}{x:Str}{ks:List Str}{p pos:Pos}(hg:Zz X x ks)(hk:Ze sc x)(h:Sn X n sc l m G λv G1=>∃z,v=.str z/\Q (.bool (ks.contains z)) G1):Sn X n sc (.Compare l [.In] [.Name x p] pos) m G Q:=⟨λhy=>
 wpAny_Compare1 (h.use hy λy s₁ v G1 hv hy1 f1 h1=>by
  obtain⟨z,rfl,q⟩:=h1
  exact zA (zB2 hg hk hy1 hv q) λy s2 q=>zA q λ_ _ q=>q.next f1)⟩
theorem SnT.inG {Q:Bool->Gh->Prop}{l:Expr}{x:Str}{ks:List Str}{p pos:Pos}(hg:Zz X x ks)(hk:Ze sc x)(h:Sn X n sc l m G λv G1=>∃z,v=.str z/\Q (ks.contains z) G1):SnT X n sc (.Compare l [.In] [.Name x p] pos) m G Q:=⟨λhy=>
 wpAny_isTrue_Compare1 (h.use hy λy s₁ v G1 hv hy1 f1 h1=>by
  obtain⟨z,rfl,q⟩:=h1
  exact zA (zB2 (Q:=TQ Q) hg hk hy1 hv ⟨_,.bool _,q⟩) λy s2 q=>zA q λ_ _ q=>q.test f1)⟩
theorem SnT.notinG {Q:Bool->Gh->Prop}{l:Expr}{x:Str}{ks:List Str}{p pos:Pos}(hg:Zz X x ks)(hk:Ze sc x)(h:Sn X n sc l m G λv G1=>∃z,v=.str z/\Q (!ks.contains z) G1):SnT X n sc (.Compare l [.NotIn] [.Name x p] pos) m G Q:=⟨λhy=>
 wpAny_isTrue_Compare1 (h.use hy λy s₁ v G1 hv hy1 f1 h1=>by
  obtain⟨z,rfl,q⟩:=h1
  exact zA (zBS (Q:=TQ Q) hg hk hy1 hv ⟨_,.bool _,q⟩) λy s2 q=>zA q λ_ _ q=>q.test f1)⟩
noncomputable def Zj (es:List Expr):Prop:=∀env pos,(backTo pos (starEach es env)).all (λx=>!x.1)=true
theorem Zj.any {es:List Expr}(h:Zj es)(env:Env)(pos:Pos):(backTo pos (starEach es env)).any (·.1)=false:=by
 have:=h env pos
 rw[List.all_eq_true] at this
 rw[List.any_eq_false]
 intro x hx q
 have:=this x hx
 rw[q] at this;cases this
theorem yF {f:Value}{es:List Expr}{Q:List Val->Gh->Prop}{P:Args->Shared->Prop}{pos:Pos}(hn:Zj es)(h:SnEs X n sc es m G Q)(hy:Hy X n sc env A b m G s)
  (k:∀ys s₁ vs G1,VRs s₁.heap vs ys->Hy X n sc env A b m G1 s₁->Fwd s s₁->Q vs G1->P ⟨ys,[]⟩ s₁):wpAny (model X.prog X.w) A (evalArgs f true (backTo pos (starEach es env)) []) P NoE s:=by
 have h2:=h.use (pos:=pos) hy (P:=λys s₁=>P ⟨ys,[]⟩ s₁) k
 unfold evalArgs
 have key:∀l:List (Bool×Sem Value),l.any (·.1)=false->wpAny (model X.prog X.w) A (spliced l) (λys s₁=>P ⟨ys,[]⟩ s₁) NoE s->wpAny (model X.prog X.w) A (evalArgs f true l []) P NoE s:=by
  intro l hl h
  cases l with
  | nil=>
   unfold evalArgs
   show wpAny _ A (spliced [] >>= _) _ _ s
   refine wpAny_bind (zA h λvs s' h'=>?_)
   refine wpAny_bind (wpAny_pure ?_)
   refine wpAny_holding ?_
   exact wpAny_bind (wpAny_pure (wpAny_bind (wpAny_pure (wpAny_pure h'))))
  | cons p l=>
   obtain⟨q,t⟩:=p
   rw[List.any_cons,Bool.or_eq_false_iff] at hl
   obtain rfl:q=false:=hl.1
   exact Calls.evalArgs_plain h
 exact key _ (hn.any env pos) h2
structure Zx (X:Cx):Prop where
 mg:∀x∈(["len","list","sorted","any","all","sum","int","abs","min","set","range","enumerate","zip","isinstance","bool"]:List String),X.mg (Str.ofString x)=none
 fn:∀x∈(["len","sorted","any","all","sum","abs","min","isinstance"]:List String),X.mb (Str.ofString x)=some (.builtin x)
 ty:∀x∈(["list","int","set","range","enumerate","zip","bool"]:List String),X.mb (Str.ofString x)=some (.type x)
theorem Sn.fn {id:String}{es:List Expr}{p pos:Pos}(hx:Zx X)(h1:id∈(["len","list","sorted","any","all","sum","int","abs","min","set","range","enumerate","zip","isinstance","bool"]:List String))(h2:id∈(["len","sorted","any","all","sum","abs","min","isinstance"]:List String))
  (hk:Ze sc (Str.ofString id)) (hn:Zj es) (h:SnEs X n sc es m G λvs G1=>OpN X n (λys=>call (.builtin id) ys) vs G1 Q):Sn X n sc (.Call (.Name (Str.ofString id) p) es [] pos) m G Q:=⟨λhy=>
 PyProof.Rows.Call_ (wpAny_Name (zAD hy.he hy.hb hy.hr hk (hx.mg _ h1) (hx.fn _ h2) (Calls.callWith_builtin (first:=[]) (hn.any _ _) (yF hn h hy λys s₁ vs G1 hv hy1 f1 h₁=>
  zA (h₁.go hy1.hA hy1.hb hy1.hr hv) λ_ _ q=>q.next f1))) (hk.dbg hy.he))⟩
theorem Sn.ty {id:String}{es:List Expr}{p pos:Pos}(hx:Zx X)(h1:id∈(["len","list","sorted","any","all","sum","int","abs","min","set","range","enumerate","zip","isinstance","bool"]:List String))(h2:id∈(["list","int","set","range","enumerate","zip","bool"]:List String))
  (hk:Ze sc (Str.ofString id)) (hn:Zj es) (h:SnEs X n sc es m G λvs G1=>OpN X n (λys=>call (.type id) ys) vs G1 Q):Sn X n sc (.Call (.Name (Str.ofString id) p) es [] pos) m G Q:=⟨λhy=>
 PyProof.Rows.Call_ (wpAny_Name (zAD hy.he hy.hb hy.hr hk (hx.mg _ h1) (hx.ty _ h2) (PyProof.Rows.callWith_type (first:=[]) (hn.any _ _) (yF hn h hy λys s₁ vs G1 hv hy1 f1 h₁=>
  zA (h₁.go hy1.hA hy1.hb hy1.hr hv) λ_ _ q=>q.next f1))) (hk.dbg hy.he))⟩
theorem OpN.one {f:List Value->Sem Value}{v:Val}(h:Op1 X n (λx=>f [x]) v G Q):OpN X n f [v] G Q:=⟨λhA hb hr hv=>by
 obtain⟨y,rfl,hv'⟩:=hv.one_inv
 exact h.go hA hb hr hv'⟩
theorem OpN.two {f:List Value->Sem Value}{v w:Val}(h:Op2 X n (λx y=>f [x,y]) v w G Q):OpN X n f [v,w] G Q:=⟨λhA hb hr hv=>by
 obtain⟨y,z,rfl,hv',hw⟩:=hv.two_inv
 exact h.go hA hb hr hv' hw⟩
noncomputable abbrev Blt (X:Cx)(n:Nat)(f:Value)(vs:List Val)(G:Gh)(Q:QE):Prop:=OpN X n (λys=>call f ys) vs G Q
theorem Blt.lenL {a:Addr}{xs:List Val}(e:G a=some (.list xs))(hl:xs.length<cap)(q:Q (.int xs.length) G):Blt X n (.builtin "len") [.ref a] G Q:=.one ⟨λhA hb hr hv=>by
 rw[hv.ref_inv]
 obtain⟨zs,k,_,ho,hs,hlen⟩:=zJ hr e
 refine Calls.call_len_list ⟨_,ho,rfl,k,rfl⟩ (by rw[<-hlen];exact zHh (yc hl)) ?_
 rw[<-hlen]
 exact Out.here hr (.int _ _) q⟩
theorem zCv {xs:List Val}{ys:Array Value}{a:Addr}{T:String}{k:Nat}(hT:T = "list"\/T = "tuple")(hb:Base X b)(hr:Rep X b G s.heap)(hl:xs.length<cap)(ho:s.heap.get? a=some ⟨.type T,none,.seq ys k,#[]⟩)(hv:VRs s.heap xs ys.toList)(q:newList xs G Q) :
  wpAny (model X.prog X.w) A (call (.type "list") [.ref a]) (Out X b s Q) NoE s:=
 have hlen:xs.length=ys.size:=by rw[hv.length,Array.length_toList]
 call_list_seq a hT ho rfl rfl (λh' c' kp hD=>zHe (s':={ s with heap:=h' }) hb hr (yc hl) kp (zm (Nat.le_refl _)) hD (hlow hb hr) (hv.mono (.of_keep kp)) rfl rfl q) (by rw[<-hlen];exact z9 hl)
theorem Blt.listT {vs:List Val}(hl:vs.length<cap)(q:newList vs G Q):Blt X n (.type "list") [.tup vs] G Q:=.one ⟨λhA hb hr hv=>by
 obtain⟨a,k,ys,rfl,e,r⟩:=hv.tup_inv
 exact zCv (.inr rfl) hb hr hl e (by rw[List.toList_toArray];exact r) q⟩
theorem Blt.listL {a:Addr}{xs:List Val}(e:G a=some (.list xs))(hl:xs.length<cap)(q:newList xs G Q):Blt X n (.type "list") [.ref a] G Q:=.one ⟨λhA hb hr hv=>by
 rw[hv.ref_inv]
 obtain⟨zs,k,_,ho,hs,hlen⟩:=zJ hr e
 exact zCv (.inl rfl) hb hr hl ho hs q⟩
theorem Blt.intB {t:Bool}(q:Q (.int (b2i t)) G):Blt X n (.type "int") [.bool t] G Q:=.one ⟨λhA hb hr hv=>by
 rw[hv.bool_inv]
 refine call_int_bool (Out.here hr ?_ q)
 cases t<;>exact .int _ _⟩
theorem Blt.abs {i:Int}(q:Q (.int i.natAbs) G):Blt X n (.builtin "abs") [.int i] G Q:=.one ⟨λhA hb hr hv=>by
 obtain⟨t,rfl⟩:=hv.int_inv
 refine call_abs_int λu tk=>Out.here hr ?_ q
 have:(if i<0 then -i else i)=(i.natAbs:Int):=by split<;>omega
 rw[this];exact .int _ _⟩
theorem zC9 {h:Heap}{vs:List Value}{ns:List Int}(i:IntsAre vs ns):VRs h (ns.map .int) vs:=by
 induction i with
 | nil=>exact .nil
 | cons _ _ _ ih=>exact .cons (.int _ _) ih
theorem zDa:∀{vs:List Value} {ns:List Int},vs.length=ns.length->(∀(j:Nat) (v:Value),vs[j]?=some v->∃t k,ns[j]?=some k/\v=.int k t)->IntsAre vs ns:=by
 intro vs
 induction vs with
 | nil=>intro ns hl _;cases ns with | nil=>exact .nil | cons _ _=>cases hl
 | cons v vs ih=>
  intro ns hl h
  cases ns with
  | nil=>cases hl
  | cons k ns=>
   obtain⟨t,k',hk,rfl⟩:=h 0 v rfl
   cases hk
   exact .cons _ _ (ih (Nat.succ.inj hl) λj u hu=>h (j+1) u hu)
theorem Blt.sorted {a:Addr}{es:List (Int×Val)}(e:G a=some (.dict es))(hl:es.length<64)
  (h:∀ks:List Int,ks.Pairwise (· < ·)->(∀k,k∈ks↔(zq es k).isSome=true)->newList (ks.map .int) G Q):Blt X n (.builtin "sorted") [.ref a] G Q:=.one ⟨λ{A b s x} hA hb hr hv=>by
 rw[hv.ref_inv]
 obtain⟨_,kvs,hd,hes⟩:=(hr.own _ _ e).2
 obtain⟨ep,hat⟩:=hd.dictAt
 have hlk:kvs.length<64:=by rw[<-hes.length];exact hl
 refine Calls.call_function_entry kind_sorted plain_sorted entry_sorted (args_sorted1 _) ?_
 unfold Builtin.«sorted»
 refine wpAny_bind (m:=checkCount "sorted" 1 1 _) (wpAny_pure ?_)
 refine wpAny_bind (kdu_collect (A:=A.in1) (kdl_dict (knd:=intKind X.prog X.w) (kvs:=kvs) (ep:=ep) (zBT hr e)) (by rw[Around.in1_handled];exact hA.hd) hat (by rw[sizeLine_eq];exact Nat.le_trans (Nat.le_of_lt hlk) (by decide)) λh' tk acc hk hacc=>?_)
 have hlen:acc.toList.length=kvs.length:=by rw[Array.length_toList];exact hacc.1
 refine wpAny_bind (wpAny_newList ?_ (by rw[hlen,sizeLine_eq];exact Nat.le_trans (Nat.le_of_lt hlk) (by decide)))
 have hI:IntsAre acc.toList (kvs.map (·.1)):=by
  refine zDa (by rw[List.length_map];exact hlen) λj v hv=>?_
  obtain⟨k,x,hx,hk'⟩:=hacc.2 j v (by rw[<-Array.getElem?_toList];exact hv)
  obtain⟨t,rfl⟩:=Value.isInt_shape hk'
  exact⟨t,k,by rw[List.getElem?_map,hx];rfl,rfl⟩
 have hoL:(h'.push (seqObj "list" acc.toList.toArray 0)).get? h'.objs.size=some (seqObj "list" acc.toList.toArray 0):=Heap.get?_push_size _ rfl
 refine wpAny_bind (wpAny_holding (wpAny_call_entry slot_list_sort ⟨_,hoL,rfl⟩ entry_list_sort (list_sort_tree hoL hI (by rw[hlen];exact hlk) λout ns' a1 a2 a3=>⟨_,rfl,?_⟩) (args_list_sort _)))
 refine wpAny_pure ⟨_,rfl,?_⟩
 have hnd:ns'.Nodup:=a2.nodup_iff.mpr (by obtain⟨_,_,_,_,_,_,_,z⟩:=hat;exact z)
 have hlt:ns'.Pairwise (· < ·):=(List.Pairwise.and a3 hnd).imp λq=>Int.lt_iff_le_and_ne.mpr q
 have hmem:∀k,k∈ns'↔(zq es k).isSome=true:=λk=>by
  rw[a2.mem_iff,<-hes.isSome,List.mem_map]
  unfold valueAt
  rw[Option.isSome_map,List.find?_isSome]
  constructor
  ·rintro ⟨p,hp,e⟩;exact⟨p,hp,decide_eq_true e⟩
  ·rintro ⟨p,hp,e⟩;exact⟨p,hp,of_decide_eq_true e⟩
 have hnew:s.heap.get? h'.objs.size=none:=by
  cases q:s.heap.get? h'.objs.size with
  | none=>rfl
  | some o=>exact absurd (Heap.lt_size (hk _ _ q)) (Nat.lt_irrefl _)
 obtain⟨e',he'⟩:=sortedHeap_at (vs:=acc.toList) (out:=out) hoL
 have kp:∀x o,s.heap.get? x=some o->(sortedHeap (h'.push (seqObj "list" acc.toList.toArray 0)) h'.objs.size acc.toList out).get? x=some o:=λx o q=>by
  have q1:=hk _ _ q
  have hx:x≠h'.objs.size:=Nat.ne_of_lt (Heap.lt_size q1)
  rw[sortedHeap_old hx (by rw[size_push'];exact Nat.lt_succ_of_lt (Heap.lt_size q1)),Heap.get?_push_ne _ _ _ hx]
  exact q1
 have hl2:(ns'.map Val.int).length<=2 * cap:=by
  rw[List.length_map,a2.length_eq,List.length_map];exact yc (Nat.lt_trans hlk (by unfold cap;decide))
 exact zHe (s':={ s with heap:=_,toks:=tk }) hb hr hl2 kp hnew he' (hlow hb (hr.mono hk)) (zC9 a1) rfl rfl (h ns' hlt hmem)⟩
end
end
noncomputable section
open SetTable
noncomputable def orb (m i:Nat):Nat->Nat
 | 0=>i
 | t+1=>(orb m i t * 5+1) % m
noncomputable def orbL (m:Nat):Nat->Nat->List Nat
 | 0,_=>[]
 | t+1,i=>i::orbL m t ((i * 5+1) % m)
theorem zCn (m i t:Nat):orb m i (t+1)=orb m ((i * 5+1) % m) t:=by
 induction t with
 | zero=>rfl
 | succ t ih=>exact congrArg (λx=>(x * 5+1) % m) ih
theorem zCI (m i a t:Nat):orb m (orb m i a) t=orb m i (a+t):=by
 induction t with
 | zero=>rfl
 | succ t ih=>exact congrArg (λx=>(x * 5+1) % m) ih
theorem zGA (m n:Nat):∀i t,t<n->(orbL m n i)[t]?=some (orb m i t):=by
 induction n with
 | zero=>exact λ_ _ h=>absurd h (Nat.not_lt_zero _)
 | succ n ih=>
  intro i t h
  cases t with
  | zero=>rfl
  | succ t=>rw[zCn];exact ih _ t (Nat.lt_of_succ_lt_succ h)
theorem zFz (m n:Nat):∀i,(orbL m n i).length=n:=by
 induction n with
 | zero=>exact λ_=>rfl
 | succ n ih=>exact λi=>congrArg (· + 1) (ih _)
noncomputable def zCT (m:Nat):Bool:=((List.range m).all λj=>(orbL m m 0).contains j)&&orb m 0 m == 0
noncomputable def zBV:List Nat:=[7,15,31,63,127,255]
theorem zD4:∀m∈zBV,zCT (m+1)=true:=by decide +kernel
theorem zFy {m:Nat}(h:zCT m=true){i j:Nat}(hi:i<m)(hj:j<m):∃t,t<m/\orb m i t=j:=by
 unfold zCT at h
 rw[Bool.and_eq_true,List.all_eq_true,beq_iff_eq] at h
 have hit:∀k,k<m->∃t,t<m/\orb m 0 t=k:=λk hk=>by
  have h1:=h.1 k (List.mem_range.mpr hk)
  rw[List.contains_iff_mem] at h1
  obtain⟨t,ht⟩:=List.mem_iff_getElem?.mp h1
  have hlt:t<m:=by have:=(List.getElem?_eq_some_iff.mp ht).1;rwa [zFz] at this
  rw[zGA m m 0 t hlt] at ht
  exact⟨t,hlt,by simpa using ht⟩
 obtain⟨a,ha,ea⟩:=hit i hi
 obtain⟨b,hb,eb⟩:=hit j hj
 by_cases hab:a<=b
 ·exact⟨b - a,Nat.lt_of_le_of_lt (Nat.sub_le b a) hb,by rw[<-ea,zCI,Nat.add_sub_cancel' hab,eb]⟩
 ·refine⟨m - a+b,Nat.lt_of_lt_of_eq (Nat.add_lt_add_left (Nat.lt_of_not_le hab) _) (Nat.sub_add_cancel (Nat.le_of_lt ha)),?_⟩
  rw[<-ea,zCI,<-Nat.add_assoc,Nat.add_sub_cancel' (Nat.le_of_lt ha),<-zCI,h.2,eb]
theorem zB5 (mask:Nat)(owner:Array (Option Nat))(fuel i p:Nat)(o:Option Nat)(h:((List.range (runEnd mask i+1 - i)).find? λk=>(owner.getD (i+k) (some 0)).isNone)=o):layClean.free mask owner (fuel+1) i p=o.elim (layClean.free mask owner fuel (leap mask i p).1 (leap mask i p).2) λk=>some (i+k):=by
 rw[layClean.free,h];cases o<;>rfl
theorem zHP (mask i:Nat):0<runEnd mask i+1 - i:=by unfold runEnd;split<;>lia
theorem zFA {owner:Array (Option Nat)}{mask j:Nat}(hj:owner.getD j (some 0)=none)(fuel:Nat):∀i p:Nat,p<32->(∃t,t<fuel/\orb (mask+1) i t=j)->∃q,layClean.free mask owner fuel i p=some q/\owner.getD q (some 0)=none:=by
 induction fuel with
 | zero=>exact λ_ _ _ h=>h.elim λ_ h=>absurd h.1 (Nat.not_lt_zero _)
 | succ fuel ih=>
  intro i p hp h
  obtain⟨t,ht,et⟩:=h
  cases hf:(List.range (runEnd mask i+1 - i)).find? λk=>(owner.getD (i+k) (some 0)).isNone with
  | some k=>exact⟨_,zB5 mask owner fuel i p _ hf,Option.isNone_iff_eq_none.mp (List.find?_some (p:=λk=>(owner.getD (i+k) (some 0)).isNone) hf)⟩
  | none=>
   rw[zB5 mask owner fuel i p _ hf]
   cases t with
   | zero=>
    have h1:=List.find?_eq_none.mp hf 0 (List.mem_range.mpr (zHP mask i))
    rw[Nat.add_zero,show i=j from et,hj] at h1
    exact absurd rfl h1
   | succ t=>
    rw[zCn] at et
    have e1:leap mask i p=((i * 5+1) % (mask+1),0):=by
     unfold leap
     rw[show p / 32=0 from Nat.div_eq_of_lt hp,Nat.add_zero]
    rw[e1]
    exact ih _ 0 (by decide) ⟨t,Nat.lt_of_succ_lt_succ ht,et⟩
noncomputable def zAZ (owner:Array (Option Nat)):List Nat:=owner.toList.filterMap id
theorem zEz {owner:Array (Option Nat)}{j:Nat}{d:Option Nat}:owner.getD j d=(owner.toList[j]?).getD d:=by rw[Array.getD_eq_getD_getElem?,Array.getElem?_toList]
theorem getD_none {o:Option (Option Nat)}(h:o.getD (some 0)=none):o=some none:=by
 cases o with
 | none=>cases h
 | some o=>exact congrArg some h
theorem setL {l:List (Option Nat)}{k:Nat}:∀{j:Nat},l[j]?=some none->((l.set j (some k)).filterMap id).Perm (k::l.filterMap id):=by
 induction l with
 | nil=>intro j h;cases h
 | cons x l ih=>
  intro j h
  cases j with
  | zero=>cases h;exact .rfl
  | succ j=>
   have:=ih (j:=j) h
   cases x with
   | none=>exact this
   | some y=>exact(List.Perm.cons y this).trans (List.Perm.swap _ _ _)
theorem zEC {owner:Array (Option Nat)}{j k:Nat}(hj:owner.getD j (some 0)=none):(zAZ (owner.setIfInBounds j (some k))).Perm (k::zAZ owner):=by
 unfold zAZ
 rw[Array.toList_setIfInBounds]
 exact setL (getD_none (zEz.symm.trans hj))
theorem zJh {l:List (Option Nat)}:(l.filterMap id).length<l.length->∃j,j<l.length/\(l[j]?).getD (some 0)=none:=by
 induction l with
 | nil=>exact λh=>absurd h (Nat.not_lt_zero _)
 | cons x l ih=>
  intro h
  cases x with
  | none=>exact⟨0,Nat.succ_pos _,rfl⟩
  | some y=>exact(ih (Nat.lt_of_succ_lt_succ h)).elim λj h=>⟨j+1,Nat.succ_lt_succ h.1,h.2⟩
theorem zDS {owner:Array (Option Nat)}(h:(zAZ owner).length<owner.size):∃j,j<owner.size/\owner.getD j (some 0)=none:=
 (zJh h).elim λj h=>⟨j,h.1,zEz.trans h.2⟩
theorem zDj {h:Int}(h0:0<=h)(h1:h<32):bits h<32:=by
 unfold bits
 rw[Int.emod_eq_of_lt h0 (Int.lt_trans h1 (by decide))]
 exact(Int.toNat_lt h0).mpr h1
noncomputable def zCQ (mask:Nat)(acc:Option (Array (Option Nat)×Nat))(h:Int):Option (Array (Option Nat)×Nat):=do
 let (owner,k) <-acc
 let j <-layClean.free mask owner (turns mask) (bits h % (mask+1)) (bits h)
 pure (owner.setIfInBounds j (some k),k+1)
theorem zGK {mask:Nat}(hm:mask∈zBV)(hs:List Int):∀(owner:Array (Option Nat)) (k:Nat),(∀h∈hs,0<=h/\h<32)->owner.size=mask+1->(zAZ owner).Perm (List.range k)->k+hs.length<=mask+1 ->
  ∃owner',hs.foldl (zCQ mask) (some (owner,k))=some (owner',k+hs.length)/\owner'.size=mask+1/\(zAZ owner').Perm (List.range (k+hs.length)):=by
 induction hs with
 | nil=>exact λowner k _ hsz hp _=>⟨owner,rfl,hsz,hp⟩
 | cons h hs ih=>
  intro owner k hr hsz hp hle
  have e:k+(h::hs).length=k+1+hs.length:=(Nat.succ_add_eq_add_succ k hs.length).symm
  rw[e] at hle
  have hk:k<mask+1:=Nat.lt_of_lt_of_le (Nat.lt_of_lt_of_le (Nat.lt_succ_self k) (Nat.le_add_right _ _)) hle
  obtain⟨j,hj,ej⟩:=zDS (owner:=owner) (by rw[hp.length_eq,List.length_range,hsz];exact hk)
  obtain⟨b0,b1⟩:=hr h (.head _)
  obtain⟨t,ht,et⟩:=zFy (zD4 mask hm) (i:=bits h % (mask+1)) (j:=j) (Nat.mod_lt _ (Nat.succ_pos _)) (hsz▸hj)
  obtain⟨q,eq,hq⟩:=zFA ej (turns mask) (bits h % (mask+1)) (bits h) (zDj b0 b1) ⟨t,by unfold turns;lia,et⟩
  clear hk hj ej b0 b1 ht et
  have hstep:zCQ mask (some (owner,k)) h=some (owner.setIfInBounds q (some k),k+1):=by
   show (layClean.free mask owner (turns mask) (bits h % (mask+1)) (bits h)).bind (λj=>some (owner.setIfInBounds j (some k),k+1))=_
   rw[eq];rfl
  rw[List.foldl_cons,hstep,e]
  exact ih (owner.setIfInBounds q (some k)) (k+1) (λx hx=>hr x (.tail _ hx)) (by rw[Array.size_setIfInBounds];exact hsz)
   ((zEC hq).trans ((List.Perm.cons k hp).trans (by rw[List.range_succ];exact(List.perm_append_singleton _ _).symm))) hle
theorem rngL (l:List (Option Nat)):(List.range l.length).filterMap (λj=>(l[j]?).getD none)=l.filterMap id:=by
 induction l with
 | nil=>rfl
 | cons x l ih=>
  rw[List.length_cons,List.range_succ_eq_map,List.filterMap_cons,List.filterMap_map]
  cases x with
  | none=>exact ih
  | some y=>exact congrArg (y::·) ih
theorem zBr (owner:Array (Option Nat)):(List.range owner.size).filterMap (λj=>owner.getD j none)=zAZ owner:=by
 rw[show (λj=>owner.getD j none)=λj=>(owner.toList[j]?).getD none from funext λj=>zEz]
 exact rngL owner.toList
theorem zHq {mask finger moves:Nat}{led plain:Bool}{hs:Array Int}(hm:mask∈zBV)(hr:∀h∈hs.toList,0<=h/\h<32)(hle:hs.size<=mask) :
  ∃t order,laid mask finger moves led plain hs=some (t,order)/\order.toList.Perm (List.range hs.size)/\t.place.size=hs.size/\t.dummies=#[]/\t.mask=mask:=by
 have hfold:=zGK hm hs.toList (Array.replicate (mask+1) none) 0 hr (by simp) (by simp [zAZ]) (by rw[Array.length_toList];lia)
 obtain⟨owner,e1,e2,e3⟩:=hfold
 have hclean:layClean mask hs=some owner:=by
  unfold layClean
  rw[<-Array.foldl_toList]
  show (hs.toList.foldl (zCQ mask) (some (Array.replicate (mask+1) none,0))).map (·.1)=_
  rw[e1];rfl
 simp only [Nat.zero_add,Array.length_toList] at e3
 have key:((List.range (mask+1)).filterMap λj=>(owner.getD j none).map (j,·)).map (·.2)=zAZ owner:=by
  rw[<-zBr owner,e2,List.map_filterMap]
  congr 1
  funext j
  cases owner.getD j none<;>rfl
 refine⟨_,_,by unfold laid;rw[hclean];rfl,?_,?_,rfl,rfl⟩
 ·simp only [List.toList_toArray,key];exact e3
 ·simp only [List.size_toArray,List.length_map]
  have:=congrArg List.length key
  rw[List.length_map] at this
  rw[this,e3.length_eq,List.length_range]
end
noncomputable section
section
variable {X:Cx}{n:Nat}{sc:Scope}
theorem zAI {l:List (Int×Value)}(h:ElemsOf (intKind X.prog X.w) l):∃ks,l=zC ks:=by
 induction l with
 | nil=>exact⟨[],rfl⟩
 | cons e l ih=>
  obtain⟨ks,rfl⟩:=ih h.tail
  obtain⟨⟨k,hk,hh⟩,_⟩:=h.head
  obtain⟨t,ht⟩:=Value.isInt_shape hk
  obtain⟨e1,e2⟩:=e
  dsimp only at hh ht
  subst hh ht
  exact⟨(k,t)::ks,rfl⟩
theorem zB9 {a:Int}{l l':List Int}(hn:(a::l).Nodup)(hs:∀x∈a::l,x∈l'):∀x∈l,x∈l'.erase a:=λx hx=>(List.mem_erase_of_ne λ(e:x=a)=>(List.nodup_cons.mp hn).1 (e▸hx)).mpr (hs x (.tail _ hx))
theorem zGJ {a b:Nat}(h:0<b):a<=b - 1↔a+1<=b:=(Nat.le_sub_iff_add_le h)
theorem w3 {l:List Int}:∀{l':List Int},l.Nodup->(∀x∈l,x∈l')->l.length<=l'.length:=by
 induction l with
 | nil=>exact λ_ _=>Nat.zero_le _
 | cons a l ih=>
  intro l' hn hs
  have ha:=hs a (.head _)
  have:=ih (List.nodup_cons.mp hn).2 (zB9 hn hs)
  rw[List.length_erase_of_mem ha] at this
  exact(zGJ (List.length_pos_of_mem ha)).mp this
theorem vd {l:List Int}:∀{l':List Int},l.Nodup->(∀x∈l,x∈l')->l'.length<=l.length->l'.Nodup:=by
 induction l with
 | nil=>intro l' _ _ h;rw[List.eq_nil_of_length_eq_zero (Nat.le_zero.mp h)];exact .nil
 | cons a l ih=>
  intro l' hn hs h
  have ha:=hs a (.head _)
  have hsub:=zB9 hn hs
  have e:=List.length_erase_of_mem ha
  have hp:=List.length_pos_of_mem ha
  have hna:a∉l'.erase a:=λhm=>by
   have:=w3 hn λx hx=>(List.mem_cons.mp hx).elim (λq=>q▸hm) (hsub x)
   rw[e] at this
   exact Nat.lt_irrefl _ (Nat.lt_of_lt_of_le (Nat.sub_lt hp Nat.one_pos) (Nat.le_trans h this))
  exact((List.perm_cons_erase ha).nodup_iff).mpr (List.nodup_cons.mpr ⟨hna,ih (List.nodup_cons.mp hn).2 hsub (by rw[e];exact Nat.sub_le_of_le_add h)⟩)
theorem SetI.of_setOf {h:Heap}{a:Addr}{S:Int->Bool}{k:Nat}{l:List Int}(i:h.SetOf (intKind X.prog X.w) a S k)(hn:l.Nodup)(hl:∀x∈l,S x=true)(hk:k<=l.length)(hr:∀x,S x=true->0<=x/\x<32):SetI h a S:=by
 obtain⟨⟨oc,od,oda,os⟩,es,ep,t,ho,⟨x1,x2,x3⟩,hd,hel,hm,hb,hf,hsz⟩:=i
 dsimp only at x1 x2 x3 hd
 subst x1 x2 x3 hd
 obtain⟨ks,hks⟩:=zAI hel
 have hlen:ks.length=k:=by rw[<-hsz,<-Array.length_toList,hks,List.length_map]
 have hm':∀x,S x=true↔x∈ks.map (·.1):=λx=>by rw[hm x,hks,zCs]
 refine⟨ks,ep,t,?_,?_,hm',?_,λx hx=>hr x ((hm' x).mpr hx)⟩
 ·rw[ho]
  have:es=(zC ks).toArray:=by rw[<-hks]
  rw[this]
 ·exact vd hn (λx hx=>(hm' x).mp (hl x hx)) (by rw[List.length_map,hlen];exact hk)
 ·rw[hlen,<-hsz];exact hf
theorem SetI.add {h h':Heap}{a:Addr}{S:Int->Bool}{k:Int}(i:SetI h a S)(hk:0<=k/\k<32)(hS:∀m,h.SetOf (intKind X.prog X.w) a S m->h'.SetOf (intKind X.prog X.w) a (λj=>S j||decide (j=k)) (if S k then m else m+1)) :
  SetI h' a (λj=>S j||decide (j=k)):=by
 obtain⟨l,hn,hm,hl,hs⟩:=i.parts (X:=X)
 have h1:=hS _ hs
 have hr:∀x,(S x||decide (x=k))=true->0<=x/\x<32:=λx hx=>by
  rw[Bool.or_eq_true,decide_eq_true_eq] at hx
  rcases hx with hx | rfl
  ·exact i.small x hx
  ·exact hk
 cases hsk:S k with
 | true=>
  rw[hsk] at h1
  exact SetI.of_setOf h1 hn (λx hx=>by rw[(hm x).mpr hx];rfl) (Nat.le_refl _) hr
 | false=>
  rw[hsk] at h1
  refine SetI.of_setOf (l:=k::l) h1 (List.nodup_cons.mpr ⟨λhx=>?_,hn⟩) (λx hx=>?_) (Nat.le_refl _) hr
  ·rw[(hm k).mpr hx] at hsk;cases hsk
  ·rcases List.mem_cons.mp hx with rfl | hx
   ·simp
   ·rw[(hm x).mpr hx];rfl
theorem SetOf.size {h:Heap}{a:Addr}{S:Int->Bool}{m k:Nat}(x:h.SetOf (intKind X.prog X.w) a S m)(y:h.SetOf (intKind X.prog X.w) a S k):m=k:=by
 obtain⟨_,_,_,_,e1,_,e2,_,_,_,_,e3⟩:=x
 obtain⟨_,_,_,_,f1,_,f2,_,_,_,_,f3⟩:=y
 rw[e1] at f1;cases f1;rw[e2] at f2;cases f2;rw[<-e3,<-f3]
theorem yR {A:Around}{s:Shared}{a:Addr}{S:Int->Bool}{k:Int}{t:Tok}{E:Value->Shared->Prop}{Q:Bool->Shared->Prop}(i:SetI s.heap a S)(hk:0<=k/\k<32)
  (h:∀h',Heap.SameBut a s.heap h'->SetI h' a (λj=>S j||decide (j=k))->Q (!S k) { s with heap:=h' }) :
  wpAny (model X.prog X.w) A (setAddHashed a (.int k t) (hashInt k)) Q E s:=by
 obtain⟨l,hn,hm,hl,hs⟩:=i.parts (X:=X)
 refine wpAny_setAddHashed_of (knd:=intKind X.prog X.w) (intKind_is _ _ _ _) rfl hs (Nat.lt_of_le_of_lt (Nat.succ_le_succ hl) (by unfold scanBound;decide)) λh' sb hS'=>h h' sb ?_
 exact i.add (X:=X) hk λm hm'=>by rw[SetOf.size hm' hs];exact hS'
theorem zCH {b:Bs}{G:Gh}{h:Heap}{a:Addr}{S:Int->Bool}{f:Bool}(hr:Rep X b G h)(e:G a=some (.set S f)):SetI h a S/\(f=true->∃led,h.get? a=some ⟨.type "set",none,.set #[] 0 (.fresh 0 0 led),#[]⟩)/\∃o,h.get? a=some o/\o.cls=.type "set":=by
 obtain⟨i,f⟩:=(hr.own _ _ e).2
 obtain⟨_,_,_,ho,_⟩:=id i
 exact⟨i,f,_,ho,rfl⟩
theorem Meth.add {G:Gh}{Q:QE}{a:Addr}{S:Int->Bool}{f:Bool}{k:Int}(e:G a=some (.set S f))(hk:0<=k/\k<32)(h:Q .none (G.upd a (.set (λj=>S j||decide (j=k)) false))):Blt X n (.builtin "set.add") [.ref a,.int k] G Q:=.two ⟨λ{A b s x y} hA hb hr hv hw=>by
 rw[hv.ref_inv]
 obtain⟨t,rfl⟩:=hw.int_inv
 obtain⟨i,_⟩:=zCH hr e
 obtain⟨l,hn,hm,hl,hs⟩:=i.parts (X:=X)
 refine call_set_add (knd:=intKind X.prog X.w) (intKind_is _ _ _ _) rfl hs (by unfold scanBound;omega) λh' sb hS'=>?_
 have i':=i.add (X:=X) (h':=h') hk λm hm'=>by rw[SetOf.size hm' hs];exact hS'
 obtain⟨r',k'⟩:=hr.change (g':=.set _ false) e rfl rfl sb ⟨i',λq=>nomatch q⟩
 exact .mk .none _ .none r' ⟨k',rfl,rfl⟩ h⟩
theorem zBu {A:Around}{s:Shared}{a:Addr}{ks:List (Int×Tok)}{ep:Nat}{t:SetTable}{k:Int}{tk:Tok}{E:Value->Shared->Prop}{Q:Option Nat->Shared->Prop}
  (ho:s.heap.get? a=some ⟨.type "set",none,.set (zC ks).toArray ep t,#[]⟩) (hf:t.fits ks.length=true) (hl:ks.length<4096) (h:Q (ks.findIdx? λp=>decide (p.1=k)) s) :
  wpAny (model X.prog X.w) A (setFind a (.int k tk) (hashInt k)) Q E s:=by
 have hel:=jR (X:=X) ks
 have hidx:List.findIdx? (λe:Int×Value=>(intKind X.prog X.w).is k e.2) (zC ks)=ks.findIdx? λp=>decide (p.1=k):=by
  clear h hel hf ho hl
  induction ks with
  | nil=>rfl
  | cons p ks ih=>
   simp only [zC,List.map_cons,List.findIdx?_cons] at ih ⊢
   rw[ih]
   have:(intKind X.prog X.w).is k (Value.int p.1 p.2)=decide (p.1=k):=by
    show Value.isInt k (Value.int p.1 p.2)=_
    by_cases hk:p.1=k<;>simp [Value.isInt,hk]
   rw[this]
 unfold setFind setFindIn
 have hf':t.fits (zC ks).toArray.size=true:=by simpa using hf
 refine wpAny_bind (wpAny_setState_of ho rfl hf' ?_)
 dsimp only
 rw[byScan_of (knd:=intKind X.prog X.w) (by rfl) (by simpa [scanBound] using hl) (by simpa using hel)]
 simp only [↓reduceIte]
 refine wpAny_bind (wpAny_rule ?_)
 refine wpAny_bind (wpAny_setScan_of (knd:=intKind X.prog X.w) (k:=k) (intKind_is _ _ _ _) ho rfl hf' (by simpa using hel) ?_)
 rw[List.toList_toArray,hidx]
 cases hr:ks.findIdx? λp=>decide (p.1=k) with
 | none=>rw[hr] at h;exact wpAny_pure h
 | some j=>rw[hr] at h;dsimp only;rw[Nat.zero_add];exact wpAny_pure h
theorem u0 {α:Type}(l:List α)(i:Nat):(SetTable.eraseAt l.toArray i).toList=l.eraseIdx i:=by
 simp [SetTable.eraseAt,List.extract_eq_take_drop,List.eraseIdx_eq_take_drop_succ,List.take_of_length_le]
theorem zA2 {α:Type}(xs:Array α)(p:Nat)(x:α):(SetTable.insertAt xs p x).size=xs.size+1:=by
 have:=(SetTable.insertAt_perm xs p x).length_eq
 simpa using this
theorem jv {α β:Type}(f:α->β)(l:List α):∀i:Nat,(l.map f).eraseIdx i=(l.eraseIdx i).map f:=by
 induction l with
 | nil=>exact λ_=>rfl
 | cons a l ih=>
  intro i
  cases i with
  | zero=>rfl
  | succ i=>exact congrArg (f a::·) (ih i)
theorem zFO {t:SetTable}{k i:Nat}(h:t.fits k=true)(hi:i<k):(t.drop i).fits (k - 1)=true:=by
 simp only [SetTable.fits,Bool.and_eq_true,beq_iff_eq,decide_eq_true_eq] at h
 simp only [SetTable.fill] at h
 obtain⟨j,hj⟩:∃j,t.place[i]?=some j:=⟨t.place[i],Array.getElem?_eq_getElem (h.1▸hi)⟩
 have hd:t.drop i={ t with place:=SetTable.eraseAt t.place i,dummies:=SetTable.insertAt t.dummies (SetTable.below t.dummies j) j }:=by
  unfold SetTable.drop;rw[hj]
 rw[hd]
 have e1:(SetTable.eraseAt t.place i).size=t.place.size - 1:=by
  generalize t.place=p at h
  obtain⟨l⟩:=p
  have:=congrArg List.length (u0 l i)
  rw[Array.length_toList] at this
  rw[this,List.length_eraseIdx]
  simp only [List.size_toArray] at h ⊢
  rw[if_pos (by lia)]
 simp only [SetTable.fits,Bool.and_eq_true,beq_iff_eq,decide_eq_true_eq]
 simp only [SetTable.fill,e1,zA2]
 lia
theorem Meth.discard {G:Gh}{Q:QE}{a:Addr}{S:Int->Bool}{f:Bool}{k:Int}(e:G a=some (.set S f))(h:Q .none (G.upd a (.set (λj=>S j&&!decide (j=k)) false))):Blt X n (.builtin "set.discard") [.ref a,.int k] G Q:=.two ⟨λ{A b s x y} hA hb hr hv hw=>by
 rw[hv.ref_inv]
 obtain⟨tk,rfl⟩:=hw.int_inv
 have i:=(hr.own _ _ e).2.1
 obtain⟨ks,ep,t,ho,hn,hm,hf,hsm⟩:=id i
 have hl:=few 32 _ hn hsm
 rw[List.length_map] at hl
 have hT:s.TypeIs (.ref a) "set":=⟨_,ho,rfl⟩
 refine wpAny_call_entry F.slot_set_discard hT F.entry_set_discard ?_ (F.args_set_discard_2 _ _)
 unfold Builtin.«set.discard» Builtin.Frozenset.oneOther
 simp only [List.isEmpty_nil,bind_assoc]
 unfold Builtin.Frozenset.addrOf Builtin.Frozenset.withSetAsKey setDiscard setDiscardHashed
 refine wpAny_bind (wpAny_pure ?_)
 dsimp only
 refine wpAny_bind (wpAny_pure ?_)
 dsimp only
 refine wpAny_bind (wpAny_tryCatch ?_)
 refine wpAny_holding ?_
 refine wpAny_bind (wpAny_pyHash_int ?_)
 have fin:∀(s':Shared),Out X b s Q .none s'->wpAny (model X.prog X.w) A.in1 (ret .none) (λfin s'=>∃r,fin=.done (.ret r)/\Out X b s Q r s') NoE s':=λs' q=>wpAny_pure ⟨_,rfl,q⟩
 refine wpAny_bind (zBu (X:=X) (s:={ s with toks:=s.toks+1 }) ho hf (by lia) ?_)
 cases hj:ks.findIdx? λp=>decide (p.1=k) with
 | none=>
  have hnk:S k=false:=by
   cases q:S k with
   | false=>rfl
   | true=>
    obtain⟨p,hp,hpk⟩:=List.mem_map.mp ((hm k).mp q)
    have:=List.findIdx?_eq_none_iff.mp hj p hp
    simp [hpk] at this
  have hS:(λj=>S j&&!decide (j=k))=S:=by
   funext j
   by_cases hjk:j=k
   ·subst hjk;rw[hnk];rfl
   ·simp [hjk]
  rw[hS] at h
  have hr':=hr.change (g':=.set S false) e rfl rfl (Heap.SameBut.refl _ _) ⟨i,λq=>nomatch q⟩
  exact wpAny_pure (fin _ (.mk .none _ .none hr'.1 ⟨.refl _,rfl,rfl⟩ h))
 | some j=>
  obtain⟨hj1,hj2,_⟩:=List.findIdx?_eq_some_iff_getElem.mp hj
  simp only [decide_eq_true_eq] at hj2
  dsimp only
  have hf':t.fits (zC ks).toArray.size=true:=by simpa using hf
  refine wpAny_bind (wpAny_setState_of (s:={ s with toks:=s.toks+1 }) ho rfl hf' ?_)
  dsimp only
  have hes:(SetTable.eraseAt (zC ks).toArray j)=(zC (ks.eraseIdx j)).toArray:=by
   apply Array.toList_inj.mp
   rw[u0,List.toList_toArray,zC,jv]
  rw[hes]
  have hlen:(ks.eraseIdx j).length=ks.length - 1:=by rw[List.length_eraseIdx,if_pos hj1]
  refine wpAny_bind (wpAny_storeSet_of (s:={ s with toks:=s.toks+1 }) ho rfl ?_ (by simp only [List.size_toArray,List.length_map,hlen,sizeLine_eq];lia))
  refine wpAny_bind (wpAny_point ?_)
  refine wpAny_pure (fin _ ?_)
  obtain⟨P,R,hsplit,hers⟩:∃P R,ks.map (·.1)=P++k::R/\(ks.eraseIdx j).map (·.1)=P++R:=by
   refine⟨(ks.map (·.1)).take j,(ks.map (·.1)).drop (j+1),?_,by rw[<-jv,List.eraseIdx_eq_take_drop_succ]⟩
   rw[<-hj2]
   conv=>lhs;rw[<-List.take_append_drop j (ks.map (·.1))]
   rw[List.drop_eq_getElem_cons (by simpa using hj1)]
   simp
  have hn2:=hn
  rw[hsplit,List.nodup_append] at hn2
  obtain⟨n1,n2,n3⟩:=hn2
  have n4:=List.nodup_cons.mp n2
  have hg:(s.heap.update a (Obj.putSet (zC (ks.eraseIdx j)).toArray (t.drop j))).get? a=some ⟨.type "set",none,.set (zC (ks.eraseIdx j)).toArray (ep+1) (t.drop j),#[]⟩:=by
   have:=Heap.get?_update_self (Obj.putSet (zC (ks.eraseIdx j)).toArray (t.drop j)) ho rfl
   exact this
  have i':SetI (s.heap.update a (Obj.putSet (zC (ks.eraseIdx j)).toArray (t.drop j))) a (λx=>S x&&!decide (x=k)):=by
   refine⟨ks.eraseIdx j,ep+1,t.drop j,hg,?_,λx=>?_,?_,λx hx=>hsm x ?_⟩
   ·rw[hers]
    exact List.nodup_append.mpr ⟨n1,n4.2,λp hp q hq=>n3 p hp q (.tail _ hq)⟩
   ·rw[hers,Bool.and_eq_true,hm x,hsplit]
    simp only [List.mem_append,List.mem_cons,Bool.not_eq_true',decide_eq_false_iff_not]
    constructor
    ·rintro ⟨h1 | h1 | h1,h2⟩
     ·exact .inl h1
     ·exact absurd h1 h2
     ·exact .inr h1
    ·rintro (h1 | h1)
     ·exact⟨.inl h1,λe=>n3 x h1 k (.head _) e⟩
     ·exact⟨.inr (.inr h1),λe=>n4.1 (e▸h1)⟩
   ·rw[hlen];exact zFO hf hj1
   ·rw[hers] at hx
    rw[hsplit]
    rcases List.mem_append.mp hx with q | q
    ·exact List.mem_append_left _ q
    ·exact List.mem_append_right _ (.tail _ q)
  obtain⟨r',k'⟩:=hr.change (g':=.set _ false) e rfl rfl (Heap.SameBut.update ..) ⟨i',λq=>nomatch q⟩
  exact .mk .none _ .none r' ⟨k',rfl,rfl⟩ h⟩
end
end
noncomputable section
section
variable {X:Cx}{n:Nat}{sc:Scope}
theorem uY:∀k,k<200->(SetTable.sizeAbove k - 1)∈zBV/\k<SetTable.sizeAbove k/\SetTable.sizeAbove k<=256:=by decide +kernel
noncomputable abbrev ww (ks:List (Int×Tok))(ep:Nat)(t:SetTable):Obj:=⟨.type "set",none,.set (zC ks).toArray ep t,#[]⟩
theorem zB7 {ks:List (Int×Tok)}{order:List Nat}(h:order.Perm (List.range ks.length)):∃ks',order.filterMap (λi=>(zC ks)[i]?)=zC ks'/\ks'.Perm ks:=by
 refine⟨order.filterMap (λi=>ks[i]?),?_,?_⟩
 ·simp only [zC,List.map_filterMap,List.getElem?_map]
 ·refine(h.filterMap _).trans ?_
  have:=filterMap_getElem?_range ks.toArray
  simp only [List.size_toArray,List.getElem?_toArray] at this
  rw[this]
theorem zG {α:Type}{M:Model}{A:Around}{E:Value->Shared->Prop}{s:Shared}{p:Prop}[Decidable p]{a b:Sem α}{Q:α->Shared->Prop}(hp:¬p)(h:wpAny M A b Q E s):wpAny M A (if p then a else b) Q E s:=by
 rw[if_neg hp];exact h
theorem zAE {ks:List (Int×Tok)}{mask finger moves:Nat}{led plain:Bool}(hm:mask∈zBV)(hr:∀k∈ks.map (·.1),0<=k/\k<32)(hl:ks.length<=mask) :
  ∃t order ks',SetTable.laid mask finger moves led plain ((zC ks).toArray.map (·.1))=some (t,order)/\order.filterMap ((zC ks).toArray[·]?)=(zC ks').toArray/\ks'.Perm ks/\t.place.size=ks.length/\t.dummies=#[]/\t.mask=mask:=by
 have hhs:((zC ks).toArray.map (·.1)).toList=ks.map λk=>hashInt k.1:=by simp [zC,Function.comp_def]
 have hsz:((zC ks).toArray.map (·.1)).size=ks.length:=by simp
 have hr':∀h∈((zC ks).toArray.map (·.1)).toList,0<=h/\h<32:=λh hh=>by
  rw[hhs] at hh
  obtain⟨p,hp,rfl⟩:=List.mem_map.mp hh
  obtain⟨h0,h1⟩:=hr p.1 (List.mem_map_of_mem hp)
  have:hashInt p.1=p.1:=by
   have key:∀j:Nat,j<32->hashInt (j:Int)=j:=by decide +kernel
   have:=key p.1.toNat (by lia)
   rwa [Int.toNat_of_nonneg h0] at this
  rw[this];exact⟨h0,h1⟩
 obtain⟨t,order,e1,e2,e3,e4,e5⟩:=zHq (finger:=finger) (moves:=moves) (led:=led) (plain:=plain) hm hr' (by rw[Array.size_map,List.size_toArray,List.length_map];exact hl)
 rw[hsz] at e2 e3
 obtain⟨ks',k1,k2⟩:=zB7 e2
 refine⟨t,order,ks',e1,?_,k2,e3,e4,e5⟩
 apply Array.toList_inj.mp
 rw[Array.toList_filterMap,<-k1]
 simp
theorem zCC {A:Around}{s:Shared}{E:Value->Shared->Prop}{a:Addr}{ks:List (Int×Tok)}{ep wanted:Nat}{t:SetTable}{Q:Unit->Shared->Prop}(ho:s.heap.get? a=some (ww ks ep t))(hf:t.fits ks.length=true)
  (hr:∀k∈ks.map (·.1),0<=k/\k<32) (hw:wanted<200) (hl:ks.length<=wanted)
  (h:∀h' ks' t',Heap.SameBut a s.heap h'->h'.get? a=some (ww ks' (ep+1) t')->ks'.Perm ks->t'.place.size=ks.length->t'.dummies=#[]->t'.mask+1=SetTable.sizeAbove wanted->Q () { s with heap:=h' }) :
  wpAny (model X.prog X.w) A (setRelay a wanted) Q E s:=by
 obtain⟨hm,h1,h2⟩:=uY wanted hw
 have hf':t.fits (zC ks).toArray.size=true:=by simpa using hf
 unfold setRelay
 refine wpAny_bind (wpAny_setState_of ho rfl hf' ?_)
 dsimp only
 rw[if_neg (by rw[sizeLine_eq];exact Nat.not_lt.mpr (Nat.le_trans h2 (by decide)))]
 obtain⟨t',order,ks',e1,e2,p1,p2,p3,p4⟩:=zAE (finger:=t.finger) (moves:=t.movedTo (SetTable.sizeAbove wanted - 1)) (led:=t.led) (plain:=t.plain) hm hr (Nat.le_sub_one_of_lt (Nat.lt_of_le_of_lt hl h1))
 refine wpAny_bind ?_
 rw[show t.relaid ((zC ks).toArray.map (·.1)) wanted=some (t',order) from e1]
 refine zG (p:=((order.filterMap ((zC ks).toArray[·]?)).size != (zC ks).toArray.size)=true) (by rw[e2];simp [p1.length_eq]) (wpAny_pure ?_)
 rw[e2]
 refine wpAny_storeSet_of ho rfl ?_ (by simp only [List.size_toArray,List.length_map,p1.length_eq,sizeLine_eq];exact Nat.le_trans (Nat.le_of_lt (Nat.lt_of_le_of_lt hl hw)) (by decide))
 exact h _ ks' t' (Heap.SameBut.update ..) (Heap.get?_update_self (Obj.putSet (zC ks').toArray t') ho rfl) p1 p2 p3 (by rw[p4];exact Nat.sub_add_cancel (Nat.lt_of_le_of_lt (Nat.zero_le _) h1))
theorem zEw {α:Type}{l:List α}:∀{i:Nat} (h:i<l.length),(l[i]::l.eraseIdx i).Perm l:=by
 induction l with
 | nil=>intro i h;exact absurd h (Nat.not_lt_zero _)
 | cons a l ih=>
  intro i h
  cases i with
  | zero=>exact .rfl
  | succ i=>exact(List.Perm.swap _ _ _).trans (List.Perm.cons a (ih (Nat.lt_of_succ_lt_succ h)))
theorem zEU {α:Type}(next:Nat->Nat)(fuel:Nat):∀(k:Nat) (left:List α) (out:Array α),left.length=fuel->(pickOrder.go next fuel k left out).toList.Perm (out.toList++left):=by
 induction fuel with
 | zero=>
  intro k left out h
  rw[List.length_eq_zero_iff.mp h,List.append_nil];exact .rfl
 | succ fuel ih=>
  intro k left out h
  rw[pickOrder.go]
  have hlt:next k % left.length<left.length:=Nat.mod_lt _ (h▸Nat.succ_pos fuel)
  rw[List.getElem?_eq_getElem hlt]
  dsimp only
  refine(ih (k+1) _ _ (by rw[List.length_eraseIdx,if_pos hlt,h];rfl)).trans ?_
  rw[Array.toList_push,List.append_assoc]
  refine List.Perm.append_left _ ?_
  exact zEw hlt
theorem zEV (X:Cx){ks:List (Int×Tok)}:∀{l:List (Int×Value)},l.Perm (zC ks)->∃ks',l=zC ks'/\ks'.Perm ks:=by
 intro l h
 obtain⟨ks',hks⟩:=zAI (X:=X) ((jR ks).perm h)
 subst hks
 refine⟨ks',rfl,?_⟩
 have key:∀ks:List (Int×Tok),(zC ks).map (λe=>match e.2 with | .int k t=>(k,t) | _=>(0,0))=ks:=λks=>by
  rw[zC,List.map_map]
  conv=>rhs;rw[<-List.map_id ks]
  rfl
 have:=h.map (λe:Int×Value=>match e.2 with | .int k t=>(k,t) | _=>((0:Int),(0:Tok)))
 rwa [key,key] at this
theorem zDL {A:Around}{s:Shared}{E:Value->Shared->Prop}{o:Addr}{ks:List (Int×Tok)}{ep:Nat}{t:SetTable}{Q:Array (Int×Value)->Shared->Prop}(ho:s.heap.get? o=some (ww ks ep t))(hf:t.fits ks.length=true)
  (hd:(!t.plain&&decide (ks.length > 1))=false\/X.w.params.followText "set-order" = true) (hl:(!t.led&&decide (ks.length > 1))=false\/X.w.params.followText "set-order" = true)
  (h:∀ks',ks'.Perm ks->Q (zC ks').toArray s):wpAny (model X.prog X.w) A (setWalk o) Q E s:=by
 have hf':t.fits (zC ks).toArray.size=true:=by simpa using hf
 unfold setWalk
 refine wpAny_bind (wpAny_setState_of ho rfl hf' ?_)
 dsimp only
 unfold setsByText
 refine wpAny_bind (wpAny_bind (wpAny_askSetting (wpAny_pure ?_)))
 dsimp only
 cases hb:X.w.params.followText "set-order" with
 | true=>
  have hb':(model X.prog X.w).w.params.followText "set-order" = true:=hb
  rw[hb',if_pos rfl]
  refine wpAny_bind (wpAny_askSetting (wpAny_pure ?_))
  have hp:=zEU ((model X.prog X.w).w.params.setOrder o ep) (zC ks).toArray.size 0 (zC ks) #[] (by simp)
  simp only [List.nil_append] at hp
  obtain⟨ks',e,p⟩:=zEV X hp
  have e2:pickOrder ((model X.prog X.w).w.params.setOrder o ep) (zC ks).toArray=(zC ks').toArray:=by
   apply Array.toList_inj.mp
   rw[<-e];rfl
  show Q (pickOrder ((model X.prog X.w).w.params.setOrder o ep) (zC ks).toArray) s
  rw[e2];exact h ks' p
 | false=>
  have hb':(model X.prog X.w).w.params.followText "set-order" = false:=hb
  rw[hb',if_neg (by decide)]
  rw[hb] at hd hl
  simp only [Bool.false_eq_true,or_false] at hd hl
  have q1:(!t.plain&&decide ((zC ks).toArray.size > 1))=false:=by simpa using hd
  have q2:(!t.led&&decide ((zC ks).toArray.size > 1))=false:=by simpa using hl
  split
  ·rename_i q;exact absurd (q1.symm.trans q) (by decide)
  ·refine wpAny_bind (zG (p:=(!t.led&&decide ((zC ks).toArray.size > 1))=true) (by rw[q2];decide) (wpAny_pure (wpAny_pure (h ks .rfl))))
theorem ux {A:Around}{s:Shared}{E:Value->Shared->Prop}{sets:List Addr}{Q:Bool->Shared->Prop}(hs:∀a∈sets,∃ks ep t,s.heap.get? a=some (ww ks ep t)/\t.fits ks.length=true)(h:Q true s) :
  wpAny (model X.prog X.w) A (setsQuiet sets) Q E s:=by
 unfold setsQuiet
 refine wpAny_bind (wpAny_forIn_list _ (λrest b s'=>s'=s/\b=(none,())/\∀a∈rest,a∈sets) _ ?_ ?_ _ _ ⟨rfl,rfl,λ_ h=>h⟩)
 ·rintro a rest b s' ⟨rfl,rfl,hin⟩
  obtain⟨ks,ep,t,ho,hf⟩:=hs a (hin a (.head _))
  have hf':t.fits (zC ks).toArray.size=true:=by simpa using hf
  refine wpAny_bind (wpAny_setEntries_of ho rfl hf' ?_)
  refine wpAny_bind ?_
  rw[<-Array.forIn_toList]
  refine wpAny_forIn_list _ (λrest b s'=>s'=s'/\s'=s'/\b=(none,())/\(∀e∈rest,e∈zC ks)/\s'=_) _ ?_ ?_ _ _ ⟨rfl,rfl,rfl,λ_ h=>by simpa using h,rfl⟩
  ·rintro ⟨e1,e2⟩ rest b s' ⟨_,_,rfl,hin,rfl⟩
   have:=hin _ (.head _)
   simp only [zC,List.mem_map] at this
   obtain⟨k,_,hk⟩:=this
   cases hk
   exact wpAny_pure ⟨rfl,rfl,rfl,λe he=>hin e (.tail _ he),rfl⟩
  ·rintro b s' ⟨_,_,rfl,_,rfl⟩
   exact wpAny_pure ⟨rfl,rfl,λa ha=>hin a (.tail _ ha)⟩
 ·rintro b s' ⟨rfl,rfl,_⟩
  exact wpAny_pure h
theorem u6 {A:Around}{s:Shared}{E:Value->Shared->Prop}{o a:Addr}{ko ka:List (Int×Tok)}{eo ea:Nat}{to ta:SetTable}{Q:Array (Int×Value)->Shared->Prop}(hne:a≠o)
  (ho:s.heap.get? o=some (ww ko eo to)) (hfo:to.fits ko.length=true) (ha:s.heap.get? a=some (ww ka ea ta)) (hfa:ta.fits ka.length=true) (hlen:ka.length<=40)
  (h:∀ks' h' ea' ta',ks'.Perm ko->Heap.SameBut a s.heap h'->h'.get? a=some (ww ka ea' ta')->ta'.fits ka.length=true->Q (zC ks').toArray { s with heap:=h' }) :
  wpAny (model X.prog X.w) A (setWalkUnseen o [a] (some a)) Q E s:=by
 have hfo':to.fits (zC ko).toArray.size=true:=by simpa using hfo
 have hfa':ta.fits (zC ka).toArray.size=true:=by simpa using hfa
 have walkIt:((!to.plain&&decide (ko.length > 1))=false\/X.w.params.followText "set-order" = true)->((!to.led&&decide (ko.length > 1))=false\/X.w.params.followText "set-order" = true)->wpAny (model X.prog X.w) A (setWalk o) Q E s:=
  λh1 h2=>zDL ho hfo h1 h2 λks' p=>h ks' s.heap ea ta p (.refl _ _) ha hfa
 unfold setWalkUnseen setsByText
 refine wpAny_bind (wpAny_setState_of ho rfl hfo' ?_)
 dsimp only
 refine wpAny_bind (wpAny_bind (wpAny_askSetting (wpAny_pure ?_)))
 have hB:(model X.prog X.w).w.params.followText "set-order" = X.w.params.followText "set-order":=rfl
 rw[hB]
 by_cases hc:(X.w.params.followText "set-order"||(to.led&&to.plain)||decide ((zC ko).toArray.size<=1))=true
 ·rw[if_pos hc]
  refine walkIt ?_ ?_
  ·simp only [Bool.or_eq_true,Bool.and_eq_true,decide_eq_true_eq,List.size_toArray,List.length_map] at hc
   rcases hc with (hc | hc) | hc
   ·exact .inr hc
   ·left;rw[hc.2];rfl
   ·left;rw[decide_eq_false (by lia),Bool.and_false]
  ·simp only [Bool.or_eq_true,Bool.and_eq_true,decide_eq_true_eq,List.size_toArray,List.length_map] at hc
   rcases hc with (hc | hc) | hc
   ·exact .inr hc
   ·left;rw[hc.1];rfl
   ·left;rw[decide_eq_false (by lia),Bool.and_false]
 ·rw[if_neg hc]
  refine wpAny_bind (ux (λx hx=>?_) ?_)
  ·rcases List.mem_cons.mp hx with rfl | hx
   ·exact⟨ko,eo,to,ho,hfo⟩
   ·rw[List.mem_singleton] at hx;subst hx;exact⟨ka,ea,ta,ha,hfa⟩
  ·rw[if_neg (by decide)]
   refine wpAny_bind (wpAny_rule ?_)
   refine wpAny_bind (wpAny_setState_of ha rfl hfa' ?_)
   dsimp only
   split
   ·refine wpAny_bind (wpAny_storeSet_of ha rfl ?_ (by simp only [List.size_toArray,List.length_map,sizeLine_eq];lia))
    refine wpAny_pure ?_
    exact h ko _ _ _ .rfl (Heap.SameBut.update ..) (Heap.get?_update_self (Obj.putSet _ _) ha rfl) hfa
   ·exact wpAny_pure (h ko s.heap ea ta .rfl (.refl _ _) ha hfa)
theorem SetI.of_obj {h:Heap}{a:Addr}{ks:List (Int×Tok)}{ep:Nat}{t:SetTable}{S:Int->Bool}(ho:h.get? a=some (ww ks ep t))(hn:(ks.map (·.1)).Nodup)(hm:∀k,S k=true↔k∈ks.map (·.1))(hf:t.fits ks.length=true)(hr:∀k,S k=true->0<=k/\k<32):SetI h a S:=
 ⟨ks,ep,t,ho,hn,hm,hf,λk hk=>hr k ((hm k).mpr hk)⟩
noncomputable def vM (h:Heap)(a:Addr):Prop:=∃led,h.get? a=some ⟨.type "set",none,.set #[] 0 (.fresh 0 0 led),#[]⟩
theorem zCL {A:Around}{s s₁:Shared}{E:Value->Shared->Prop}{a:Addr}{ko ks':List (Int×Tok)}{U:Int->Bool}{ea:Nat}{ta t':SetTable}{Q:Unit->Shared->Prop}(hs1:s₁={ s with heap:=s₁.heap })(sb:Heap.SameBut a s.heap s₁.heap)(ho:s₁.heap.get? a=some (ww [] ea ta))(hno:(ko.map (·.1)).Nodup)(hU:∀k,U k=true↔k∈ko.map (·.1))(hr:∀k,U k=true->0<=k/\k<32)(hlo:ko.length<=32)(p:ks'.Perm ko)(hf:t'.fits ks'.length=true)
  (k:∀h',Heap.SameBut a s.heap h'->SetI h' a U->Q () { s with heap:=h' }):wpAny (model X.prog X.w) A (storeSet a (zC ks').toArray t') Q E s₁:=by
 refine wpAny_storeSet_of ho rfl ?_ (by rw[List.size_toArray,List.length_map,p.length_eq,sizeLine_eq];exact Nat.le_trans hlo (by decide))
 have hg:=Heap.get?_update_self (Obj.putSet (zC ks').toArray t') ho rfl
 rw[hs1]
 exact k _ (sb.trans (Heap.SameBut.update ..)) (SetI.of_obj (ks:=ks') (ep:=ea+1) (t:=t') hg (((p.map _).nodup_iff).mpr hno) (λk=>by rw[(p.map _).mem_iff];exact hU k) hf hr)
theorem zGi {S T Si:Int->Bool}(a1:∀j,S j=true->Si j=true)(a2:∀j,Si j=true->S j=true\/T j=true)(a3:∀j,T j=true->Si j=true):Si=λj=>S j||T j:=funext λj=>Bool.eq_iff_iff.mpr (by rw[Bool.or_eq_true];exact⟨a2 j,λq=>q.elim (a1 j) (a3 j)⟩)
theorem zD3 {A:Around}{s s₁:Shared}{E:Value->Shared->Prop}{a o:Addr}{S T:Int->Bool}{nm:String}{ka ko:List (Int×Tok)}{ea eo:Nat}{ta to:SetTable}{Q:Unit->Shared->Prop}(hne:a≠o)(hs1:s₁={ s with heap:=s₁.heap })(sb1:Heap.SameBut a s.heap s₁.heap)(hoo:s.heap.get? o=some (ww ko eo to))(hfo:to.fits ko.length=true)(hmo:∀k,T k=true↔k∈ko.map (·.1))(hro:∀k,T k=true->0<=k/\k<32)
  (ho:s₁.heap.get? a=some (ww ka ea ta)) (hf:ta.fits ka.length=true) (hl:ka.length<=40) (iS:∀{h' ea' ta'},h'.get? a=some (ww ka ea' ta')->ta'.fits ka.length=true->SetI h' a S) (k:∀h',Heap.SameBut a s.heap h'->SetI h' a (λj=>S j||T j)->Q () { s with heap:=h' }) :
  wpAny (model X.prog X.w) A (do
   for (h,x) in <-setWalkUnseen o [a] (some a) do
    let _ <-holding [x] (setAddHashed a x h)
    Builtin.Frozenset.unchanged nm o eo
    if (<-setState o).2.1 != eo then unsupported "set.changed-during-merge") Q E s₁:=by
 have hfo':to.fits (zC ko).toArray.size=true:=by rw[List.size_toArray,List.length_map];exact hfo
 have hkeep:∀{h'},Heap.SameBut a s.heap h'->h'.get? o=some (ww ko eo to):=λsb=>(sb.2 o (Ne.symm hne)).trans hoo
 refine wpAny_bind (u6 hne (hkeep sb1) hfo ho hf hl λks' h2 ea2 ta2 p' sb2 ho2 hf2=>?_)
 have i2:=iS ho2 hf2
 rw[hs1]
 have sb2:=sb1.trans sb2
 clear hs1 sb1 ho2 hf2 iS ho hf hl hoo
 rw[<-Array.forIn_toList]
 refine wpAny_bind ?_
 refine wpAny_forIn_list _ (λrest b s'=>∃h' Si rs,s'={ s with heap:=h' }/\Heap.SameBut a s.heap h'/\SetI h' a Si/\rest=zC rs/\(∀p∈rs,p.1∈ko.map (·.1))/\(∀j,S j=true->Si j=true)/\(∀j,Si j=true->S j=true\/T j=true)/\(∀j,T j=true->Si j=true\/j∈rs.map (·.1))) _ (λe rest b s' q=>?_) (λb s' q=>?_) _ _
  ⟨h2,S,ks',rfl,sb2,i2,rfl,λp hp=>(p'.map (·.1)).mem_iff.mp (List.mem_map_of_mem hp),λ_ h=>h,λ_ h=>.inl h,λj hj=>.inr ((p'.map (·.1)).mem_iff.mpr ((hmo j).mp hj))⟩
 ·clear k p' sb2 i2
  obtain⟨h',Si,rs,rfl,sb',i',hrs,hin,a1,a2,a3⟩:=q
  cases rs with
  | nil=>cases hrs
  | cons p rs=>
   obtain⟨e1,rfl⟩:=List.cons.inj hrs
   subst e1
   have hpT:T p.1=true:=(hmo p.1).mpr (hin p (.head _))
   refine wpAny_bind (wpAny_holding (yR (X:=X) (s:={ s with heap:=h' }) i' (hro p.1 hpT) λh'' sb'' i''=>?_))
   have sb':=sb'.trans sb''
   have hoo:=hkeep sb'
   clear sb'' i' hkeep hro hmo hne
   refine wpAny_bind ?_
   unfold Builtin.Frozenset.unchanged
   refine wpAny_bind (wpAny_setEpoch_of (s:={ s with heap:=h'' }) hoo rfl hfo' ?_)
   refine zG (by rw[bne_self_eq_false];decide) (wpAny_pure ?_)
   refine wpAny_bind (wpAny_setState_of (s:={ s with heap:=h'' }) hoo rfl hfo' ?_)
   refine zG (by rw[bne_self_eq_false];decide) (wpAny_pure ?_)
   refine⟨h'',_,rs,rfl,sb',i'',rfl,λq hq=>hin q (.tail _ hq),λj hj=>by rw[a1 j hj];rfl,λj hj=>?_,λj hj=>?_⟩
   ·rcases Bool.or_eq_true_iff.mp hj with q | q
    ·exact a2 j q
    ·exact .inr (of_decide_eq_true q▸hpT)
   ·rcases a3 j hj with q | q
    ·left;rw[q];rfl
    ·rcases List.mem_cons.mp q with q | q
     ·left;rw[q,decide_eq_true rfl,Bool.or_true]
     ·exact .inr q
 ·obtain⟨h',Si,rs,rfl,sb',i',hrs,hin,a1,a2,a3⟩:=q
  cases rs with
  | cons p r=>cases hrs
  | nil=>
   rw[zGi a1 a2 λj q=>(a3 j q).elim id λz=>by cases z] at i'
   exact wpAny_pure (k h' sb' i')
theorem zFp {t o:SetTable}(h:t.fill≠0):t.road o=.oneByOne:=if_pos (bne_iff_ne.mpr h)
theorem zEO {t o:SetTable}(h:t.fill=0):t.road o=.slotForSlot\/t.road o=.clean:=by
 unfold SetTable.road
 rw[if_neg (by rw[h];decide)]
 split
 ·exact .inl rfl
 ·exact .inr rfl
theorem zFC {t:SetTable}{k:Nat}(h1:t.place.size=k)(h2:t.dummies=#[])(h3:k<=t.mask):t.fits k=true:=by
 unfold SetTable.fits SetTable.fill
 rw[h1,h2,beq_self_eq_true,Bool.true_and]
 exact decide_eq_true h3
theorem jH {t:SetTable}{k:Nat}(h:t.fits k=true):t.place.size=k:=eq_of_beq (Bool.and_eq_true_iff.mp h).1
theorem zEc {A:Around}{s s₁:Shared}{E:Value->Shared->Prop}{a o:Addr}{S T:Int->Bool}{nm:String}{ka ko:List (Int×Tok)}{ea eo:Nat}{ta to:SetTable}{Q:Unit->Shared->Prop}(hne:a≠o)(hoo:s.heap.get? o=some (ww ko eo to))(hfo:to.fits ko.length=true)(hno:(ko.map (·.1)).Nodup)(hmo:∀k,T k=true↔k∈ko.map (·.1))(hro:∀k,T k=true->0<=k/\k<32)(hlo:ko.length<=32)
  (hs1:s₁={ s with heap:=s₁.heap }) (sb1:Heap.SameBut a s.heap s₁.heap) (ho:s₁.heap.get? a=some (ww ka ea ta)) (hna:(ka.map (·.1)).Nodup) (hma:∀k,S k=true↔k∈ka.map (·.1)) (hra:∀k,S k=true->0<=k/\k<32) (hf:ta.fits ka.length=true) (hl:ka.length<=40) (hz:ta.fill=0->ta.mask∈zBV/\ko.length<=ta.mask)
  (k:∀h',Heap.SameBut a s.heap h'->SetI h' a (λj=>S j||T j)->Q () { s with heap:=h' }) :
  wpAny (model X.prog X.w) A (do
   let (_,_,ts) <-setState a
   match ts.road to with
   | .slotForSlot=>storeSet a (zC ko).toArray { to with finger:=ts.finger,led:=ts.led&&to.led,moves:=ts.moves,plain:=ts.plain&&to.plain }
   | .clean=>
    let (es,t) <-(do
     let some (t,order):=SetTable.laid ts.mask ts.finger ts.moves (led:=ts.led&&to.led) (plain:=ts.plain&&to.plain) ((zC ko).toArray.map (·.1)) | unsupported "internal:set-table-without-room"
     let es':=order.filterMap ((zC ko).toArray[·]?)
     if es'.size != (zC ko).toArray.size then unsupported "internal:set-table-lost-an-element"
     pure (es',t))
    storeSet a es t
   | .oneByOne=>
    for (h,x) in <-setWalkUnseen o [a] (some a) do
     let _ <-holding [x] (setAddHashed a x h)
     Builtin.Frozenset.unchanged nm o eo
     if (<-setState o).2.1 != eo then unsupported "set.changed-during-merge") Q E s₁:=by
 refine wpAny_bind (wpAny_setState_of ho rfl (by rw[List.size_toArray,List.length_map];exact hf) ?_)
 dsimp only
 by_cases hfill:ta.fill=0
 ·have hk0:ka=[]:=List.length_eq_zero_iff.mp ((jH hf).symm.trans (Nat.eq_zero_of_add_eq_zero_right hfill))
  subst hk0
  obtain⟨hm,hle⟩:=hz hfill
  have hS:∀j,S j=false:=λj=>Bool.eq_false_iff.mpr λq=>List.not_mem_nil ((hma j).mp q)
  have hU:∀j,(S j||T j)=T j:=λj=>by rw[hS j];rfl
  have st:∀{ks' t'},ks'.Perm ko->t'.fits ks'.length=true->wpAny (model X.prog X.w) A (storeSet a (zC ks').toArray t') Q E s₁:=λp hf=>zCL hs1 sb1 ho hno (λj=>by rw[hU j];exact hmo j) (λj q=>hro j (by rw[hU j] at q;exact q)) hlo p hf k
  have hro':∀j∈ko.map (·.1),0<=j/\j<32:=λj q=>hro j ((hmo j).mpr q)
  clear k hS hU hs1 sb1 ho hna hma hra hf hl hz hmo hoo
  rcases zEO (o:=to) hfill with e | e
  ·rw[e];exact st .rfl hfo
  ·rw[e]
   obtain⟨t',order,ks',e1,e2,p1,p2,p3,p4⟩:=zAE (finger:=ta.finger) (moves:=ta.moves) (led:=ta.led&&to.led) (plain:=ta.plain&&to.plain) hm hro' hle
   dsimp only
   rw[e1]
   dsimp only
   refine wpAny_bind (zG (by rw[e2,List.size_toArray,List.length_map,List.size_toArray,List.length_map,p1.length_eq,bne_self_eq_false];decide) (wpAny_pure ?_))
   dsimp only
   rw[e2]
   exact st p1 (zFC (p2.trans p1.length_eq.symm) p3 (by rw[p4,p1.length_eq];exact hle))
 ·rw[zFp hfill]
  exact zD3 hne hs1 sb1 hoo hfo hmo hro ho hf hl (λe f=>SetI.of_obj e hna hma f hra) k
theorem zEM {ta:SetTable}{k:Nat}(e:ta=SetTable.fresh 0 0 ta.led)(hn:ta.roomFor k=none):ta.mask∈zBV/\k<=ta.mask:=by
 rw[e] at hn ⊢
 simp only [SetTable.roomFor,SetTable.fresh,SetTable.fill] at hn ⊢
 simp only [List.size_toArray,List.length_nil] at hn
 split at hn
 ·cases hn
 ·exact⟨by decide,by lia⟩
theorem zEL {ta:SetTable}{k w:Nat}(h:ta.roomFor k=some w):w=(ta.place.size+k) * 2:=by
 unfold SetTable.roomFor at h
 split at h
 ·exact(Option.some.inj h).symm
 ·cases h
theorem zHQ {a k w:Nat}(ha:a<=32)(hk:k<=32)(h:w=(a+k) * 2):w<200:=by rw[h];exact Nat.lt_of_le_of_lt (Nat.mul_le_mul_right 2 (Nat.add_le_add ha hk)) (by decide)
theorem zHR {a k w:Nat}(h:w=(a+k) * 2):a<=w:=by rw[h];exact Nat.le_trans (Nat.le_add_right a k) (Nat.le_mul_of_pos_right _ (by decide))
theorem zEN {a k w m z:Nat}(h:w=(a+k) * 2)(hz:w<z)(q:m+1=z):a<=m/\k<=m:=by
 have hm:(a+k) * 2<=m:=Nat.le_of_lt_succ (by rw[<-h];exact Nat.lt_of_lt_of_eq hz q.symm)
 have h2:=Nat.le_trans (Nat.le_mul_of_pos_right (a+k) (by decide)) hm
 exact⟨Nat.le_trans (Nat.le_add_right a k) h2,Nat.le_trans (Nat.le_add_left k a) h2⟩
theorem zGT {h:Heap}{a:Addr}{ka:List (Int×Tok)}{ea:Nat}{ta:SetTable}{S:Int->Bool}(hoa:h.get? a=some (ww ka ea ta))(hma:∀k,S k=true↔k∈ka.map (·.1))(hfa:ta.fits ka.length=true)(hfr:vM h a\/∃k,S k=true)(hz:ta.fill=0):ta=SetTable.fresh 0 0 ta.led:=by
 rcases hfr with ⟨led,e⟩ | ⟨k,hk⟩
 ·rw[hoa] at e;injection e with e;injection e with _ _ e _;injection e with _ _ e;rw[e];rfl
 ·have h1:=(hma k).mp hk
  rw[List.length_eq_zero_iff.mp ((jH hfa).symm.trans (Nat.eq_zero_of_add_eq_zero_right hz))] at h1
  cases h1
theorem vF {A:Around}{s:Shared}{E:Value->Shared->Prop}{a o:Addr}{S T:Int->Bool}{nm:String}{Q:Unit->Shared->Prop}(ia:SetI s.heap a S)(io:SetI s.heap o T)(hne:a≠o)(hfr:vM s.heap a\/∃k,S k=true)
  (h:∀h',Heap.SameBut a s.heap h'->SetI h' a (λj=>S j||T j)->(vM h' a\/∃k,S k=true\/T k=true)->Q () { s with heap:=h' }) :
  wpAny (model X.prog X.w) A (Builtin.Frozenset.merge nm a o) Q E s:=by
 obtain⟨ka,ea,ta,hoa,hna,hma,hfa,hra⟩:=id ia
 obtain⟨ko,eo,to,hoo,hno,hmo,hfo,hro⟩:=id io
 have hla:=few 32 _ hna hra
 have hlo:=few 32 _ hno hro
 rw[List.length_map] at hla hlo
 have hfo':to.fits (zC ko).toArray.size=true:=by rw[List.size_toArray,List.length_map];exact hfo
 have hfa':ta.fits (zC ka).toArray.size=true:=by rw[List.size_toArray,List.length_map];exact hfa
 unfold Builtin.Frozenset.merge
 refine wpAny_bind (wpAny_setEpoch_of hoo rfl hfo' ?_)
 unfold setMerge
 refine zG (λq=>hne (eq_of_beq q)) ?_
 refine wpAny_bind (wpAny_setState_of hoo rfl hfo' ?_)
 dsimp only
 cases ko with
 | nil=>
  rw[if_pos (by rfl)]
  have hT:(λj=>S j||T j)=S:=(zGi (λ_ q=>q) (λ_ q=>.inl q) λj q=>absurd ((hmo j).mp q) List.not_mem_nil).symm
  exact wpAny_pure (h s.heap (.refl _ _) (by rw[hT];exact ia) (hfr.imp id λq=>q.elim λk hk=>⟨k,.inl hk⟩))
 | cons p0 ko=>
  refine zG (λq=>Bool.false_ne_true q) ?_
  have k:∀h',Heap.SameBut a s.heap h'->SetI h' a (λj=>S j||T j)->Q () { s with heap:=h' }:=λh' sb i=>h h' sb i (.inr ⟨p0.1,.inr ((hmo _).mpr (.head _))⟩)
  clear h
  have hpos:0<(p0::ko).length:=Nat.succ_pos _
  generalize p0::ko=ko at *
  have key:=λ(s₁:Shared) (ka1:List (Int×Tok)) (ea1:Nat) (ta1:SetTable) (hs1:s₁={ s with heap:=s₁.heap }) (sb1:Heap.SameBut a s.heap s₁.heap) (ho1:s₁.heap.get? a=some (ww ka1 ea1 ta1)) (p₁:ka1.Perm ka) (hf1:ta1.fits ka1.length=true) (hz:ta1.fill=0->ta1.mask∈zBV/\ko.length<=ta1.mask)=>
   zEc (X:=X) (A:=A) (E:=E) (nm:=nm) hne hoo hfo hno hmo io.small hlo hs1 sb1 ho1 (((p₁.map _).nodup_iff).mpr hna) (λk=>by rw[hma k,(p₁.map _).mem_iff]) ia.small hf1 (by rw[p₁.length_eq];exact Nat.le_trans hla (by decide)) hz k
  refine wpAny_bind ?_
  unfold setRoomFor
  refine wpAny_bind (wpAny_setState_of hoa rfl hfa' ?_)
  have hkoe:(zC ko).toArray.size=ko.length:=by rw[List.size_toArray,List.length_map]
  rw[hkoe]
  dsimp only
  cases hroom:ta.roomFor ko.length with
  | none=>exact wpAny_pure (key s ka ea ta rfl (.refl _ _) hoa .rfl hfa λhz=>zEM (zGT hoa hma hfa hfr hz) hroom)
  | some wanted=>
   have hw:wanted=(ka.length+ko.length) * 2:=jH hfa▸zEL hroom
   have hw2:=zHQ hla hlo hw
   obtain⟨m1,m2,m3⟩:=uY wanted hw2
   refine zCC (X:=X) hoa hfa hra hw2 (zHR hw) λh' ks' t' sb' ho' p' q1 q2 q3=>?_
   obtain⟨g1,g2⟩:=zEN hw m2 q3
   exact key { s with heap:=h' } ks' (ea+1) t' rfl sb' ho' p' (zFC (q1.trans p'.length_eq.symm) q2 (by rw[p'.length_eq];exact g1)) λ_=>⟨by rw[show t'.mask=SetTable.sizeAbove wanted - 1 from Nat.eq_sub_of_add_eq q3];exact m1,g2⟩
end
end
noncomputable section
theorem vV:isSubtype (.type "set") (.type "frozenset")=pure false:=by rw[isSubtype_type];kernel_rfl
theorem zBb:entryFor table "set.__ne__" = some Builtin.«frozenset.__ne__»:=
 entryFor_alias (id':="frozenset.__ne__") (by rw[fastTable_eq_tree];kernel_rfl) (by kernel_rfl) (by kernel_rfl) (by rw[fastTable_eq_tree];kernel_rfl)
theorem zAo:fillsInplaceSlot (.type "set") "or" false=pure true:=by
 unfold fillsInplaceSlot
 show (typeLookup (.type "set") (dunderI "or") >>= λfi=>pure (fi.isSome&&!isSeqSlot fi))=pure true
 rw[F.slot_set_ior.lookup]
 show pure (f:=Sem) ((some (Value.builtin "set.__ior__")).isSome&&!isSeqSlot (some (.builtin "set.__ior__")))=pure true
 rw[show ((some (Value.builtin "set.__ior__")).isSome&&!isSeqSlot (some (.builtin "set.__ior__")))=true by decide +kernel]
section
variable {X:Cx}{n:Nat}{sc:Scope}
theorem yW {A:Around}{E:Value->Shared->Prop}{s:Shared}{x:Value}{Q:Bool->Shared->Prop}(hT:s.TypeIs x "set")(h:Q true s):wpAny (model X.prog X.w) A (Builtin.Frozenset.isAnySet x) Q E s:=by
 unfold Builtin.Frozenset.isAnySet
 refine wpAny_bind (m:=isInstance x (.type "set")) (wpAny_isInstance hT sub_set_self ?_)
 exact wpAny_pure h
theorem Op2.ior {G:Gh}{Q:QE}{a o:Addr}{S T:Int->Bool}{f g:Bool}(e1:G a=some (.set S f))(e2:G o=some (.set T g))(hne:a≠o)(hfr:f=true\/∃k,S k=true)
  (hq:∀f',(f'=true\/∃k,S k=true\/T k=true)->Q (.ref a) (G.upd a (.set (λj=>S j||T j) f'))):Op2 X n (inplaceOp .BitOr) (.ref a) (.ref o) G Q:=⟨λ{A b s x y} hA hb hr hv hw=>by
 rw[hv.ref_inv,hw.ref_inv]
 obtain⟨iS,fS,_,ha,hca⟩:=zCH hr e1
 obtain⟨iT,_,_,ho,hco⟩:=zCH hr e2
 have hTa:s.TypeIs (.ref a) "set":=⟨_,ha,hca⟩
 have hTo:s.TypeIs (.ref o) "set":=⟨_,ho,hco⟩
 unfold inplaceOp
 refine wpAny_holding ?_
 refine wpAny_bind (wpAny_typeOf hTa ?_)
 refine wpAny_bind (wpAny_of_eq zAo ?_)
 rw[if_pos rfl]
 refine wpAny_bind (wpAny_tryMethod_slot hTa F.slot_set_ior (wpAny_call_entry F.slot_set_ior hTa F.entry_set_ior ?_ (F.args_set_ior_2 _ _)))
 unfold Builtin.«set.__ior__»
 refine wpAny_bind (wpAny_pure ?_)
 refine wpAny_bind (yW (X:=X) hTo ?_)
 refine zG (by decide) ?_
 refine wpAny_bind (wpAny_pure ?_)
 refine wpAny_bind ?_
 unfold Builtin.Frozenset.updateFrom
 refine wpAny_bind (yW (X:=X) hTo ?_)
 rw[if_pos rfl]
 refine wpAny_bind (wpAny_pure ?_)
 refine vF (X:=X) iS iT hne (hfr.imp (λq=>fS q) λq=>q) λh' sb i' hfr'=>?_
 refine wpAny_pure ⟨_,rfl,by simp,wpAny_bind (wpAny_rule (wpAny_pure ?_))⟩
 have fin:∀f',(f'=true->vM h' a)->(f'=true\/∃k,S k=true\/T k=true)->Out X b s Q (.ref a) { s with heap:=h' }:=λf' h1 h2=>by
  obtain⟨r',k'⟩:=hr.change (g':=.set (λj=>S j||T j) f') e1 rfl rfl sb ⟨i',h1⟩
  exact .mk (.ref _) _ (.ref _) r' ⟨k',rfl,rfl⟩ (hq f' h2)
 by_cases hf:vM h' a
 ·exact fin true (λ_=>hf) (.inl rfl)
 ·exact fin false (λq=>nomatch q) (.inr (hfr'.resolve_left hf))⟩
theorem uN {b:Bs}{G:Gh}{s:Shared}{Q:QE}{led:Bool}(hb:Base X b)(hr:Rep X b G s.heap)(h:∀a,G a=none->Q (.ref a) (G.upd a (.set (λ_=>false) true))) :
  Out X b s Q (.ref s.heap.objs.size) { s with heap:=s.heap.push { cls:=.type "set",dict:=none,data:=.set #[] 0 (.fresh 0 0 led) } }:=by
 have kp:∀a o,s.heap.get? a=some o->(s.heap.push { cls:=.type "set",dict:=none,data:=.set #[] 0 (.fresh 0 0 led) }).get? a=some o:=λa o e=>Heap.get?_push_of_some _ e
 have hn:=zm (h:=s.heap) (Nat.le_refl _)
 have hg:=Heap.get?_push_size s.heap (o:={ cls:=.type "set",dict:=none,data:=.set #[] 0 (.fresh 0 0 led) }) rfl
 exact .mk (.ref _) _ (.ref _) (hr.alloc (g:=.set (λ_=>false) true) kp hn (hlow hb hr) ⟨⟨[],0,_,hg,.nil,λk=>⟨λq=>(nomatch q),λq=>(nomatch q)⟩,rfl,λk hk=>(nomatch hk)⟩,λ_=>⟨led,hg⟩⟩ rfl) ⟨.of_keep kp,rfl,rfl⟩ (h _ (hr.noG hn))
theorem Blt.set0 {G:Gh}{Q:QE}(h:∀a,G a=none->Q (.ref a) (G.upd a (.set (λ_=>false) true))):Blt X n (.type "set") [] G Q:=⟨λhA hb hr hv=>by
 rw[hv.nil_inv];exact call_set_0 λled=>uN hb hr h⟩
theorem vU {A:Around}{s:Shared}{E:Value->Shared->Prop}{nm:String}{a o:Addr}{S T:Int->Bool}{Q:Bool->Shared->Prop}(ia:SetI s.heap a S)(io:SetI s.heap o T)
  (h:∀r:Bool,(∀ks:List Int,ks.Nodup->(∀k,S k=true↔k∈ks)->∀ls:List Int,ls.Nodup->(∀k,T k=true↔k∈ls)->(r=true↔(ks.length<=ls.length/\∀k,S k=true->T k=true)))->Q r s) :
  wpAny (model X.prog X.w) A (Builtin.Frozenset.subsetOf nm a o) Q E s:=by
 obtain⟨ka,ea,ta,hoa,hna,hma,hfa,hra⟩:=id ia
 obtain⟨ko,eo,to,hoo,hno,hmo,hfo,hro⟩:=id io
 have hfo':to.fits (zC ko).toArray.size=true:=by simpa using hfo
 have hfa':ta.fits (zC ka).toArray.size=true:=by simpa using hfa
 have lens:∀(ks ls:List Int),ks.Nodup->ls.Nodup->(∀k,k∈ks↔k∈ls)->ks.length=ls.length:=λks ls h1 h2 h3=>
  Nat.le_antisymm (w3 h1 λx hx=>(h3 x).mp hx) (w3 h2 λx hx=>(h3 x).mpr hx)
 have fin:∀r:Bool,(r=true↔(ka.length<=ko.length/\∀k,S k=true->T k=true))->Q r s:=λr hr=>h r λks h1 h2 ls h3 h4=>by
  rw[hr,lens ks (ka.map (·.1)) h1 hna λk=>(h2 k).symm.trans (hma k),lens ls (ko.map (·.1)) h3 hno λk=>(h4 k).symm.trans (hmo k),List.length_map,List.length_map]
 unfold Builtin.Frozenset.subsetOf Builtin.Frozenset.sizeOf
 refine wpAny_bind (wpAny_bind (wpAny_setEntries_of hoa rfl hfa' (wpAny_pure (wpAny_bind (wpAny_bind (wpAny_setEntries_of hoo rfl hfo' (wpAny_pure ?_)))))))
 by_cases hgt:(zC ka).toArray.size > (zC ko).toArray.size
 ·rw[if_pos hgt]
  simp only [List.size_toArray,List.length_map] at hgt
  exact wpAny_pure (fin false (by simp;lia))
 ·rw[if_neg hgt]
  simp only [List.size_toArray,List.length_map] at hgt
  refine wpAny_bind (wpAny_setEpoch_of hoa rfl hfa' ?_)
  unfold Builtin.Frozenset.walkUnseen
  refine wpAny_bind ?_
  refine wpAny_bind (wpAny_setEntries_of hoa rfl hfa' ?_)
  refine wpAny_bind (wpAny_setEntries_of hoo rfl hfo' ?_)
  refine wpAny_bind (wpAny_forIn_list _ (λrest b s'=>b=(none,())/\s=s'/\∀e∈rest,e∈zC (ka++ko)) _ ?_ ?_ _ _ ⟨rfl,rfl,λe he=>by simpa [zC] using he⟩)
  ·rintro ⟨e1,e2⟩ rest b s' ⟨rfl,rfl,hin⟩
   have:=hin _ (.head _)
   simp only [zC,List.mem_map] at this
   obtain⟨k,_,hk⟩:=this
   cases hk
   refine wpAny_bind (wpAny_pure ?_)
   refine zG (by simp) ?_
   exact wpAny_pure ⟨rfl,rfl,λe he=>hin e (.tail _ he)⟩
  ·rintro b s' ⟨rfl,rfl,_⟩
   refine wpAny_pure ?_
   rw[List.toList_toArray]
   refine wpAny_bind (wpAny_mono (wpAny_forIn_list _ (λrest b s'=>b=(none,())/\s=s'/\∃rs,rest=zC rs/\(∀p∈rs,S p.1=true)/\(∀k,S k=true->T k=true\/k∈rs.map (·.1)))
    (λb s'=>s=s'/\(b=(none,())/\(∀k,S k=true->T k=true)\/b=(some false,())/\∃k,S k=true/\T k=false)) ?_ ?_ _ _ ⟨rfl,rfl,ka,rfl,λp hp=>(hma _).mpr (List.mem_map_of_mem hp),λk hk=>.inr ((hma k).mp hk)⟩) ?_ λ_ _ x=>x)
   ·rintro ⟨e1,e2⟩ rest b s' ⟨rfl,rfl,rs,hrs,hin,hcov⟩
    cases rs with
    | nil=>cases hrs
    | cons p rs=>
     simp only [zC,List.map_cons,List.cons.injEq,Prod.mk.injEq] at hrs
     obtain⟨⟨rfl,rfl⟩,rfl⟩:=hrs
     obtain⟨_,_,_,_,hS'⟩:=SetI.parts (X:=X) io
     refine wpAny_bind (wpAny_holding (wpAny_setFind_of (knd:=intKind X.prog X.w) (k:=p.1) (intKind_is _ _ _ _) rfl hS' λr hr=>?_))
     cases hT:T p.1 with
     | false=>
      rw[hT] at hr
      have:r=none:=by cases r with | none=>rfl | some _=>cases hr
      subst this
      exact wpAny_pure ⟨rfl,.inr ⟨rfl,p.1,hin p (.head _),hT⟩⟩
     | true=>
      rw[hT] at hr
      obtain⟨j,rfl⟩:∃j,r=some j:=by cases r with | none=>cases hr | some j=>exact⟨j,rfl⟩
      refine zG (by simp) ?_
      refine wpAny_bind ?_
      unfold Builtin.Frozenset.unchanged
      refine wpAny_bind (wpAny_setEpoch_of hoa rfl hfa' ?_)
      refine zG (by simp) (wpAny_pure (wpAny_pure ?_))
      refine⟨rfl,rfl,rs,rfl,λq hq=>hin q (.tail _ hq),λk hk=>?_⟩
      rcases hcov k hk with q | q
      ·exact .inl q
      ·rw[List.map_cons,List.mem_cons] at q
       rcases q with rfl | q
       ·exact .inl hT
       ·exact .inr q
   ·rintro b s' ⟨rfl,rfl,rs,hrs,hin,hcov⟩
    have hrs0:rs=[]:=by cases rs with | nil=>rfl | cons p r=>cases hrs
    subst hrs0
    exact⟨rfl,.inl ⟨rfl,λk hk=>(hcov k hk).resolve_right (by simp)⟩⟩
   ·rintro b s' ⟨rfl,⟨rfl,hall⟩ | ⟨rfl,k,hk,hkT⟩⟩
    ·exact wpAny_pure (fin true (by simp only [true_iff];exact⟨by lia,hall⟩))
    ·exact wpAny_pure (fin false (by simp only [Bool.false_eq_true,false_iff,not_and];intro _ h';rw[h' k hk] at hkT;cases hkT))
theorem Op2.neSet {G:Gh}{Q:QE}{p q:Addr}{S T:Int->Bool}{f g:Bool}(e1:G p=some (.set S f))(e2:G q=some (.set T g))(hne:p≠q)(h:∀r:Bool,(r=true↔∀k,S k=T k)->Q (.bool (!r)) G) :
  Op2 X n (compareOp .NotEq) (.ref p) (.ref q) G Q:=⟨λ{A b s x y} hA hb hr hv hw=>by
 rw[hv.ref_inv,hw.ref_inv]
 obtain⟨iS,_⟩:=(hr.own _ _ e1).2
 obtain⟨iT,_⟩:=(hr.own _ _ e2).2
 obtain⟨ka,ea,ta,hoa,hna,hma,hfa,hra⟩:=id iS
 obtain⟨ko,eo,to,hoo,hno,hmo,hfo,hro⟩:=id iT
 have hfo':to.fits (zC ko).toArray.size=true:=by simpa using hfo
 have hfa':ta.fits (zC ka).toArray.size=true:=by simpa using hfa
 have hTa:s.TypeIs (.ref p) "set":=⟨_,hoa,rfl⟩
 have hTo:s.TypeIs (.ref q) "set":=⟨_,hoo,rfl⟩
 show wpAny _ _ (richCompare .NotEq _ _) _ _ _
 refine wpAny_richCompare_same_room (op:=.NotEq) (T:="set") hTa hTo F.slot_set_ne (wpAny_call_entry F.slot_set_ne hTa zBb ?_ (F.args_set_ne_2 _ _)) (by have:=hA.uni;lia)
 unfold Builtin.«frozenset.__ne__»
 refine wpAny_bind (wpAny_pure ?_)
 refine wpAny_bind (yW (X:=X) hTo ?_)
 refine zG (by decide) ?_
 refine wpAny_bind (wpAny_pure (wpAny_bind (wpAny_pure ?_)))
 unfold Builtin.Frozenset.sizeOf
 refine wpAny_bind (wpAny_bind (wpAny_setEntries_of hoa rfl hfa' (wpAny_pure (wpAny_bind (wpAny_bind (wpAny_setEntries_of hoo rfl hfo' (wpAny_pure ?_)))))))
 have fin:∀r:Bool,(r=true↔∀k,S k=T k)->wpAny (model X.prog X.w) A.in1 (ret (.bool (!r))) (λfin s'=>∃r,fin=.done (.ret r)/\r≠.notImplemented/\Out X b s Q r s') NoE s:=λr hrr=>
  wpAny_pure ⟨_,rfl,by simp,Out.here hr (.bool _) (h r hrr)⟩
 have lens:∀(ks ls:List Int),ks.Nodup->ls.Nodup->(∀k,k∈ks->k∈ls)->ks.length<=ls.length:=λks ls h1 h2 h3=>w3 h1 h3
 by_cases hl:(zC ka).toArray.size != (zC ko).toArray.size
 ·refine wpAny_bind ?_
  rw[if_pos hl]
  refine wpAny_pure (fin false ?_)
  simp only [Bool.false_eq_true,false_iff]
  intro hall
  simp only [List.size_toArray,List.length_map,bne_iff_ne,ne_eq] at hl
  apply hl
  have h1:=lens (ka.map (·.1)) (ko.map (·.1)) hna hno λk hk=>(hmo k).mp (by rw[<-hall k];exact(hma k).mpr hk)
  have h2:=lens (ko.map (·.1)) (ka.map (·.1)) hno hna λk hk=>(hma k).mp (by rw[hall k];exact(hmo k).mpr hk)
  simp only [List.length_map] at h1 h2
  lia
 ·refine wpAny_bind (zG hl ?_)
  simp only [List.size_toArray,List.length_map,bne_iff_ne,ne_eq,Decidable.not_not] at hl
  refine wpAny_bind (wpAny_bind (m:=isInstance (.ref p) (.type "frozenset")) (wpAny_isInstance hTa vV ?_))
  refine wpAny_pure (zG (by decide) ?_)
  refine vU (X:=X) iS iT λr hrr=>fin r ?_
  rw[hrr (ka.map (·.1)) hna hma (ko.map (·.1)) hno hmo]
  simp only [List.length_map]
  constructor
  ·rintro ⟨_,hsub⟩ k
   have hback:∀k,T k=true->S k=true:=λk hk=>by
    have hin:=(hmo k).mp hk
    cases hSk:S k with
    | true=>rfl
    | false=>
     exfalso
     have hn':(k::ka.map (·.1)).Nodup:=List.nodup_cons.mpr ⟨λhx=>(by rw[(hma k).mpr hx] at hSk;cases hSk),hna⟩
     have:=w3 (l':=ko.map (·.1)) hn' λx hx=>by
      rcases List.mem_cons.mp hx with rfl | hx
      ·exact hin
      ·exact(hmo x).mp (hsub x ((hma x).mpr hx))
     simp only [List.length_cons,List.length_map] at this
     lia
   cases q1:S k<;>cases q2:T k
   ·rfl
   ·rw[hback k q2] at q1;cases q1
   ·rw[hsub k q1] at q2;cases q2
   ·rfl
  ·intro hall
   exact⟨by lia,λk hk=>by rw[<-hall k];exact hk⟩⟩
set_option maxRecDepth 100000 in
set_option maxHeartbeats 3200000 in
theorem upd_upd {G:Gh}{D:Addr}{o o':GObj}:(G.upd D o).upd D o'=G.upd D o':=by
 funext x;unfold Gh.upd;split<;>rfl
theorem zEJ {A:Around}{b:Bs}{G:Gh}{s0 s:Shared}{Q:QE}{l D:Addr}{T:Int->Bool}{g:Bool}{P:Fin->Shared->Prop}{E:Value->Shared->Prop}(hr:Rep X b (G.upd D (.set (λ_=>false) true)) s.heap)(e:G l=some (.set T g))(hc:G D=none)(f:Fwd s0 s)(h:Q (.ref D) (G.upd D (.set T false)))(k:∀s',Out X b s0 Q (.ref D) s'->P (.done (.ret .none)) s') :
  wpAny (model X.prog X.w) A (Builtin.«set.__init__» { pos:=[.ref D,.ref l] }) P E s:=by
 have hlc:l≠D:=λq=>by rw[q,hc] at e;cases e
 have e1:(G.upd D (.set (λ_=>false) true)) l=some (.set T g):=by rw[Gh.upd_ne _ _ hlc];exact e
 obtain⟨iN,fN⟩:=(hr.own _ _ (Gh.upd_same G D (.set (λ_=>false) true))).2
 obtain⟨iT,_⟩:=(hr.own _ _ e1).2
 obtain⟨led,hS⟩:=fN rfl
 have key:wpAny (model X.prog X.w) A (Builtin.Frozenset.updateFrom "set.__init__" D (.ref l)) (λ_ s'=>wpAny (model X.prog X.w) A (ret Value.none) P E s') E s:=by
  obtain⟨_,_,_,hol,_⟩:=id iT
  have hTl:s.TypeIs (.ref l) "set":=⟨_,hol,rfl⟩
  unfold Builtin.Frozenset.updateFrom
  refine wpAny_bind (yW (X:=X) hTl ?_)
  rw[if_pos rfl]
  refine wpAny_bind (wpAny_pure ?_)
  refine vF (X:=X) (S:=λ_=>false) iN iT (Ne.symm hlc) (.inl ⟨led,hS⟩) λh' sb i' hfr'=>?_
  rw[show (λj=>false||T j)=T from funext λj=>Bool.false_or _] at i'
  have kk:=f.tk.trans (TK.sameBut sb hS (by simp))
  refine wpAny_pure (k _ (.mk (.ref _) _ (.ref _) (hr.change (g':=.set T false) (Gh.upd_same _ _ _) rfl rfl sb ⟨i',λq=>Bool.noConfusion q⟩).1 ⟨kk,f.g,f.o⟩ (by rw[upd_upd];exact h)))
 have hT:s.TypeIs (.ref D) "set":=⟨_,hS,rfl⟩
 clear iN iT e1 hr k
 unfold Builtin.«set.__init__» noKeywords
 generalize hU:Builtin.Frozenset.updateFrom "set.__init__" = U at key
 wp_walk
 exact key
set_option maxRecDepth 4000 in
theorem zDV {A:Around}{b:Bs}{G:Gh}{s:Shared}{Q:QE}{l:Addr}{T:Int->Bool}{g:Bool}(hb:Base X b)(hr:Rep X b G s.heap)(e:G l=some (.set T g))(h:∀c,G c=none->Q (.ref c) (G.upd c (.set T false))) :
  wpAny (model X.prog X.w) A (call (.type "set") [.ref l]) (Out X b s Q) NoE s:=by
 obtain⟨iT,_⟩:=(hr.own _ _ e).2
 obtain⟨_,_,_,hol,_⟩:=iT
 obtain⟨c,tl,hmro⟩:=F.called_set.mro
 have hmade:=F.called_set.made
 have hsub:=F.called_set.sub
 refine wpAny_call (codeAny_of_tree ?_)
 show wpAny _ _ (callAny (.type "set") _) _ _ _
 refine wpAny_pure ⟨Code.quiet_builtin _ (by decide +kernel),codeAny_builtin F.entry_type_call ?_⟩
 rw[Around.under_plain (weight_type_call_type "set" [.ref l] []) rfl]
 have h1:=F.called_set.notType
 have h2:=F.called_set.canCreate
 have hct:=F.typeCall_set_1 (.ref l)
 repeat (any_goals (first | assumption | wp_step))
 refine codeAny_mono (code_set_new_1 (.ref l) (E:=NoE) (Q₁:=λobj s₁=>∃led:Bool,obj=.ref s.heap.objs.size/\s₁={ s with heap:=s.heap.push { cls:=.type "set",dict:=none,data:=.set #[] 0 (.fresh 0 0 led) } }) λled=>⟨led,rfl,rfl⟩) λr s₁ hr1=>?_
 cases r with
 | error e=>exact hr1
 | ok fl=>
  cases fl with
  | ret obj=>
   obtain⟨led,rfl,rfl⟩:=hr1
   have hS:(s.heap.push { cls:=.type "set",dict:=none,data:=.set #[] 0 (.fresh 0 0 led) }).get? s.heap.objs.size=some { cls:=.type "set",dict:=none,data:=.set #[] 0 (.fresh 0 0 led) }:=Heap.get?_push_size _ rfl
   have hT:Shared.TypeIs { s with heap:=s.heap.push { cls:=.type "set",dict:=none,data:=.set #[] 0 (.fresh 0 0 led) } } (.ref s.heap.objs.size) "set":=⟨_,hS,rfl⟩
   have hli:=F.called_set.init.lookup
   have hbi:=F.called_set.init.bind (.ref s.heap.objs.size)
   repeat (any_goals (first | assumption | wp_step))
   have O:=uN (Q:=λv G'=>∃c,v=.ref c/\G c=none/\G'=G.upd c (.set (λ_=>false) true)) (led:=led) hb hr λc hc=>⟨c,rfl,hc,rfl⟩
   obtain⟨_,G1,hv1,hr1,⟨k₁,_,_⟩,c,rfl,hc,rfl⟩:=O
   cases hv1
   refine codeAny_mono (codeAny_call_builtin (R:=wants (λr s2=>r=.none/\Out X b s Q (.ref s.heap.objs.size) s2) NoE) F.called_set.init.plain F.entry_set_init (check_set_init_1 hT ?_)) λr2 s2 hr2=>?_
   ·exact zEJ hr1 e hc ⟨k₁,rfl,rfl⟩ (h _ hc) λs' o=>⟨rfl,o⟩
   ·cases r2 with
    | error e=>exact hr2
    | ok fl2=>
     cases fl2 with
     | ret r=>
      obtain⟨rfl,ho⟩:=hr2
      repeat (any_goals (first | assumption | wp_step))
     | _=>exact hr2.elim
  | _=>exact hr1.elim
theorem Blt.set1 {G:Gh}{Q:QE}{l:Addr}{T:Int->Bool}{g:Bool}(e:G l=some (.set T g))(h:∀c,G c=none->Q (.ref c) (G.upd c (.set T false))):Blt X n (.type "set") [.ref l] G Q:=.one ⟨λhA hb hr hv=>by
 rw[hv.ref_inv];exact zDV hb hr e h⟩
end
end
noncomputable section
section
variable {X:Cx}{n:Nat}{sc:Scope}{env:Env}{A:Around}{b:Bs}{m:M}{G:Gh}{s:Shared}{Q:QE}{e:Expr}
theorem DR.without {h:Heap}{es:List (Int×Val)}{kvs:List (Int×Value)}(d:DR h es kvs)(k:Int):DR h (es.filter λkv=>kv.1≠k) (PySem.without kvs k):=by
 induction d with
 | nil=>exact .nil
 | @cons k' v y es ys hv _ ih=>
  unfold PySem.without at ih ⊢
  rw[List.filter_cons,List.filter_cons]
  by_cases hk:k'=k
  ·rw[if_neg (by simp [hk]),if_neg (by simp [hk])];exact ih
  ·rw[if_pos (by simp [hk]),if_pos (by simp [hk])];exact .cons hv ih
theorem DR.any {h:Heap}{es:List (Int×Val)}{kvs:List (Int×Value)}(d:DR h es kvs)(k:Int):(es.any λkv=>decide (kv.1=k))=kvs.any λkv=>decide (kv.1=k):=by
 induction d with
 | nil=>rfl
 | cons _ _ ih=>rw[List.any_cons,List.any_cons,ih]
theorem DR.stored {h:Heap}{es:List (Int×Val)}{kvs:List (Int×Value)}(d:DR h es kvs)(k:Int){v:Val}{y:Value}(hv:VR h v y):DR h (uX es k v) (PySem.stored kvs k y):=by
 unfold uX PySem.stored
 rw[d.any]
 split
 ·rename_i q;clear q
  induction d with
  | nil=>exact .nil
  | @cons k' w z es ys hw _ ih=>
   rw[List.map_cons,List.map_cons]
   by_cases hk:k'=k
   ·rw[if_pos hk,if_pos hk];exact .cons hv ih
   ·rw[if_neg hk,if_neg hk];exact .cons hw ih
 ·rename_i q;clear q
  induction d with
  | nil=>exact .cons hv .nil
  | cons hw _ ih=>exact .cons hw ih
inductive HasT (G:Gh):Val->String->Prop where
 | list {a:Addr} {xs:List Val}:G a=some (.list xs)->HasT G (.ref a) "list"
 | dict {a:Addr} {es:List (Int×Val)}:G a=some (.dict es)->HasT G (.ref a) "dict"
 | set {a:Addr} {S:Int->Bool} {f:Bool}:G a=some (.set S f)->HasT G (.ref a) "set"
theorem HasT.sound {v:Val}{y:Value}{T:String}(hr:Rep X b G s.heap)(hv:VR s.heap v y)(h:HasT G v T):s.TypeIs y T/\∀a,y=.ref a->∃ob,s.heap.get? a=some ob/\ob.dict=none:=by
 cases h with
 | list e=>rw[hv.ref_inv];obtain⟨_,_,_,ho,_⟩:=zJ hr e;exact⟨⟨_,ho,rfl⟩,λa q=>by cases q;exact⟨_,ho,rfl⟩⟩
 | dict e=>rw[hv.ref_inv];obtain⟨_,_,⟨o,_,_,ho,hc,_⟩,_⟩:=(hr.own _ _ e).2;exact⟨⟨_,ho,hc.1⟩,λa q=>by cases q;exact⟨_,ho,hc.2.1⟩⟩
 | set e=>rw[hv.ref_inv];obtain⟨⟨_,_,_,ho,_⟩,_⟩:=(hr.own _ _ e).2;exact⟨⟨_,ho,rfl⟩,λa q=>by cases q;exact⟨_,ho,rfl⟩⟩
structure Zq (T:String)(attr:Str)(id:String):Prop where
 p:PlainAttrs T
 sl:Slot T attr id
 ty:typeOf (.builtin id)=pure (.type "method_descriptor")
theorem Zq.append:Zq "list" "append" "list.append":=⟨F.plainAttrs_list,F.slot_list_append,F.type_list_append⟩
theorem Zq.extend:Zq "list" "extend" "list.extend":=⟨F.plainAttrs_list,F.slot_list_extend,F.type_list_extend⟩
theorem Zq.pop:Zq "list" "pop" "list.pop":=⟨F.plainAttrs_list,F.slot_list_pop,F.type_list_pop⟩
theorem Zq.dpop:Zq "dict" "pop" "dict.pop":=⟨F.plainAttrs_dict,F.slot_dict_pop,F.type_dict_pop⟩
theorem Zq.get:Zq "dict" "get" "dict.get":=⟨F.plainAttrs_dict,F.slot_dict_get,F.type_dict_get⟩
theorem Zq.add:Zq "set" "add" "set.add":=⟨F.plainAttrs_set,F.slot_set_add,F.type_set_add⟩
theorem Zq.discard:Zq "set" "discard" "set.discard":=⟨F.plainAttrs_set,F.slot_set_discard,F.type_set_discard⟩
theorem Sn.meth {T:String}{attr:Str}{id:String}{o:Expr}{es:List Expr}{apos pos:Pos}(hm:Zq T attr id)(hn:Zj es)
  (h:Sn X n sc o m G λv G1=>HasT G1 v T/\SnEs X n sc es m G1 λvs G2=>Blt X n (.builtin id) (v::vs) G2 Q)
  (hs:∀env whole,attributeBase o attr env whole=whole:=by intro _ _;rfl) (hline:(apos.endLine == pos.line)=true:=by rfl) (hfew:decide (es.length<29)=true:=by rfl) :
  Sn X n sc (.Call (.Attribute o attr apos) es [] pos) m G Q:=⟨λ{env A b s} hy=>by
 refine wpAny_Call_method (hs _ _) ?_ hline hm.p hm.sl hm.ty (h.use hy λx s₁ v G1 hv hy1 f1 h1=>?_)
 ·rw[hn]
  have:=of_decide_eq_true hfew
  show (true&&true&&decide (es.length+0+0<30))=true
  rw[decide_eq_true (by lia)];rfl
 ·obtain⟨t1,t2⟩:=h1.1.sound hy1.hr hv
  exact⟨t1,t2,Calls.callWith_builtin (hn.any _ _) (yF hn h1.2 hy1 λys s2 vs G2 hvs hy2 f2 h2=>
   zA (h2.go hy2.hA hy2.hb hy2.hr (.cons (hv.mono f2.tk) hvs)) λ_ _ q=>q.next (f1.trans f2))⟩⟩
theorem zAb {a:Addr}{xs xs':List Val}{ys':Array Value}{k':Nat}{v:Val}{y:Value}{h':Heap}{tk:Nat}(hr:Rep X b G s.heap)(e:G a=some (.list xs))
  (hs:Heap.SameBut a s.heap h') (ho':h'.get? a=some ⟨.type "list",none,.seq ys' k',#[]⟩) (hl:xs'.length<=2 * cap) (hxs:VRs s.heap xs' ys'.toList) (hv:VR s.heap v y) (h:Q v (G.upd a (.list xs'))):Out X b s Q y { s with heap:=h',toks:=tk }:=by
 obtain⟨_,_,_,ho,_⟩:=zJ hr e
 have kk:TK s.heap h':=.sameButT hs ho (notT rfl)
 exact .mk v _ (hv.mono kk) (hr.change (g':=.list xs') e rfl rfl hs ⟨hl,ys',k',ho',hxs.mono kk⟩).1 ⟨kk,rfl,rfl⟩ h
theorem wL {h:Heap}{a:Addr}{f:Obj->Obj}:Heap.SameBut a h (h.update a f):=⟨Heap.size_update _ _ _,λb hb=>Heap.get?_update_other _ _ (Ne.symm hb)⟩
theorem Meth.append {a:Addr}{xs:List Val}{v:Val}(e:G a=some (.list xs))(hc:xs.length<cap)(q:Q .none (G.upd a (.list (xs++[v])))):Blt X n (.builtin "list.append") [.ref a,v] G Q:=.two ⟨λ{A b s x y} hA hb hr hv hw=>by
 rw[hv.ref_inv]
 obtain⟨zs,k,hl,ho,hs,hlen⟩:=zJ hr e
 refine call_meets F.slot_list_append ⟨_,ho,rfl⟩ F.entry_list_append (F.args_list_append_2 _ _) (list_append a zs k _ (by rw[<-hlen];exact z9 hc)) ⟨ho,?_⟩
 exact zAb hr e wL (Heap.get?_update_self _ ho rfl) (by rw[List.length_append,List.length_singleton];exact uo hc) (by rw[Array.toList_push];exact hs.append (.single hw)) .none q⟩
theorem Meth.extend {a c:Addr}{xs ys:List Val}(e:G a=some (.list xs))(e2:G c=some (.list ys))(hc:xs.length+ys.length<cap)(q:Q .none (G.upd a (.list (xs++ys)))):Blt X n (.builtin "list.extend") [.ref a,.ref c] G Q:=.two ⟨λ{A b s x y} hA hb hr hv hw=>by
 rw[hv.ref_inv,hw.ref_inv]
 obtain⟨zs,k,hl,ho,hs,hlen⟩:=zJ hr e
 obtain⟨zs2,k2,hl2,ho2,hs2,hlen2⟩:=zJ hr e2
 have hf:zs.size+zs2.size<=sizeLine:=by rw[<-hlen,<-hlen2];exact z9 hc
 refine call_meets F.slot_list_extend ⟨_,ho,rfl⟩ F.entry_list_extend (F.args_list_extend_2 _ _) (AutoSeq1.list_extend_list_list_0 a zs k _ zs2 k2 ?_ (by lia) (by lia)) ⟨ho,ho2,?_⟩
 ·intro q
  have:=(Bool.and_eq_true_iff.mp q).2
  unfold Builtin.List.listTooLong at this
  rw[decide_eq_true_eq] at this
  lia
 exact zAb hr e wL (Heap.get?_update_self _ ho rfl) (by rw[List.length_append];exact yc hc) (by rw[Array.toList_append];exact hs.append hs2) .none q⟩
theorem Meth.pop {a:Addr}{xs:List Val}{v:Val}(e:G a=some (.list (xs++[v])))(hc:xs.length+1<cap)(q:Q v (G.upd a (.list xs))):Blt X n (.builtin "list.pop") [.ref a] G Q:=.one ⟨λ{A b s x} hA hb hr hv=>by
 rw[hv.ref_inv]
 obtain⟨zs,k,hl,ho,hs,hlen⟩:=zJ hr e
 rw[List.length_append,List.length_singleton] at hlen
 obtain⟨z,hz,hvr⟩:=hs.get (i:=zs.size - 1) (v:=v) (by rw[<-hlen,Nat.add_sub_cancel,List.getElem?_append_right (Nat.le_refl _),Nat.sub_self];rfl)
 rw[Array.getElem?_toList] at hz
 refine call_meets F.slot_list_pop ⟨_,ho,rfl⟩ F.entry_list_pop (F.args_list_pop_1 _) (MeetsSeq.list_pop_last a zs k z hz (by rw[<-hlen];exact z9 hc)) ⟨ho,?_⟩
 refine zAb (xs':=xs) hr e wL (Heap.get?_update_self _ ho rfl) (yc (Nat.lt_of_succ_lt hc)) ?_ hvr q
 have:(zs.eraseIdxIfInBounds (zs.size - 1)).toList=zs.toList.take (zs.size - 1):=by
  obtain⟨l⟩:=zs
  simp only [List.eraseIdxIfInBounds_toArray,List.size_toArray]
  rw[<-List.dropLast_eq_take]
  exact List.eraseIdx_length_sub_one ..
 rw[this,<-hlen,Nat.add_sub_cancel]
 have:=hs.take xs.length
 rw[List.take_left' rfl] at this
 exact this⟩
theorem zAn {es:List (Int×Val)}{k:Int}(h:zq es k=none):(es.filter λkv=>kv.1≠k)=es:=by
 rw[List.filter_eq_self]
 intro p hp
 unfold zq at h
 rw[Option.map_eq_none_iff,List.find?_eq_none] at h
 simpa using h p hp
theorem Gh.upd_id {a:Addr}{o:GObj}(e:G a=some o):G.upd a o=G:=by
 funext x
 by_cases q:x=a
 ·rw[q,Gh.upd_same,e]
 ·rw[Gh.upd_ne _ _ q]
theorem Meth.dpop {d:Addr}{es:List (Int×Val)}{k:Int}(e:G d=some (.dict es))(h:Q ((zq es k).getD .none) (G.upd d (.dict (es.filter λkv=>kv.1≠k)))):Blt X n (.builtin "dict.pop") [.ref d,.int k,.none] G Q:=⟨λ{A b s ys} hA hb hr hv=>by
 obtain⟨y,zs,rfl,hv1,hv2⟩:=hv.cons_inv
 obtain⟨u,w,rfl,hv3,hv4⟩:=hv2.two_inv
 obtain⟨tk,rfl⟩:=hv3.int_inv
 rw[hv1.ref_inv,hv4.none_inv]
 obtain⟨hl,kvs,hd,hes⟩:=(hr.own _ _ e).2
 have hlen:=hes.length
 obtain⟨oo,ees,eep,hoo,hxx,_⟩:=id hd
 have hpart:(keyPart (.int k tk)).isSome=true:=rfl
 refine wpAny_call_entry F.slot_dict_pop hd.typeIs F.entry_dict_pop ?_ (F.args_dict_pop_3 _ _ _)
 unfold Builtin.«dict.pop»
 refine wpAny_bind ?_
 unfold Builtin.Dict.keyAndDefault
 refine wpAny_bind (wpAny_notOrdered_dict hd.typeIs ?_)
 show wpAny _ _ (pure (d,Value.int k tk,some Value.none)) _ _ s
 refine wpAny_pure ?_
 simp only [hpart,if_true]
 refine wpAny_bind (wpAny_pure ?_)
 simp only [Bool.false_eq_true,if_false]
 refine wpAny_bind (wpAny_takeOut_pairs (knd:=intKind X.prog X.w) (hsz:=by rw[sizeLine_eq,<-hlen];exact zDi hl) (intKind_is _ _ _ _) hd (λhn=>?_) λen _ hen h' hm' hs'=>?_)
 ·simp only [Option.isNone_none,if_true]
  refine wpAny_bind (wpAny_missedRemoval_other (zBT hr e) ?_)
  refine wpAny_bind (wpAny_rule (wpAny_pure ⟨_,rfl,?_⟩))
  have hnone:zq es k=none:=by
   cases q:zq es k with
   | none=>rfl
   | some v=>obtain⟨y,z,_⟩:=(hes.look k).1 v q;rw[hn] at z;cases z
  rw[zAn hnone,hnone,Gh.upd_id e] at h
  exact .mk .none G .none hr ⟨.refl _,rfl,rfl⟩ h
 ·simp only [Option.isNone_some,Bool.false_eq_true,if_false]
  obtain⟨v,q,hv⟩:∃v,zq es k=some v/\VR s.heap v en.val:=by
   cases q:zq es k with
   | none=>have:=(hes.look k).2 q;rw[this] at hen;cases hen
   | some v=>obtain⟨y,z,hv⟩:=(hes.look k).1 v q;rw[hen] at z;cases z;exact⟨v,rfl,hv⟩
  rw[q] at h
  refine wpAny_bind (wpAny_letGo (wpAny_pure ⟨_,rfl,?_⟩))
  have kk:TK s.heap h':=.sameButT hs' hoo (notT hxx.1)
  exact .mk v _ (hv.mono kk) (hr.change (g':=.dict (es.filter λkv=>kv.1≠k)) e rfl rfl hs' ⟨Nat.le_trans (List.length_filter_le ..) hl,_,hm',(hes.without k).mono kk⟩).1 ⟨kk,rfl,rfl⟩ h⟩
theorem Meth.get {d:Addr}{es:List (Int×Val)}{k:Int}{v:Val}(e:G d=some (.dict es))(h:Q ((zq es k).getD v) G):Blt X n (.builtin "dict.get") [.ref d,.int k,v] G Q:=⟨λ{A b s ys} hA hb hr hv=>by
 obtain⟨y,zs,rfl,hv1,hv2⟩:=hv.cons_inv
 obtain⟨u,w,rfl,hv3,hv4⟩:=hv2.two_inv
 obtain⟨tk,rfl⟩:=hv3.int_inv
 rw[hv1.ref_inv]
 obtain⟨hl,kvs,hd,hes⟩:=(hr.own _ _ e).2
 refine call_meetsIn F.slot_dict_get hd.typeIs F.entry_dict_get (F.args_dict_get_3 _ _ _) (meets_dict_get_default (intKind X.prog X.w) d (intKind_is _ _ _ _) (zBT hr e) w) ⟨_,hd.mapOf,?_⟩
 refine Out.here hr ?_ h
 cases q:zq es k with
 | none=>rw[(hes.look k).2 q];exact hv4
 | some w=>obtain⟨z,a1,a2⟩:=(hes.look k).1 w q;rw[a1];exact a2⟩
end
end
noncomputable section
section
variable {X:Cx}{n:Nat}{sc:Scope}{env:Env}{A:Around}{b:Bs}{m:M}{G:Gh}{s:Shared}{Q:QE}{e:Expr}{loc:Bool}
structure Lay (X:Cx)(lo:Bool)(env:Env)(b:Bs):Prop where
 loc:∃o es ep,b env.locals=some o/\o.data=.dict es ep/\StrKeys es
 low:X.H0.get? env.locals=none
 has:lo=false->∀x,env.kindOf x=some .cell->∃ca o v,env.cells.lookup x=some ca/\b ca=some o/\o.data=.cell v/\X.H0.get? ca=none/\ca≠env.locals/\∀y,env.cells.lookup y=some ca->y=x
noncomputable def Own (loc:Bool)(env:Env)(a:Addr):Prop:=a=env.locals\/(loc=false/\∃x,env.kindOf x=some .cell/\env.cells.lookup x=some a)
noncomputable def Agr (loc:Bool)(env:Env)(b b':Bs):Prop:=∀a o,b a=some o->¬Own loc env a->b' a=some o
theorem Agr.refl:Agr loc env b b:=λ_ _ e _=>e
theorem Agr.trans {b' b'':Bs}(h:Agr loc env b b')(h':Agr loc env b' b''):Agr loc env b b'':=λa o e n=>h' a o (h a o e n) n
theorem Own.data {a:Addr}(hl:Lay X loc env b)(h:Own loc env a):X.H0.get? a=none/\∃o,b a=some o/\¬∃vs,o.data=.fields vs:=by
 rcases h with rfl | ⟨hll,x,hk,hc⟩
 ·obtain⟨o,es,ep,h1,h2,_⟩:=hl.loc
  exact⟨hl.low,o,h1,λ⟨vs,q⟩=>by rw[h2] at q;cases q⟩
 ·obtain⟨ca,o,v,h1,h2,h3,h4,_⟩:=hl.has hll x hk
  rw[hc] at h1;cases h1;exact⟨h4,o,h2,λ⟨vs,q⟩=>by rw[h3] at q;cases q⟩
theorem Agr.base {b':Bs}(hl:Lay X loc env b)(h:Agr loc env b b')(hb:Base X b):Base X b':=λa o e=>h a o (hb a o e) λq=>by rw[(q.data hl).1] at e;cases e
noncomputable def Z6 (loc:Bool)(sc:Scope)(x:Str):Prop:=(x,NameKind.local)∈sc.names\/(loc=false/\(x,NameKind.cell)∈sc.names)
inductive St (X:Cx)(loc:Bool)(env:Env)(b:Bs)(G:Gh)(s:Shared)(m:M)(s':Shared):Prop where
 | mk (b':Bs) (hr:Rep X b' G s'.heap) (hf:Frm env b' s'.heap m) (hl:Lay X loc env b') (ag:Agr loc env b b') (f:Fwd s s')
theorem St.next {b1:Bs}{s₁ s':Shared}(h:St X loc env b1 G s₁ m s')(a:Agr loc env b b1)(f:Fwd s s₁):St X loc env b G s m s':=by
 cases h with | mk b' h1 h2 h3 h4 h5=>exact .mk b' h1 h2 h3 (a.trans h4) (f.trans h5)
theorem yg {o:Obj}{es:Array DictEntry}{ep:Nat}(h:o.data=.dict es ep):¬IsT o:=λ⟨_,_,_,q⟩=>by rw[h] at q;cases q
theorem zE5 {o:Obj}{v:Option Value}(h:o.data=.cell v):¬IsT o:=λ⟨_,_,_,q⟩=>by rw[h] at q;cases q
theorem z8 {o:Obj}{vs:Array Value}(h:o.data=.fields vs):¬IsT o:=λ⟨_,_,_,q⟩=>by rw[h] at q;cases q
theorem zFs {a x:Addr}{o o' oo:Obj}(h:b a=some o)(hd:o.data≠oo.data)(e:b x=some oo):b.put a o' x=some oo:=by
 rw[Bs.put_ne (λq=>by rw[q,h] at e;cases e;exact hd rfl)];exact e
theorem zBj {Mo:Model}{x:Str}{v:Val}{y:Value}(he:Zr X sc env)(hl:Lay X loc env b)(hr:Rep X b G s.heap)(hf:Frm env b s.heap m)(hk:Z6 loc sc x)(hv:VR s.heap v y) :
  wpAny Mo A (storeName env x y) (λ_ s'=>St X loc env b G s (m.upd x v) s') NoE s:=by
 have hsk:env.scope.kind=.function:=by rw[he.scope];exact he.kind
 rcases hk with hq | ⟨rfl,hq⟩
 ·have hkk:=(he.kindOf x).trans (zI (scOK.nd he.ok) hq)
  obtain⟨o,es,ep,hb,hd,hs⟩:=hl.loc
  refine wpAny_storeName_local hkk ⟨o,es,ep,hr.keep _ _ hb,hd,hs,λ_=>rfl⟩ (λh' hn' sb=>?_) (by rw[hsk];rfl)
  obtain⟨o',es',ep',ho',hd',hs',hns⟩:=hn'
  obtain⟨r',kk⟩:=hr.one hb (yg hd) sb.extBut ho'
  refine .mk (b.put env.locals o') r' (λz w e=>?_) ⟨⟨o',es',ep',Bs.put_eq,hd',hs'⟩,hl.low,λhloc z hz=>?_⟩ (λa oa e na=>?_) ⟨kk,rfl,rfl⟩
  ·rcases e with ⟨rfl,rfl⟩ | ⟨q,e⟩
   ·exact⟨y,hv.mono kk,.inl ⟨hkk,o',es',ep',Bs.put_eq,hd',hs',(hns _).trans (if_pos rfl)⟩⟩
   ·obtain⟨u,hu,hsl⟩:=hf z w e
    refine⟨u,hu.mono kk,?_⟩
    rcases hsl with ⟨h1,oo,es0,ep0,h2,h3,h4,h5⟩ | ⟨h1,ca,oc,h3,h4,h5⟩
    ·rw[hb] at h2;cases h2
     rw[hd] at h3;cases h3
     exact .inl ⟨h1,o',es',ep',Bs.put_eq,hd',hs',(hns _).trans ((if_neg q).trans h5)⟩
    ·exact .inr ⟨h1,ca,oc,h3,zFs hb (by rw[hd,h5];exact Data.noConfusion) h4,h5⟩
  ·obtain⟨ca,oc,w,h1,h2,h3,h4,h5,h6⟩:=hl.has hloc z hz
   exact⟨ca,oc,w,h1,(Bs.put_ne h5).trans h2,h3,h4,h5,h6⟩
  ·exact(Bs.put_ne λq=>na (.inl q)).trans e
 ·have hkk:=(he.kindOf x).trans (zI (scOK.nd he.ok) hq)
  obtain⟨ca,o,w,h1,h2,h3,h4,h5,h6⟩:=hl.has rfl _ hkk
  refine wpAny_storeName_cell hsk hkk h1 ⟨o,hr.keep _ _ h2,h3⟩ λh' hc' sb=>?_
  obtain⟨o',ho',hd'⟩:=hc'
  obtain⟨r',kk⟩:=hr.one h2 (zE5 h3) sb.extBut ho'
  refine .mk (b.put ca o') r' (λz u e=>?_) ⟨?_,hl.low,λhloc z hz=>?_⟩ (λa oa e na=>?_) ⟨kk,rfl,rfl⟩
  ·rcases e with ⟨rfl,rfl⟩ | ⟨q,e⟩
   ·exact⟨y,hv.mono kk,.inr ⟨.inl hkk,ca,o',h1,Bs.put_eq,hd'⟩⟩
   ·obtain⟨u',hu,hsl⟩:=hf z u e
    exact⟨u',hu.mono kk,hsl.imp (λ_ _ _ e _=>(Bs.put_ne (Ne.symm h5)).trans e) λcb _ _ g e _=>(Bs.put_ne λq':cb=ca=>q (h6 _ (q'▸g))).trans e⟩
  ·obtain⟨oo,es,ep,g1,g2,g3⟩:=hl.loc
   exact⟨oo,es,ep,(Bs.put_ne (Ne.symm h5)).trans g1,g2,g3⟩
  ·obtain⟨cb,oc,u,g1,g2,g3,g4,g5,g6⟩:=hl.has rfl z hz
   by_cases q:cb=ca
   ·subst q;exact⟨cb,o',_,g1,Bs.put_eq,hd',g4,g5,g6⟩
   ·exact⟨cb,oc,u,g1,(Bs.put_ne q).trans g2,g3,g4,g5,g6⟩
  ·exact(Bs.put_ne λq=>na (.inr ⟨rfl,x,hkk,by rw[q];exact h1⟩)).trans e
structure Bnd (X:Cx)(loc:Bool)(sc:Scope)(t:Expr)(v:Val)(m m':M):Prop where
 go:∀{env:Env} {A:Around} {b:Bs} {G:Gh} {s:Shared} {y:Value},Zr X sc env->A.handled=none->Lay X loc env b->Rep X b G s.heap->Frm env b s.heap m->VR s.heap v y ->
  wpAny (model X.prog X.w) A (assign t env y) (λ_ s'=>St X loc env b G s m' s') NoE s
structure Bnds (X:Cx)(loc:Bool)(sc:Scope)(ts:List Expr)(vs:List Val)(m m':M):Prop where
 len:∀env,(assignEach ts env).length=vs.length/\(assignEach ts env).findIdx? (·.1)=none
 go:∀{env:Env} {A:Around} {b:Bs} {G:Gh} {s:Shared} {ys:List Value},Zr X sc env->A.handled=none->Lay X loc env b->Rep X b G s.heap->Frm env b s.heap m->VRs s.heap vs ys ->
  wpAny (model X.prog X.w) A (assignInOrder ((assignEach ts env).map (·.2)) ys) (λ_ s'=>St X loc env b G s m' s') NoE s
theorem St.weak {m':M}{s':Shared}(h:St X loc env b G s m s')(k:∀x v,m' x v->m x v):St X loc env b G s m' s':=by
 cases h with | mk b' h1 h2 h3 h4 h5=>exact .mk b' h1 (h2.weak k) h3 h4 h5
structure Put (loc:Bool)(sc:Scope)(x:Str)(v:Val)(m m':M):Prop where
 st:Z6 loc sc x
 up:scOK sc=true->∀y w,m' y w->m.upd x v y w
theorem Put.go {Mo:Model}{x:Str}{v:Val}{m':M}{y:Value}(h:Put loc sc x v m m')(he:Zr X sc env)(hl:Lay X loc env b)(hr:Rep X b G s.heap)(hf:Frm env b s.heap m)(hv:VR s.heap v y) :
  wpAny Mo A (storeName env x y) (λ_ s'=>St X loc env b G s m' s') NoE s:=zA (zBj he hl hr hf h.st hv) λ_ _ q=>q.weak (h.up he.ok)
theorem Bnd.name {x:Str}{pos:Pos}{v:Val}{m':M}(h:Put loc sc x v m m'):Bnd X loc sc (.Name x pos) v m m':=⟨λhe hh hl hr hf hv=>assign_Name (h.go he hl hr hf hv)⟩
theorem Bnd.tup {ts:List Expr}{k:Nat}{pos:Pos}{vs:List Val}{m':M}(h:Bnds X loc sc ts vs m m'):Bnd X loc sc (.Tuple ts k pos) (.tup vs) m m':=⟨λ{env A b G s y} he hh hl hr hf hv=>by
 obtain⟨a,k,ys,rfl,e,hs⟩:=hv.tup_inv
 obtain⟨l1,l2⟩:=h.len env
 refine wpAny_bind (wpAny_standAt (wpAny_unpack_tuple hh ⟨_,e,rfl,_,rfl⟩ (by rw[l1,hs.length,List.size_toArray]) l2 λh' eb=>?_))
 have kp:∀b o,s.heap.get? b=some o->h'.get? b=some o:=λb o e=>eb b o (Nat.ne_of_lt (Heap.lt_size e)) e
 exact zA (h.go (s:={ s with heap:=h' }) he hh hl (hr.mono kp) (hf.mono (.of_keep kp)) (hs.mono (.of_keep kp))) λ_ _ q=>q.next .refl ⟨.of_keep kp,rfl,rfl⟩⟩
theorem Bnds.nil:Bnds X loc sc [] [] m m:=⟨λ_=>⟨rfl,rfl⟩,λhe hh hl hr hf hv=>by rw[hv.nil_inv];exact wpAny_pure (.mk _ hr hf hl .refl .refl)⟩
theorem Bnds.cons {t:Expr}{ts:List Expr}{v:Val}{vs:List Val}{m1 m':M}(h1:Bnd X loc sc t v m m1)(h2:Bnds X loc sc ts vs m1 m')(hp:∀env,assignEach (t::ts) env=(false,assign t env)::assignEach ts env:=by intro _;rfl):Bnds X loc sc (t::ts) (v::vs) m m':=
 ⟨λenv=>by
  obtain⟨a,c⟩:=h2.len env
  rw[hp]
  exact⟨by rw[List.length_cons,List.length_cons,a],by rw[List.findIdx?_cons,c];rfl⟩,
 λ{env A b G s ys} he hh hl hr hf hv=>by
  obtain⟨y,zs,rfl,hv1,hv2⟩:=hv.cons_inv
  rw[hp]
  refine wpAny_bind (wpAny_holding (zA (h1.go he hh hl hr hf hv1) λ_ s₁ q=>?_))
  cases q with | mk b1 hr1 hf1 hl1 ag f1=>exact zA (h2.go he hh hl1 hr1 hf1 (hv2.mono f1.tk)) λ_ _ q=>q.next ag f1⟩
structure Iter (X:Cx)(h0:Heap)(tgt:Expr)(I:Value)(xs:List Val)(gd:Gh->Prop)(hid:Addr->Prop)(St:Nat->Bs->Prop):Prop where
 kind:∀{i:Nat} {b:Bs} {a:Addr} {o:Obj},St i b->hid a->b a=some o->∃vs,o.data=.fields vs
 fr:∀{i:Nat} {b b':Bs},St i b->(∀a o,hid a->b a=some o->b' a=some o)->St i b'
 self:∀{A:Around} {b:Bs} {G:Gh} {s:Shared} {i:Nat} {Q:Value->Shared->Prop},Rep X b G s.heap->St i b->Q I s->wpAny (model X.prog X.w) A (pyIter I) Q NoE s
 item:∀{A:Around} {b:Bs} {G:Gh} {s:Shared} {i:Nat} {x:Val} {Q:Value->Shared->Prop},A.handled=none->TK h0 s.heap->Rep X b G s.heap->gd G->St i b->xs[i]?=some x ->
  (∀y s' b',VR s'.heap x y->Rep X b' G s'.heap->Fwd s s'->St (i+1) b'->(∀a o,b a=some o->¬hid a->b' a=some o)->Q y s') ->
  wpAny (model X.prog X.w) A (pyNext I) (λr s₁=>∃y,r=some y/\wpAny (model X.prog X.w) A (letOwnedTupleGo tgt I y) (λ_ s₂=>Q y s₂) NoE s₁) NoE s
 stop:∀{A:Around} {b:Bs} {G:Gh} {s:Shared} {i:Nat} {Q:Option Value->Shared->Prop},A.handled=none->TK h0 s.heap->Rep X b G s.heap->gd G->St i b->xs[i]?=none ->
  (∀s' b',Rep X b' G s'.heap->Fwd s s'->(∀a o,b a=some o->¬hid a->b' a=some o)->Q none s') ->
  wpAny (model X.prog X.w) A (pyNext I) Q NoE s
noncomputable def zEu:List String:=["enumerate","zip","dict_itemiterator","dict_reverseitemiterator","odict_iterator","itertools.zip_longest","itertools.pairwise"]
theorem zBt {tgt:Expr}{I:Addr}{y:Value}{o:Obj}{T:String}{vs:Array Value}{Q:Unit->Shared->Prop}(ho:s.heap.get? I=some o)(hc:o.cls=.type T)(hd:o.data=.fields vs)(hT:zEu.contains T=false)(h:Q () s) :
  wpAny (model X.prog X.w) A (letOwnedTupleGo tgt (.ref I) y) Q NoE s:=by
 have tl:wpAny (model X.prog X.w) A (letOwnedTupleGo (.Tuple [] 0 ⟨0,0,0,0⟩) (.ref I) y) Q NoE s:=by
  cases y with
  | ref a=>
   refine wpAny_bind (wpAny_load ho ?_)
   rw[hc,hd]
   show wpAny _ A (if (zEu.contains T&&vs[0]? == some (rawInt a))=true then _ else _) Q NoE s
   rw[hT,Bool.false_and,if_neg (by decide)]
   exact wpAny_pure h
  | _=>exact wpAny_pure h
 cases tgt<;>first | exact wpAny_pure h | exact tl
theorem zEq {h0:Heap}{tgt:Expr}{I l:Addr}{xs:List Val}:Iter X h0 tgt (.ref I) xs (λG=>G l=some (.list xs)) (·=I) (λi b=>∃o,b I=some o/\o.cls=.type "list_iterator"/\o.data=.fields #[.ref l,.int i 0]) where
 kind:=λg ha ea=>by obtain⟨o,e,_,hd⟩:=g;subst ha;rw[e] at ea;cases ea;exact⟨_,hd⟩
 fr:=λg h=>g.elim λo g=>⟨o,h I o rfl g.1,g.2⟩
 self:=λhr g hq=>g.elim λo g=>wpAny_pyIter_listiter ⟨o,hr.keep _ _ g.1,g.2.1,g.2.2⟩ hq
 item:=λ{A b G s i x Q} hh _ hr hg g hx h=>by
  obtain⟨o,e,hc,hd⟩:=g
  obtain⟨ys,k,hl,ho,hs,_⟩:=zJ hr hg
  obtain⟨y,hy,hv⟩:=hs.get hx
  refine wpAny_pyNext_list_item ⟨o,hr.keep _ _ e,hc,hd⟩ ⟨_,ho,rfl,k,rfl⟩ (by rw[<-Array.getElem?_toList];exact hy) λh' g sb=>⟨y,rfl,?_⟩
  obtain⟨o',ho',hc',hd'⟩:=g
  obtain⟨r',tk⟩:=hr.one e (z8 hd) sb.extBut ho'
  exact zBt (s:={ s with heap:=h' }) ho' hc' hd' (by decide) (h y _ _ (hv.mono tk) r' ⟨tk,rfl,rfl⟩ ⟨o',Bs.put_eq,hc',hd'⟩ λa oa ea ha=>(Bs.put_ne ha).trans ea)
 stop:=λ{A b G s i Q} hh _ hr hg g hx h=>by
  obtain⟨o,e,hc,hd⟩:=g
  obtain⟨ys,k,hl,ho,hs,hlen⟩:=zJ hr hg
  refine wpAny_pyNext_list_end hh ⟨o,hr.keep _ _ e,hc,hd⟩ ⟨_,ho,rfl,k,rfl⟩ (by
   rw[Array.getElem?_eq_none_iff,<-hlen];exact List.getElem?_eq_none_iff.mp hx) λh' sb=>?_
  obtain⟨r',tk⟩:=hr.gone e (z8 hd) sb
  exact h _ _ r' ⟨tk,rfl,rfl⟩ λa oa ea ha=>(Bs.del_ne ha).trans ea
theorem zGP {h0:Heap}{tgt:Expr}{I t:Addr}{xs:List Val}{ys:List Value}{k:Nat}(ht:h0.get? t=some ⟨.type "tuple",none,.seq ys.toArray k,#[]⟩)(hv:VRs h0 xs ys) :
  Iter X h0 tgt (.ref I) xs (λ_=>True) (·=I) (λi b=>∃o,b I=some o/\o.cls=.type "tuple_iterator"/\o.data=.fields #[.ref t,.int i 0]) where
 kind:=λg ha ea=>by obtain⟨o,e,_,hd⟩:=g;subst ha;rw[e] at ea;cases ea;exact⟨_,hd⟩
 fr:=λg h=>g.elim λo g=>⟨o,h I o rfl g.1,g.2⟩
 self:=λhr g hq=>g.elim λo g=>wpAny_pyIter_tupleiter ⟨o,hr.keep _ _ g.1,g.2.1,g.2.2⟩ hq
 item:=λ{A b G s i x Q} hh tk0 hr hg g hx h=>by
  obtain⟨o,e,hc,hd⟩:=g
  obtain⟨y,hy,hv'⟩:=(hv.mono tk0).get hx
  refine wpAny_pyNext_tuple_item ⟨o,hr.keep _ _ e,hc,hd⟩ ⟨_,tk0 _ _ ht ⟨rfl,_,_,rfl⟩,rfl,_,rfl⟩ (by rw[List.getElem?_toArray];exact hy) λh' g sb=>⟨y,rfl,?_⟩
  obtain⟨o',ho',hc',hd'⟩:=g
  obtain⟨r',tk⟩:=hr.one e (z8 hd) sb.extBut ho'
  exact zBt (s:={ s with heap:=h' }) ho' hc' hd' (by decide) (h y _ _ (hv'.mono tk) r' ⟨tk,rfl,rfl⟩ ⟨o',Bs.put_eq,hc',hd'⟩ λa oa ea ha=>(Bs.put_ne ha).trans ea)
 stop:=λ{A b G s i Q} hh tk0 hr hg g hx h=>by
  obtain⟨o,e,hc,hd⟩:=g
  refine wpAny_pyNext_tuple_end hh ⟨o,hr.keep _ _ e,hc,hd⟩ ⟨_,tk0 _ _ ht ⟨rfl,_,_,rfl⟩,rfl,_,rfl⟩ (by
   rw[List.getElem?_toArray,List.getElem?_eq_none_iff,<-hv.length];exact List.getElem?_eq_none_iff.mp hx) λh' sb=>?_
  obtain⟨r',tk⟩:=hr.gone e (z8 hd) sb
  exact h _ _ r' ⟨tk,rfl,rfl⟩ λa oa ea ha=>(Bs.del_ne ha).trans ea
theorem zD8 {h0:Heap}{tgt:Expr}{I:Addr}{m:Nat} :
  Iter X h0 tgt (.ref I) (vC m) (λ_=>True) (·=I) (λi b=>b I=some { cls:=.type "range_iterator",dict:=none,data:=.fields #[rawInt (i:Nat),rawInt ((m:Int) - (i:Nat)),rawInt 1],slots:=#[] }) where
 kind:=λe ha ea=>by subst ha;rw[e] at ea;cases ea;exact⟨_,rfl⟩
 fr:=λe h=>h I _ rfl e
 self:=λhr e hq=>wpAny_pyIter_rangeiter (hr.keep _ _ e) hq
 item:=λ{A b G s i x Q} hh tk0 hr hg e hx h=>by
  unfold vC at hx
  rw[List.getElem?_map] at hx
  have hi:i<m:=by
   rcases Nat.lt_or_ge i m with q | q
   ·exact q
   ·rw[List.getElem?_eq_none (by rw[List.length_range];exact q)] at hx;cases hx
  rw[List.getElem?_range hi] at hx
  cases hx
  refine wpAny_pyNext_range_item (hr.keep _ _ e) (Int.sub_pos_of_lt (Int.ofNat_lt.mpr hi)) λh' ho' sb=>⟨_,rfl,?_⟩
  obtain⟨r',tk⟩:=hr.one e (z8 rfl) sb.extBut ho'
  refine zBt (s:={ s with heap:=h',toks:=s.toks+1 }) ho' rfl rfl (by decide) ?_
  refine h _ _ _ (.int _ _) r' ⟨tk,rfl,rfl⟩ ?_ λa oa ea ha=>(Bs.put_ne ha).trans ea
  rw[show (m:Int) - ((i+1:Nat):Int)=(m:Int) - (i:Int) - 1 from(Int.sub_sub (m:Int) i 1).symm];exact Bs.put_eq
 stop:=λ{A b G s i Q} hh tk0 hr hg e hx h=>by
  have hi':m<=i:=by have:=List.getElem?_eq_none_iff.mp hx;unfold vC at this;rwa [List.length_map,List.length_range] at this
  refine wpAny_pyNext_range_end hh (hr.keep _ _ e) (Int.sub_nonpos_of_le (Int.ofNat_le.mpr hi')) λh' sb=>?_
  obtain⟨r',tk⟩:=hr.gone e (z8 rfl) sb
  exact h _ _ r' ⟨tk,rfl,rfl⟩ λa oa ea ha=>(Bs.del_ne ha).trans ea
theorem zFK {xs:List Val}{i:Nat}{x:Val}(h:(zBa xs)[i]?=some x):∃v,xs[i]?=some v/\x=.tup [.int i,v]:=by
 unfold zBa at h
 rw[List.getElem?_map,List.getElem?_zipIdx] at h
 cases e:xs[i]? with
 | none=>rw[e] at h;cases h
 | some v=>rw[e] at h;cases h;exact⟨v,rfl,by rw[Nat.zero_add]⟩
theorem zFJ {xs:List Val}:(zBa xs).length=xs.length:=by unfold zBa;rw[List.length_map,List.length_zipIdx]
theorem zEr {h0:Heap}{es:List Expr}{k:Nat}{pos:Pos}{I it l:Addr}{xs:List Val}(hne:I≠it) :
  Iter X h0 (.Tuple es k pos) (.ref I) (zBa xs) (λG=>G l=some (.list xs)) (λa=>a=I\/a=it)
   (λi b=>(∃old,b I=some { cls:=.type "enumerate",dict:=none,data:=.fields #[.none,.bool false,.ref it,rawInt i,.none,old],slots:=#[] })/\∃o,b it=some o/\o.cls=.type "list_iterator"/\o.data=.fields #[.ref l,.int i 0]) where
 kind:=λg ha ea=>by
  obtain⟨⟨old,e⟩,o,e',_,hd⟩:=g
  rcases ha with rfl | rfl
  ·rw[e] at ea;cases ea;exact⟨_,rfl⟩
  ·rw[e'] at ea;cases ea;exact⟨_,hd⟩
 fr:=λg h=>⟨g.1.elim λold e=>⟨old,h I _ (.inl rfl) e⟩,g.2.elim λo g=>⟨o,h it o (.inr rfl) g.1,g.2⟩⟩
 self:=λhr g hq=>g.1.elim λold e=>wpAny_pyIter_enum (hr.keep _ _ e) hq
 item:=λ{A b G s i x Q} hh tk0 hr hg g hx h=>by
  obtain⟨⟨old,e⟩,o,e',hc,hd⟩:=g
  obtain⟨v,hv,rfl⟩:=zFK hx
  obtain⟨ys,kk,hl,ho,hs,_⟩:=zJ hr hg
  obtain⟨y,hy,hvr⟩:=hs.get hv
  refine wpAny_pyNext_enum_item (hr.keep _ _ e) ⟨o,hr.keep _ _ e',hc,hd⟩ ⟨_,ho,rfl,kk,rfl⟩ (by rw[<-Array.getElem?_toList];exact hy) hne λh' heo g ht hz hk=>⟨_,rfl,?_⟩
  obtain⟨o2,ho2,hc2,hd2⟩:=g
  refine wpAny_letOwnedTupleGo_enum (s:={ s with heap:=h',toks:=s.toks+1 }) heo λh2 he2 hs2=>?_
  replace hs2:Heap.SameBut I h' h2:=hs2
  have hIs:I≠s.heap.objs.size:=Nat.ne_of_lt (Heap.lt_size (hr.keep _ _ e))
  have ho2':h2.get? it=some o2:=(hs2.2 it (Ne.symm hne)).trans ho2
  have ht':=(hs2.2 _ (Ne.symm hIs)).trans ht
  have hk2:∀a o,¬(a=I\/a=it)->s.heap.get? a=some o->h2.get? a=some o:=λa o ha ea=>(hs2.2 a λq=>ha (.inl q)).trans (hk a o (λq=>ha (.inl q)) (λq=>ha (.inr q)) ea)
  have cases3:∀{a:Addr} {oa oI:Obj},((b.put it o2).put I oI) a=some oa->(a=I/\oa=oI)\/(a=it/\oa=o2)\/(¬(a=I\/a=it)/\b a=some oa):=λ{a oa oI} ea=>by
   by_cases q:a=I
   ·subst q;rw[Bs.put_eq] at ea;cases ea;exact .inl ⟨rfl,rfl⟩
   ·rw[Bs.put_ne q] at ea
    by_cases q':a=it
    ·subst q';rw[Bs.put_eq] at ea;cases ea;exact .inr (.inl ⟨rfl,rfl⟩)
    ·rw[Bs.put_ne q'] at ea;exact .inr (.inr ⟨λw=>w.elim q q',ea⟩)
  obtain⟨r',tk⟩:=hr.step (W:=λa=>a=I\/a=it) (b':=(b.put it o2).put I _) (h':=h2) (λa w=>by
   rcases w with rfl | rfl
   ·exact⟨_,e,z8 rfl⟩
   ·exact⟨_,e',z8 hd⟩) hk2 (λa oa ea=>by
   rcases cases3 ea with ⟨rfl,rfl⟩ | ⟨rfl,rfl⟩ | ⟨w,ea⟩
   ·exact he2
   ·exact ho2'
   ·exact hk2 a oa w (hr.keep _ _ ea)) λa oa ea=>.inl (by
   rcases cases3 ea with ⟨rfl,rfl⟩ | ⟨rfl,rfl⟩ | ⟨w,ea⟩
   ·rw[e];rfl
   ·rw[e'];rfl
   ·rw[ea];rfl)
  exact h _ _ _ (.tup' (ys:=[.int i s.toks,y]) ht' (.cons (.int _ _) (.single (hvr.mono tk)))) r' ⟨tk,rfl,rfl⟩ ⟨⟨_,Bs.put_eq⟩,o2,(Bs.put_ne (Ne.symm hne)).trans Bs.put_eq,hc2,hd2⟩ λa oa ea ha=>
   (Bs.put_ne λq=>ha (.inl q)).trans ((Bs.put_ne λq=>ha (.inr q)).trans ea)
 stop:=λ{A b G s i Q} hh tk0 hr hg g hx h=>by
  obtain⟨⟨old,e⟩,o,e',hc,hd⟩:=g
  obtain⟨ys,kk,hl,ho,hs,hlen⟩:=zJ hr hg
  refine wpAny_pyNext_enum_end hh (hr.keep _ _ e) ⟨o,hr.keep _ _ e',hc,hd⟩ ⟨_,ho,rfl,kk,rfl⟩ (by
   rw[Array.getElem?_eq_none_iff,<-hlen,<-zFJ];exact List.getElem?_eq_none_iff.mp hx) λh' sb=>?_
  obtain⟨r',tk⟩:=hr.gone e' (z8 hd) sb
  exact h _ _ r' ⟨tk,rfl,rfl⟩ λa oa ea ha=>(Bs.del_ne λq=>ha (.inr q)).trans ea
end
end
noncomputable section
section
variable {X:Cx}{n:Nat}{sc:Scope}{env:Env}{A:Around}{b:Bs}{m:M}{G:Gh}{s:Shared}{e:Expr}{loc:Bool}
theorem ue {b':Bs}(l:Lay X loc env b)(k:∀a o,b a=some o->(¬∃vs,o.data=.fields vs)->b' a=some o):Lay X loc env b' where
 loc:=by obtain⟨o,es,ep,h1,h2,h3⟩:=l.loc;exact⟨o,es,ep,k _ _ h1 (λ⟨vs,q⟩=>by rw[h2] at q;cases q),h2,h3⟩
 low:=l.low
 has hh x hx:=by obtain⟨ca,o,v,h1,h2,h3,r⟩:=l.has hh x hx;exact⟨ca,o,v,h1,k _ _ h2 (λ⟨vs,q⟩=>by rw[h3] at q;cases q),h3,r⟩
theorem uf {b':Bs}{h h':Heap}(f:Frm env b h m)(t:TK h h')(k:∀a o,b a=some o->(¬∃vs,o.data=.fields vs)->b' a=some o):Frm env b' h' m:=λx v e=>by
 obtain⟨y,hy,hs⟩:=f x v e
 exact⟨y,hy.mono t,hs.imp (λo _ _ e d=>k _ _ e λq=>q.elim λ_ q=>nomatch d.symm.trans q) λ_ o _ _ e d=>k _ _ e λq=>q.elim λ_ q=>nomatch d.symm.trans q⟩
inductive Fl where
 | next
 | brk
 | cont
 | ret (v:Val)
noncomputable abbrev QS:=Fl->M->Gh->Prop
inductive FlR (h:Heap):Fl->Flow->Prop where
 | next:FlR h .next .next
 | brk:FlR h .brk .brk
 | cont:FlR h .cont .cont
 | ret {v:Val} {y:Value}:VR h v y->FlR h (.ret v) (.ret y)
inductive OutS (X:Cx)(env:Env)(b:Bs)(s:Shared)(Q:QS)(fl:Flow)(s':Shared):Prop where
 | mk (mf:Fl) (m':M) (G':Gh) (b':Bs) (hfl:FlR s'.heap mf fl) (hr:Rep X b' G' s'.heap) (hf:Frm env b' s'.heap m') (hl:Lay X false env b') (ag:Agr false env b b') (f:Fwd s s') (q:Q mf m' G')
theorem OutS.next {b1:Bs}{s₁:Shared}{Q:QS}{fl:Flow}{s':Shared}(o:OutS X env b1 s₁ Q fl s')(a:Agr false env b b1)(f:Fwd s s₁):OutS X env b s Q fl s':=by
 cases o with | mk mf m' G' b' h1 h2 h3 h4 h5 h6 h7=>exact .mk mf m' G' b' h1 h2 h3 h4 (a.trans h5) (f.trans h6) h7
structure HyS (X:Cx)(n:Nat)(sc:Scope)(env:Env)(A:Around)(b:Bs)(m:M)(G:Gh)(s:Shared):Prop where
 hy:Hy X n sc env A b m G s
 hl:Lay X false env b
theorem HyS.next {m':M}{G':Gh}{b':Bs}{s':Shared}(h:HyS X n sc env A b m G s)(hr:Rep X b' G' s'.heap)(hf:Frm env b' s'.heap m')(hl:Lay X false env b')(ag:Agr false env b b'):HyS X n sc env A b' m' G' s':=
 ⟨⟨h.hy.he,h.hy.hA,ag.base h.hl h.hy.hb,hr,hf⟩,hl⟩
theorem HyS.here {G':Gh}{s':Shared}(h:HyS X n sc env A b m G s)(hy:Hy X n sc env A b m G' s'):HyS X n sc env A b m G' s':=⟨hy,h.hl⟩
theorem HyS.out {G':Gh}{s':Shared}{Q:QS}{fl:Flow}{mf:Fl}(h:HyS X n sc env A b m G s)(hy:Hy X n sc env A b m G' s')(hfl:FlR s'.heap mf fl)(f:Fwd s s')(q:Q mf m G'):OutS X env b s Q fl s':=.mk mf m G' b hfl hy.hr hy.hf h.hl .refl f q
structure SnS (X:Cx)(n:Nat)(sc:Scope)(st:Stmt)(m:M)(G:Gh)(Q:QS):Prop where
 go:∀{env:Env} {A:Around} {b:Bs} {s:Shared},HyS X n sc env A b m G s->wpAny (model X.prog X.w) A (exec st env) (OutS X env b s Q) NoE s
structure SnB (X:Cx)(n:Nat)(sc:Scope)(sts:List Stmt)(m:M)(G:Gh)(Q:QS):Prop where
 go:∀{env:Env} {A:Around} {b:Bs} {s:Shared},HyS X n sc env A b m G s->wpAny (model X.prog X.w) A (execs sts env) (OutS X env b s Q) NoE s
inductive Then (X:Cx)(n:Nat)(sc:Scope)(sts:List Stmt)(Q:QS):Fl->M->Gh->Prop where
 | next {m:M} {G:Gh} (h:SnB X n sc sts m G Q):Then X n sc sts Q .next m G
 | brk {m:M} {G:Gh} (h:Q .brk m G):Then X n sc sts Q .brk m G
 | cont {m:M} {G:Gh} (h:Q .cont m G):Then X n sc sts Q .cont m G
 | ret {v:Val} {m:M} {G:Gh} (h:Q (.ret v) m G):Then X n sc sts Q (.ret v) m G
theorem SnB.nil {Q:QS}(q:Q .next m G):SnB X n sc [] m G Q:=⟨λh=>wpAny_execs_nil (h.out h.hy .next .refl q)⟩
theorem SnB.cons {Q:QS}{st:Stmt}{sts:List Stmt}(h:SnS X n sc st m G (Then X n sc sts Q)):SnB X n sc (st::sts) m G Q:=⟨λhs=>
 wpAny_execs_cons (zA (h.go hs) λfl s₁ o=>by
  cases o with | mk mf m1 G1 b1 hfl hr1 hf1 hl1 ag f1 hq=>
  cases hq with
  | next h=>cases hfl;exact zA (h.go (hs.next hr1 hf1 hl1 ag)) λ_ _ q=>q.next ag f1
  | brk h=>cases hfl;exact .mk _ m1 G1 b1 .brk hr1 hf1 hl1 ag f1 h
  | cont h=>cases hfl;exact .mk _ m1 G1 b1 .cont hr1 hf1 hl1 ag f1 h
  | ret h=>cases hfl with | ret hv=>exact .mk _ m1 G1 b1 (.ret hv) hr1 hf1 hl1 ag f1 h)⟩
theorem SnS.ret {Q:QS}{pos:Pos}(h:Sn X n sc e m G λv G'=>Q (.ret v) m G'):SnS X n sc (.Return (some e) pos) m G Q:=⟨λhs=>
 wpAny_Return_some (h.use hs.hy λy s₁ v G1 hv hy1 f1 q=>hs.out hy1 (.ret hv) f1 q)⟩
theorem SnS.brk {Q:QS}{pos:Pos}(q:Q .brk m G):SnS X n sc (.Break pos) m G Q:=⟨λhs=>wpAny_Break (hs.out hs.hy .brk .refl q)⟩
theorem SnS.cont {Q:QS}{pos:Pos}(q:Q .cont m G):SnS X n sc (.Continue pos) m G Q:=⟨λhs=>wpAny_Continue (hs.out hs.hy .cont .refl q)⟩
theorem SnS.ifs {Q:QS}{t:Expr}{a c:List Stmt}{pos:Pos}(h:SnT X n sc t m G λr G'=>Two (SnB X n sc a m G' Q) (SnB X n sc c m G' Q) r):SnS X n sc (.If t a c pos) m G Q:=⟨λhs=>
 wpAny_If (h.use hs.hy λr s₁ G1 hy1 f1 q=>by
  cases r
  ·exact zA ((q.2 rfl).go (hs.here hy1)) λ_ _ q=>q.next .refl f1
  ·exact zA ((q.1 rfl).go (hs.here hy1)) λ_ _ q=>q.next .refl f1)⟩
theorem zHc (h:Zr X sc env):interactive env=false:=by
 unfold interactive
 rw[h.scope,h.kind];rfl
theorem SnS.expr {Q:QS}{pos:Pos}(h:Sn X n sc e m G λv G'=>Q .next m G')(hsw:∀env,swapsWith e .none pos.line env=pure false:=by intro _;rfl):SnS X n sc (.Expr e pos) m G Q:=⟨λhs=>
 wpAny_Expr_any (h.use hs.hy λy s₁ v G1 hv hy1 f1 q=>hs.out hy1 .next f1 q) (zHc hs.hy.he) (hsw _)⟩
theorem St.out {Q:QS}{s':Shared}(h:St X loc env b G s m s')(hl:loc=false)(q:Q .next m G):OutS X env b s Q .next s':=by
 subst hl
 cases h with | mk b' h1 h2 h3 h4 h5=>exact .mk .next m G b' .next h1 h2 h3 h4 h5 q
inductive PutP (sc:Scope)(id:Str)(m:M)(Q:QS)(v:Val)(G':Gh):Prop where
 | mk (m':M) (h1:Put false sc id v m m') (h2:Q .next m' G')
inductive BndP (X:Cx)(sc:Scope)(tgt:Expr)(m:M)(Q:QS)(v:Val)(G':Gh):Prop where
 | mk (m':M) (h1:Bnd X false sc tgt v m m') (h2:Q .next m' G')
inductive BT (X:Cx)(n:Nat)(sc:Scope)(tgt:Expr)(v:Val)(m:M)(body:List Stmt)(G:Gh)(Q:QS):Prop where
 | mk (m':M) (h1:Bnd X false sc tgt v m m') (h2:SnB X n sc body m' G Q)
theorem SnS.assign {Q:QS}{id:Str}{p pos:Pos}(h:Sn X n sc e m G (PutP sc id m Q))
  (hsw:∀env,swapsWith e (some (.Name id p)) pos.line env=pure false:=by intro _;rfl):SnS X n sc (.Assign [.Name id p] e pos) m G Q:=⟨λhs=>
 wpAny_Assign_Name (h.use hs.hy λy s₁ v G1 hv hy1 f1 q=>by
  obtain⟨m',hb,q⟩:=q
  exact zA (hb.go hy1.he hs.hl hy1.hr hy1.hf hv) λ_ _ o=>(o.next .refl f1).out rfl q) (hsw _)⟩
theorem SnS.assignT {Q:QS}{es:List Expr}{k:Nat}{p pos:Pos}(h:Sn X n sc e m G (BndP X sc (.Tuple es k p) m Q))
  (hsw:∀env,swapsWithSole [.Tuple es k p] e pos.line env=pure false:=by intro _;rfl) (hw:∀env,swappedStores [.Tuple es k p] e env=pure .none:=by intro _;rfl) :
  SnS X n sc (.Assign [.Tuple es k p] e pos) m G Q:=⟨λhs=>
 Assign_Tuple (h.use hs.hy λy s₁ v G1 hv hy1 f1 q=>by
  obtain⟨m',hb,q⟩:=q
  exact zA (hb.go hy1.he hy1.hA.hd hs.hl hy1.hr hy1.hf hv) λ_ _ o=>(o.next .refl f1).out rfl q) (hsw _) (hw _)⟩
noncomputable def kept (b b':Bs):Prop:=∀a o,b a=some o->b' a=some o
inductive OutI (X:Cx)(tgt:Expr)(b:Bs)(s:Shared)(K:List Val->(Gh->Prop)->Gh->Prop)(I:Value)(s':Shared):Prop where
 | mk (xs:List Val) (gd:Gh->Prop) (G':Gh) (b':Bs) (hid:Addr->Prop) (St:Nat->Bs->Prop) (it:Iter X s'.heap tgt I xs gd hid St) (hn:∀a,hid a->b a=none) (hr:Rep X b' G' s'.heap) (kb:kept b b') (st:St 0 b') (f:Fwd s s') (q:K xs gd G')
structure SnI (X:Cx)(n:Nat)(sc:Scope)(iter tgt:Expr)(m:M)(G:Gh)(K:List Val->(Gh->Prop)->Gh->Prop):Prop where
 go:∀{env:Env} {A:Around} {b:Bs} {s:Shared},Hy X n sc env A b m G s ->
  wpAny (model X.prog X.w) A (eval iter env) (λx s₁=>wpAny (model X.prog X.w) A (pyIter x) (OutI X tgt b s K) NoE s₁) NoE s
theorem Rep.push {h:Heap}(r:Rep X b G h)(o:Obj)(hf:o.isFreed=false:=by rfl):Rep X (b.put h.objs.size o) G (h.push o)/\kept b (b.put h.objs.size o)/\(∀a x,h.get? a=some x->(h.push o).get? a=some x):=by
 have kp:∀a x,h.get? a=some x->(h.push o).get? a=some x:=λa x e=>Heap.get?_push_of_some _ e
 have hn:=zm (h:=h) (Nat.le_refl _)
 exact⟨r.hide kp hn (Heap.get?_push_size _ hf),λa x e=>(Bs.put_ne λq=>by rw[q,r.noB hn] at e;cases e).trans e,kp⟩
inductive Yo (G:Gh):Val->List Val->(Gh->Prop)->Prop where
 | tup (vs:List Val):Yo G (.tup vs) vs λ_=>True
 | list {a:Addr} {xs:List Val}:G a=some (.list xs)->Yo G (.ref a) xs λG=>G a=some (.list xs)
inductive SeqP (K:List Val->(Gh->Prop)->Gh->Prop)(v:Val)(G':Gh):Prop where
 | mk (xs:List Val) (gd:Gh->Prop) (h1:Yo G' v xs gd) (h2:K xs gd G')
theorem SnI.seq {tgt:Expr}{K:List Val->(Gh->Prop)->Gh->Prop}(h:Sn X n sc e m G (SeqP K)):SnI X n sc e tgt m G K:=⟨λhy=>h.use hy λy s₁ v G1 hv hy1 f1 q=>by
 obtain⟨xs,gd,hS,q⟩:=q
 have fr:=hy1.hr.noB (zm (Nat.le_refl _))
 cases hS with
 | tup vs=>
  obtain⟨t,k,ys,rfl,e,hs⟩:=hv.tup_inv
  refine wpAny_pyIter_tuple ⟨_,e,rfl,_,rfl⟩ ?_
  obtain⟨r',kb,kp⟩:=hy1.hr.push { cls:=.type "tuple_iterator",data:=.fields #[.ref t,.int 0 0] }
  exact .mk xs _ G1 _ _ _ (zGP (kp _ _ e) (hs.mono (.of_keep kp))) (λa q=>by subst q;exact fr) r' kb ⟨_,Bs.put_eq,rfl,rfl⟩ (f1.trans ⟨.of_keep kp,rfl,rfl⟩) q
 | list e=>
  rw[hv.ref_inv]
  obtain⟨ys,k,hl,ho,hs,_⟩:=zJ hy1.hr e
  refine wpAny_pyIter_list ⟨_,ho,rfl,k,rfl⟩ ?_
  obtain⟨r',kb,kp⟩:=hy1.hr.push { cls:=.type "list_iterator",data:=.fields #[.ref _,.int 0 0] }
  exact .mk xs _ G1 _ _ _ zEq (λa q=>by subst q;exact fr) r' kb ⟨_,Bs.put_eq,rfl,rfl⟩ (f1.trans ⟨.of_keep kp,rfl,rfl⟩) q⟩
theorem uP {id:String}{es:List Expr}{p pos:Pos}(hx:Zx X)(h1:id∈(["len","list","sorted","any","all","sum","int","abs","min","set","range","enumerate","zip","isinstance","bool"]:List String))(h2:id∈(["list","int","set","range","enumerate","zip","bool"]:List String))
  (hk:Ze sc (Str.ofString id)) (hn:Zj es) {Q:List Val->Gh->Prop} {R:Value->Shared->Prop} (h:SnEs X n sc es m G Q) (hy:Hy X n sc env A b m G s)
  (k:∀ys s₁ vs G1,VRs s₁.heap vs ys->Hy X n sc env A b m G1 s₁->Fwd s s₁->Q vs G1->wpAny (model X.prog X.w) A (call (.type id) ys) R NoE s₁) :
  wpAny (model X.prog X.w) A (eval (.Call (.Name (Str.ofString id) p) es [] pos) env) R NoE s:=
 PyProof.Rows.Call_ (wpAny_Name (zAD hy.he hy.hb hy.hr hk (hx.mg _ h1) (hx.ty _ h2) (PyProof.Rows.callWith_type (first:=[]) (hn.any _ _) (yF hn h hy k))) (hk.dbg hy.he))
theorem SnI.enum {x:Expr}{es:List Expr}{k:Nat}{tp p pos:Pos}{K:List Val->(Gh->Prop)->Gh->Prop}(hx:Zx X)(hk:Ze sc "enumerate")(hn:Zj [x])
  (h:SnEs X n sc [x] m G λvs G'=>∃a xs,vs=[.ref a]/\G' a=some (.list xs)/\K (zBa xs) (λG=>G a=some (.list xs)) G'):SnI X n sc (.Call (.Name "enumerate" p) [x] [] pos) (.Tuple es k tp) m G K:=⟨λ{env A b s} hy=>
 uP hx (by decide) (by decide) hk hn h hy λys s₁ vs G1 hv hy1 f1 q=>by
  obtain⟨a,xs,rfl,e,q⟩:=q
  obtain⟨y,rfl,hv'⟩:=hv.one_inv
  rw[hv'.ref_inv]
  have hr1:=hy1.hr
  obtain⟨ys,kk,hl,ho,hs,_⟩:=zJ hr1 e
  refine call_enumerate_1 ho λh' he' hit hz kp=>wpAny_pyIter_enum he' ?_
  obtain⟨oi,hoi,hci,hdi⟩:=hit
  have n0:=zm (h:=s₁.heap) (Nat.le_refl _)
  have n1:=zm (h:=s₁.heap) (Nat.le_succ _)
  have hne:s₁.heap.objs.size+1≠s₁.heap.objs.size:=Nat.succ_ne_self _
  have cases3:∀{a:Addr} {oa oI:Obj},((b.put s₁.heap.objs.size oi).put (s₁.heap.objs.size+1) oI) a=some oa->(a=s₁.heap.objs.size+1/\oa=oI)\/(a=s₁.heap.objs.size/\oa=oi)\/b a=some oa:=λ{a oa oI} ea=>by
   by_cases q:a=s₁.heap.objs.size+1
   ·subst q;rw[Bs.put_eq] at ea;cases ea;exact .inl ⟨rfl,rfl⟩
   ·rw[Bs.put_ne q] at ea
    by_cases q':a=s₁.heap.objs.size
    ·subst q';rw[Bs.put_eq] at ea;cases ea;exact .inr (.inl ⟨rfl,rfl⟩)
    ·rw[Bs.put_ne q'] at ea;exact .inr (.inr ea)
  obtain⟨r',tk⟩:=hr1.step (W:=λ_=>False) (b':=(b.put s₁.heap.objs.size oi).put (s₁.heap.objs.size+1) _) (h':=h') (λ_ f=>f.elim) (λa o _ ea=>kp a o ea) (λa oa ea=>by
   rcases cases3 ea with ⟨rfl,rfl⟩ | ⟨rfl,rfl⟩ | ea
   ·exact he'
   ·exact hoi
   ·exact kp a oa (hr1.keep _ _ ea)) λa oa ea=>by
   rcases cases3 ea with ⟨rfl,rfl⟩ | ⟨rfl,rfl⟩ | ea
   ·exact .inr (.inl n1)
   ·exact .inr (.inl n0)
   ·exact .inl (by rw[ea];rfl)
  refine .mk (zBa xs) _ G1 _ _ _ (zEr hne) (λa q=>?_) r' (λa o ea=>?_) ⟨⟨_,Bs.put_eq⟩,oi,(Bs.put_ne (Ne.symm hne)).trans Bs.put_eq,hci,hdi⟩ (f1.trans ⟨tk,rfl,rfl⟩) q
  ·rcases q with rfl | rfl
   ·exact hr1.noB n1
   ·exact hr1.noB n0
  ·exact(Bs.put_ne λq=>by rw[q,hr1.noB n1] at ea;cases ea).trans ((Bs.put_ne λq=>by rw[q,hr1.noB n0] at ea;cases ea).trans ea)⟩
theorem zCq {k:Nat}(h:k<cap):Builtin.Range.rangeFitsLong (k:Int)=true:=Bool.and_eq_true_iff.mpr ⟨decide_eq_true (Int.le_trans (by decide) (Int.natCast_nonneg k)),decide_eq_true (Int.lt_trans (Int.ofNat_lt.mpr h) (by unfold cap;decide))⟩
theorem zCh (k:Nat):Builtin.Range.rangeSize 0 k 1=k:=by
 unfold Builtin.Range.rangeSize
 rw[if_pos (by decide)]
 cases k with
 | zero=>rfl
 | succ k=>rw[if_pos (Int.natCast_pos.mpr (Nat.succ_pos k)),Int.ediv_one,Int.sub_zero,Int.sub_add_cancel]
theorem zED {k:Nat}(h:k<cap):Builtin.Range.small 0 k 1=true:=by
 unfold Builtin.Range.small
 rw[zCh,zCq h,if_pos (by decide),show (k:Int)+(1 - 1)=k from Int.add_zero _,zCq h,Bool.or_true]
 decide
theorem SnI.range {es:List Expr}{tgt:Expr}{p pos:Pos}{K:List Val->(Gh->Prop)->Gh->Prop}(hx:Zx X)(hk:Ze sc "range")(hn:Zj es)
  (h:SnEs X n sc es m G λvs G'=>∃k:Nat,vs=[.int k]/\k<cap/\K (vC k) (λ_=>True) G'):SnI X n sc (.Call (.Name "range" p) es [] pos) tgt m G K:=⟨λhy=>
 uP hx (by decide) (by decide) hk hn h hy λys s₁ vs G1 hv hy1 f1 q=>by
  obtain⟨k,rfl,hk,q⟩:=q
  obtain⟨w,rfl,h1⟩:=hv.one_inv
  obtain⟨t,rfl⟩:=h1.int_inv
  refine call_range_1 ?_
  refine wpAny_pyIter_range (Heap.get?_push_size _ rfl) (zED hk) ?_
  rw[zCh]
  dsimp only
  have kp:∀a w,s₁.heap.get? a=some w->(s₁.heap.push { cls:=.type "range",data:=.fields #[.int 0 s₁.toks,.int k t,.int 1 (s₁.toks+1)] }).get? a=some w:=λa w e=>Heap.get?_push_of_some _ e
  have r2:=hy1.hr.mono kp
  generalize s₁.heap.push { cls:=.type "range",data:=.fields #[.int 0 s₁.toks,.int k t,.int 1 (s₁.toks+1)] }=H at *
  obtain⟨r',kb,kp'⟩:=r2.push { cls:=.type "range_iterator",data:=.fields #[rawInt (0:Nat),rawInt ((k:Int) - (0:Nat)),rawInt 1] }
  exact .mk (vC k) _ G1 _ _ _ zD8 (λa q=>by subst q;exact r2.noB (zm (Nat.le_refl _))) r' kb Bs.put_eq (f1.trans ⟨.of_keep λa o e=>kp' a o (kp a o e),rfl,rfl⟩) q⟩
end
end
noncomputable section
section
variable {X:Cx}{n:Nat}{sc:Scope}{env:Env}{A:Around}{b:Bs}{m:M}{G:Gh}{s:Shared}{e:Expr}{loc:Bool}
inductive Turn (J:M->Gh->Prop)(Q:QS):Fl->M->Gh->Prop where
 | next {m:M} {G:Gh} (h:J m G):Turn J Q .next m G
 | cont {m:M} {G:Gh} (h:J m G):Turn J Q .cont m G
 | brk {m:M} {G:Gh} (h:Q .next m G):Turn J Q .brk m G
 | ret {v:Val} {m:M} {G:Gh} (h:Q (.ret v) m G):Turn J Q (.ret v) m G
structure Yk (X:Cx)(n:Nat)(sc:Scope)(tgt:Expr)(body:List Stmt)(gd:Gh->Prop)(Q:QS)(I:List Val->M->Gh->Prop):Prop where
 turn:∀x xs m G,I (x::xs) m G->gd G/\BT X n sc tgt x m body G (Turn (I xs) Q)
 stop:∀m G,I [] m G->gd G/\Q .next m G
theorem jT {α:Type}{xs:List α}{i:Nat}{x:α}(hx:xs[i]?=some x):i<xs.length/\xs.drop i=x::xs.drop (i+1):=by
 obtain⟨hlt,e⟩:=List.getElem?_eq_some_iff.mp hx
 exact⟨hlt,by rw[List.drop_eq_getElem_cons hlt,e]⟩
theorem zDE {α:Type}{xs:List α}{i:Nat}(hx:xs[i]?=none):xs.drop i=[]:=List.drop_eq_nil_of_le (List.getElem?_eq_none_iff.mp hx)
inductive ForI (X:Cx)(env:Env)(b:Bs)(s s₂:Shared)(xs:List Val)(St:Nat->Bs->Prop)(I:List Val->M->Gh->Prop)(k:Nat)(s':Shared):Prop where
 | mk (i:Nat) (bi:Bs) (mi:M) (Gi:Gh) (hk:k=xs.length+1 - i) (hr:Rep X bi Gi s'.heap) (hf:Frm env bi s'.heap mi) (hl:Lay X false env bi) (st:St i bi) (ag:Agr false env b bi) (tk:TK s₂.heap s'.heap) (f:Fwd s s') (h:I (xs.drop i) mi Gi)
inductive ForP (X:Cx)(n:Nat)(sc:Scope)(tgt:Expr)(body:List Stmt)(m:M)(Q:QS)(xs:List Val)(gd:Gh->Prop)(G':Gh):Prop where
 | mk (I:List Val->M->Gh->Prop) (h1:Yk X n sc tgt body gd Q I) (h2:I xs m G')
theorem SnS.fors {Q:QS}{iter tgt:Expr}{body:List Stmt}{pos:Pos}(h:SnI X n sc iter tgt m G (ForP X n sc tgt body m Q))
  (hs:∀env x,foldedSetIterable iter env x=pure x:=by intro _ _;rfl):SnS X n sc (.For tgt iter body [] pos) m G Q:=⟨λ{env A b s} hys=>by
 have hA:=hys.hy.hA
 have he:=hys.hy.he
 refine wpAny_For (zA (h.go hys.hy) λx s₁ h₁=>zA h₁ λI0 s2 o=>?_) (hs env)
 cases o with | mk xs gd G2 b2 hid St it hn hr2 kb st f2 q=>
 obtain⟨I,ok,q⟩:=q
 refine codeAny_forLoop_any (ForI X env b s s2 xs St I) (λk s' hI=>?_) (xs.length+1) (.mk 0 b2 m G2 rfl hr2 (uf hys.hy.hf f2.tk λa o e _=>kb a o e) (ue hys.hl λa o e _=>kb a o e) st (λa o e _=>kb a o e) (.refl _) f2 q)
 cases hI with | mk i bi mi Gi hk hri hfi hli sti agi tki fi hgo=>
 have keepF:∀{b':Bs},(∀a o,bi a=some o->¬hid a->b' a=some o)->(∀a o,bi a=some o->(¬∃vs,o.data=.fields vs)->b' a=some o):=λk a o e nf=>k a o e λq=>nf (it.kind sti q e)
 have agH:∀{b':Bs},(∀a o,bi a=some o->¬hid a->b' a=some o)->Agr false env b b':=λk a o e no=>k a o (agi a o e no) λq=>by rw[hn a q] at e;cases e
 cases hx:xs[i]? with
 | none=>
  rw[zDE hx] at hgo
  obtain⟨g1,g2⟩:=ok.stop _ _ hgo
  refine zN (it.stop hA.hd tki hri g1 sti hx (Q:=λr s₁=>r=none/\OutS X env b s Q .next s₁) λs₁ b1 hr1 f1 k₁=>⟨rfl,.mk .next mi Gi b1 .next hr1 (uf hfi f1.tk (keepF k₁)) (ue hli (keepF k₁)) (agH k₁) (fi.trans f1) g2⟩) ?_
  rintro r s₁ ⟨rfl,hout⟩
  exact wpAny_execs_nil hout
 | some x=>
  obtain⟨hlt,hdrop⟩:=jT hx
  rw[hdrop] at hgo
  obtain⟨hgd,m',hB,hbody⟩:=ok.turn _ _ _ _ hgo
  refine zN (it.item hA.hd tki hri hgd sti hx (Q:=λy s₁=>∃b1,VR s₁.heap x y/\Rep X b1 Gi s₁.heap/\Fwd s' s₁/\St (i+1) b1/\∀a o,bi a=some o->¬hid a->b1 a=some o) λy s₁ b1 h1 h2 h3 h4 h5=>⟨b1,h1,h2,h3,h4,h5⟩) ?_
  rintro r s₁ ⟨y,rfl,hy⟩
  refine zN hy ?_
  rintro _ s2' ⟨b1,hv,hr1,f1,st1,k₁⟩
  refine zN (hB.go he hA.hd (ue hli (keepF k₁)) hr1 (uf hfi f1.tk (keepF k₁)) hv) λ_ s3 o=>?_
  cases o with | mk b3 hr3 hf3 hl3 ag3 f3=>
  have ag':=(agH k₁).trans ag3
  refine zN (hbody.go (hys.next hr3 hf3 hl3 ag')) λfl s4 o=>?_
  cases o with | mk mf m4 G4 b4 hfl hr4 hf4 hl4 ag4 f4 hq=>
  have f':=(f1.trans f3).trans f4
  have next:I (xs.drop (i+1)) m4 G4->∃n,n<k/\ForI X env b s s2 xs St I n s4:=λhI=>
   ⟨xs.length+1 - (i+1),zEn hk hlt,.mk (i+1) b4 m4 G4 rfl hr4 hf4 hl4 (it.fr st1 λa o ha e=>by
    have no:¬Own false env a:=λq=>by obtain⟨_,o',e',_⟩:=q.data hys.hl;rw[hn _ ha] at e';cases e'
    exact ag4 a o (ag3 a o e no) no) (ag'.trans ag4) (tki.trans f'.tk) (fi.trans f') hI⟩
  cases hq with
  | next hI=>cases hfl;exact next hI
  | cont hI=>cases hfl;exact next hI
  | brk hq=>cases hfl;exact .mk .next m4 G4 b4 .next hr4 hf4 hl4 (ag'.trans ag4) (fi.trans f') hq
  | ret hq=>cases hfl with | ret hv4=>exact .mk (.ret _) m4 G4 b4 (.ret hv4) hr4 hf4 hl4 (ag'.trans ag4) (fi.trans f') hq⟩
theorem SnS.whil {Q:QS}{t:Expr}{body:List Stmt}{pos:Pos}(I:Nat->M->Gh->Prop)(k:Nat)(h0:I k m G)
  (h:∀k m G,I k m G->SnT X n sc t m G λr G'=>Two (SnB X n sc body m G' (Turn (λm G=>∃j,j<k/\I j m G) Q)) (Q .next m G') r):SnS X n sc (.While t body [] pos) m G Q:=⟨λ{env A b s} hys=>by
 refine wpAny_While (codeAny_whileLoop (λk s'=>∃bi mi Gi,Rep X bi Gi s'.heap/\Frm env bi s'.heap mi/\Lay X false env bi/\Agr false env b bi/\Fwd s s'/\I k mi Gi) ?_ k ⟨b,m,G,hys.hy.hr,hys.hy.hf,hys.hl,.refl,.refl,h0⟩)
 rintro k s' ⟨bi,mi,Gi,hri,hfi,hli,agi,fi,hI⟩
 have hyi:=hys.next hri hfi hli agi
 refine zN ((h k mi Gi hI).go hyi.hy) λr s₁ o=>o.elim λG1 hr1 f1 hq1=>?_
 have hy1:=hyi.here (hyi.hy.next hr1 f1)
 cases r with
 | false=>exact wpAny_execs_nil (.mk .next mi G1 bi .next hr1 hy1.hy.hf hli agi (fi.trans f1) (hq1.2 rfl))
 | true=>
  refine zN ((hq1.1 rfl).go hy1) λfl s4 o=>?_
  cases o with | mk mf m4 G4 b4 hfl hr4 hf4 hl4 ag4 f4 hq=>
  have f':=(fi.trans f1).trans f4
  cases hq with
  | next hJ=>cases hfl;obtain⟨j,hj,hJ⟩:=hJ;exact⟨j,hj,b4,m4,G4,hr4,hf4,hl4,agi.trans ag4,f',hJ⟩
  | cont hJ=>cases hfl;obtain⟨j,hj,hJ⟩:=hJ;exact⟨j,hj,b4,m4,G4,hr4,hf4,hl4,agi.trans ag4,f',hJ⟩
  | brk hq=>cases hfl;exact .mk .next m4 G4 b4 .next hr4 hf4 hl4 (agi.trans ag4) f' hq
  | ret hq=>cases hfl with | ret hv4=>exact .mk (.ret _) m4 G4 b4 (.ret hv4) hr4 hf4 hl4 (agi.trans ag4) f' hq⟩
theorem SnS.setIdx {Q:QS}{o i:Expr}{p pos:Pos}(h:Sn X n sc e m G λv G1=>Sn X n sc o m G1 λu G2=>Sn X n sc i m G2 λw G3=>∃a es k,u=.ref a/\w=.int k/\G3 a=some (.dict es)/\es.length<cap/\Q .next m (G3.upd a (.dict (uX es k v))))
  (hsw:∀env,swapsWith e (some (.Subscript o i p)) pos.line env=pure false:=by intro _;rfl):SnS X n sc (.Assign [.Subscript o i p] e pos) m G Q:=⟨λ{env A b s} hs=>
 wpAny_Assign_Subscript (h.use hs.hy λy s₁ v G1 hv hy1 f1 h1=>h1.use hy1 λov s2 u G2 hu hy2 f2 h2=>h2.use hy2 λiv s3 w G3 hw hy3 f3 h3=>by
  obtain⟨a,es,k,rfl,rfl,e,hc,q⟩:=h3
  rw[(hu.mono f3.tk).ref_inv]
  obtain⟨t,rfl⟩:=hw.int_inv
  have hr3:=hy3.hr
  obtain⟨hl',kvs,hd,hes⟩:=(hr3.own _ _ e).2
  obtain⟨oo,ees,eep,hoo,hxx,_⟩:=id hd
  have hlen:=hes.length
  refine wpAny_setItem_pairs (knd:=intKind X.prog X.w) (intKind_is _ _ _ _) hd (λh' hd' hs'=>?_) (by rw[sizeLine_eq,<-hlen];exact zDi hl')
  have kk:TK s3.heap h':=.sameButT hs' hoo (notT hxx.1)
  have hlst:(uX es k v).length<=2 * cap:=by
   have:(uX es k v).length<=es.length+1:=by
    unfold uX
    split
    ·rw[List.length_map];exact Nat.le_succ _
    ·rw[List.length_append];exact Nat.le_refl _
   exact Nat.le_trans this (uo hc)
  have r':=(hr3.change (g':=.dict (uX es k v)) e rfl rfl hs' ⟨hlst,_,hd',((hes.stored k (hv.mono (f2.trans f3).tk)).mono kk)⟩).1
  have ff:Fwd s { s3 with heap:=h',toks:=s3.toks+1 }:=((f1.trans f2).trans f3).trans ⟨kk,rfl,rfl⟩
  exact .mk .next m _ b .next r' (hs.hy.hf.mono ff.tk) hs.hl .refl ff q) (hsw _)⟩
theorem SnS.aug {Q:QS}{x:Str}{v:Val}{op:Operator}{p pos:Pos}(hx:m x v)(h:Sn X n sc e m G λw G1=>Op2 X n (inplaceOp op) v w G1 λu G2=>∃m',Put false sc x u m m'/\Q .next m' G2):SnS X n sc (.AugAssign (.Name x p) op e pos) m G Q:=⟨λhs=>by
 obtain⟨y,hv,hsl⟩:=hs.hy.hf x v hx
 refine wpAny_AugAssign_Name (vv hs.hy.he hs.hy.hr hsl (h.use hs.hy λz s₁ w G1 hw hy1 f1 h1=>?_))
 refine zA (h1.go hy1.hA hy1.hb hy1.hr (hv.mono f1.tk) hw) λr s2 o=>o.elim λu G2 hu hr2 f2 q=>?_
 obtain⟨m',hp,q⟩:=q
 have hy2:=hy1.next hr2 f2
 exact zA (hp.go hy2.he hs.hl hy2.hr hy2.hf hu) λ_ _ o=>(o.next .refl (f1.trans f2)).out rfl q⟩
theorem Op2.iadd {Q:QE}{i j:Int}(q:Q (.int (i+j)) G):Op2 X n (inplaceOp .Add) (.int i) (.int j) G Q:=.ints λhr=>P.iadd_int (Out.here hr (.int _ _) q)
theorem vh {a:Addr}{xs:List Val}{k:Int}{t:Tok}{v:Val}{y:Value}{Q:Unit->Shared->Prop}(hr:Rep X b G s.heap)(e:G a=some (.list xs))(hk:0<=k/\k<cap)(hn:k.toNat<xs.length)(hv:VR s.heap v y)
  (h:∀s',Rep X b (G.upd a (.list (xs.set k.toNat v))) s'.heap->Fwd s s'->Q () s') :
  wpAny (model X.prog X.w) A (setItem (.ref a) (.int k t) y) Q NoE s:=by
 obtain⟨items,nn,hl,ho,hs,hlen⟩:=zJ hr e
 have hL:s.heap.IsList a items:=⟨_,ho,rfl,nn,rfl⟩
 unfold setItem
 try with_reducible refine wpAny_holding ?_
 first | refine wpAny_bind (wpAny_pure ?_) | skip
 refine wpAny_bind (wpAny_sequenceKey hL.typeIs (by decide) ?_)
 refine wpAny_bind (wpAny_callSpecial?_slot (name:=Str.ofString "__setitem__") hL.typeIs slot_list_setitem
  (wpAny_call_entry slot_list_setitem hL.typeIs entry_list_setitem ?_ (args_list_setitem _ _ _)))
 show wpAny _ _ (Builtin.List.listSubscript? (.int k t) >>= _) _ _ s
 refine wpAny_bind (wpAny_listSubscript_int (fitsIndex_of hk.1 (zJZ hk.2)) ?_)
 obtain⟨j,rfl⟩:=Int.eq_ofNat_of_zero_le hk.1
 rw[Int.toNat_natCast] at hn h
 have hj:j<items.size:=hlen▸hn
 have hx':items[j]?=some items[j]:=Array.getElem?_eq_getElem hj
 show wpAny _ _ ((seqItemAt a j >>= λr=>pure (r.map (j,·))) >>= _) _ _ s
 refine wpAny_bind (wpAny_bind (wpAny_seqItemAt ho rfl (wpAny_pure ?_)))
 rw[hx']
 show wpAny _ _ (setSeqItemAt a j y >>= _) _ _ s
 have hD:=Heap.get?_update_self (Obj.mapSeq (·.setIfInBounds j y)) ho rfl
 have sb:Heap.SameBut a s.heap (s.heap.update a (Obj.mapSeq (·.setIfInBounds j y))):=Heap.SameBut.update ..
 have kk:TK s.heap (s.heap.update a (Obj.mapSeq (·.setIfInBounds j y))):=.sameButT sb ho (notT rfl)
 have fin:Q () { s with heap:=s.heap.update a (Obj.mapSeq (·.setIfInBounds j y)) }:=by
  refine h _ (hr.change (g':=.list (xs.set j v)) e rfl rfl sb ⟨by rw[List.length_set];exact hl,items.setIfInBounds j y,_,hD,?_⟩).1 ⟨kk,rfl,rfl⟩
  rw[Array.toList_setIfInBounds]
  exact(hs.mono kk).set j (hv.mono kk)
 refine wpAny_bind (wpAny_setSeqItemAt ho rfl ?_)
 first
  | exact wpAny_bind (wpAny_pure (wpAny_pure ⟨.none,rfl,wpAny_pure fin⟩))
  | exact wpAny_pure ⟨.none,rfl,wpAny_pure fin⟩
theorem SnS.augIdx {Q:QS}{o i:Expr}{p pos:Pos}(h:Sn X n sc o m G λu G1=>Sn X n sc i m G1 λw G2=>∃a xs k j,u=.ref a/\w=.int k/\G2 a=some (.list xs)/\(0<=k/\k<cap)/\xs[k.toNat]?=some (.int j) /\
   Sn X n sc e m G2 λv G3=>∃d,v=.int d/\G3 a=some (.list xs)/\Q .next m (G3.upd a (.list (xs.set k.toNat (.int (j+d))))))
  (ha:∀ov iv new,augStore i ov iv new=(do holding [new,ov,iv] (setItem ov iv new);release [new,ov,iv] [];pure .next):=by intro _ _ _;rfl):SnS X n sc (.AugAssign (.Subscript o i p) .Add e pos) m G Q:=⟨λ{env A b s} hs=>
 PySem.wpAny_AugAssign_SubscriptAny (h.use hs.hy λov s₁ u G1 hu hy1 f1 h1=>h1.use hy1 λiv s2 w G2 hw hy2 f2 h2=>by
  obtain⟨a,xs,k,j,rfl,rfl,e1,hk,hj,h2⟩:=h2
  rw[(hu.mono f2.tk).ref_inv]
  obtain⟨t,rfl⟩:=hw.int_inv
  obtain⟨items,nn,hl',hoo,hs',_⟩:=zJ hy2.hr e1
  obtain⟨y,hy,hvr⟩:=hs'.get hj
  refine wpAny_getItem_list ⟨_,hoo,rfl,nn,rfl⟩ hk.1 (zJZ hk.2) (by rw[<-Array.getElem?_toList];exact hy) ?_
  refine h2.use hy2 λz s3 v G3 hv hy3 f3 h3=>?_
  obtain⟨d,rfl,e3,q⟩:=h3
  obtain⟨u1,rfl⟩:=hvr.int_inv
  obtain⟨u2,rfl⟩:=hv.int_inv
  refine P.iadd_int (vh (s:={ s3 with toks:=s3.toks+1 }) hy3.hr e3 hk (List.getElem?_eq_some_iff.mp hj).1 (.int _ _) λs' r' f'=>?_)
  have ff:Fwd s s':=((f1.trans f2).trans f3).trans (Fwd.trans (s₁:={ s3 with toks:=s3.toks+1 }) ⟨.refl _,rfl,rfl⟩ f')
  exact .mk .next m _ b .next r' (hs.hy.hf.mono ff.tk) hs.hl .refl ff q) ha⟩
theorem Sn.dict0 {Q:QE}{pos:Pos}(h:∀a,G a=Option.none->Q (.ref a) (G.upd a (.dict []))):Sn X n sc (.Dict [] [] pos) m G Q:=⟨λ{env A b s} hy=>by
 refine wpAny_Dict_empty ?_
 have hn:=zm (h:=s.heap) (Nat.le_refl _)
 have kp:∀a o,s.heap.get? a=some o->(s.heap.push { cls:=.type "dict",data:=.dict #[] }).get? a=some o:=λa o e=>Heap.get?_push_of_some _ e
 exact .mk (.ref _) _ (.ref _) (hy.hr.alloc (g:=.dict []) kp hn (hlow hy.hb hy.hr) ⟨Nat.zero_le _,[],Heap.DictOf.new _,.nil⟩ rfl) ⟨.of_keep kp,rfl,rfl⟩ (h _ (hy.hr.noG hn))⟩
theorem zAw {M:Model}{E:Value->Shared->Prop}{a:Addr}{o:Obj}{vs:Array Value}{Q:Bool->Shared->Prop}(hc:env.code=.ref a)(ho:s.heap.get? a=some o)(hd:o.data=.fields vs)(h:∀r,Q r s):wpAny M A (inMainModule env) Q E s:=by
 unfold inMainModule
 rw[hc]
 show wpAny M A (fieldsOf (.ref a) >>= _) Q E s
 refine wpAny_bind (wpAny_fieldsOf ho hd ?_)
 split
 ·exact wpAny_bind (wpAny_askSetting (wpAny_pure (h _)))
 ·exact wpAny_pure (h _)
theorem zAv {M:Model}{E:Value->Shared->Prop}{Q:Value->Shared->Prop}(h:∀led:Bool,Q (.ref s.heap.objs.size) { s with heap:=s.heap.push { cls:=.type "set",dict:=Option.none,data:=.set #[] 0 (.fresh 0 0 led) } }):wpAny M A (newSet (.type "set")) Q E s:=by
 unfold newSet setsByText
 refine wpAny_bind (wpAny_bind (wpAny_askSetting (wpAny_pure ?_)))
 exact wpAny_newObj_type (h _) (by size_fits)
theorem Sn.set1 {Q:QE}{i:Int}{k:Nat}{p pos:Pos}(hi:0<=i/\i<32)(h:∀a,G a=Option.none->Q (.ref a) (G.upd a (.set (λj=>decide (j=i)) false))):Sn X n sc (.Set [.Constant (.int i) k p] 0 pos) m G Q:=⟨λ{env A b s} hy=>by
 obtain⟨ca,co,cvs,hc1,hc2,hc3⟩:=hy.he.code
 rw[arm_eval_Set]
 refine wpAny_bind (wpAny_standAt (wpAny_bind (zAw hc1 (hy.hb.kin hy.hr _ _ hc2) hc3 λr=>?_)))
 have e0:displayRoad 0 [Expr.Constant (.int i) k p]=.oneByOne:=rfl
 rw[e0]
 unfold setDisplay
 rw[if_neg (by decide)]
 refine wpAny_bind (zAv λled=>?_)
 have hO:=uN (Q:=λv G'=>∃a,v=.ref a/\G a=Option.none/\G'=G.upd a (.set (λ_=>false) true)) (led:=led) hy.hb hy.hr λa ha=>⟨a,rfl,ha,rfl⟩
 cases hO with | mk v G1 hv hr1 f1 q=>
 obtain⟨a,rfl,ha,rfl⟩:=q
 have:a=s.heap.objs.size:=by cases hv;rfl
 subst this
 have e1:=Gh.upd_same G s.heap.objs.size (.set (λ_=>false) true)
 have e3:(starEach [Expr.Constant (.int i) k p] env).map (λ(x:Bool×Sem Value)=>(x.1,do let v <-x.2;standAt pos;pure v))=[(false,do let v <-eval (.Constant (.int i) k p) env;standAt pos;pure v)]:=rfl
 dsimp only
 rw[e3]
 generalize ht:(do let v <-eval (Expr.Constant (.int i) k p) env;standAt pos;pure v:Sem Value)=t
 simp only [List.length_cons,List.length_nil,List.findIdx?_cons,List.findIdx?_nil,Bool.false_eq_true,if_false,Option.map_none,Option.getD_none,Nat.zero_add,List.take_succ_cons,List.take_zero,List.drop_succ_cons,List.drop_zero,List.map_cons,List.map_nil,List.forIn_nil,gt_iff_lt,show ¬(30<1) by decide]
 refine wpAny_bind (wpAny_holding (wpAny_bind (wpAny_evalAll_cons ?_)))
 rw[<-ht]
 refine wpAny_bind (wpAny_Constant_int (wpAny_bind (wpAny_standAt (wpAny_pure (wpAny_evalAll_nil ?_)))))
 refine wpAny_bind (wpAny_holding (wpAny_bind ?_))
 rw[List.forIn_cons]
 refine wpAny_bind (wpAny_bind ?_)
 unfold setAdd
 refine wpAny_holding (wpAny_bind (wpAny_pyHash_int ?_))
 refine yR (X:=X) (s:=⟨_,_,_,_,_⟩) (hr1.own _ _ e1).2.1 hi λh' sb i'=>?_
 refine wpAny_pure (wpAny_pure ?_)
 rw[if_neg (by decide)]
 refine wpAny_pure (wpAny_bind (wpAny_pure (wpAny_pure (wpAny_pure ?_))))
 obtain⟨r',tk'⟩:=hr1.change (g':=.set _ false) e1 rfl rfl sb ⟨i',λq=>nomatch q⟩
 have e2:((G.upd s.heap.objs.size (.set (λ_=>false) true)).upd s.heap.objs.size (.set (λj=>false||decide (j=i)) false))=G.upd s.heap.objs.size (.set (λj=>decide (j=i)) false):=by
  funext z
  unfold Gh.upd
  split<;>rfl
 exact .mk (.ref _) _ (.ref _) r' ⟨f1.tk.trans tk',f1.g,f1.o⟩ (by rw[e2];exact h _ ha)⟩
end
end
noncomputable section
section
variable {X:Cx}{n:Nat}{sc:Scope}
noncomputable def putL (nm:Str)(h:Int)(key v:Value)(l:List DictEntry):List DictEntry:=List.rec [⟨h,key,v⟩] (λe l r=>bif e.key.isStr nm then { e with val:=v }::l else e::r) l
section
variable {nm g:Str}{h:Int}{key v:Value}{e:DictEntry}{l:List DictEntry}{tk:Tok}
theorem zBN (q:e.key.isStr nm=true):putL nm h key v (e::l)={ e with val:=v }::l:=by show cond _ _ _=_;rw[q];rfl
theorem zBP (q:e.key.isStr nm=false):putL nm h key v (e::l)=e::putL nm h key v l:=by show cond _ _ _=_;rw[q];rfl
noncomputable abbrev fnd (nm:Str)(l:List DictEntry):Option DictEntry:=l.find? λe=>e.key.isStr nm
theorem zFB (q:e.key.isStr nm=true):fnd nm (e::l)=some e:=List.find?_cons_of_pos q
theorem zCU (q:e.key.isStr nm=false):fnd nm (e::l)=fnd nm l:=List.find?_cons_of_neg (p:=λe:DictEntry=>e.key.isStr nm) (Bool.not_eq_true _▸q)
theorem zFv (l:List DictEntry):(putL nm h key v l).length=l.length+(if (fnd nm l).isSome then 0 else 1):=by
 induction l with
 | nil=>rfl
 | cons e l ih=>
  cases q:e.key.isStr nm with
  | true=>rw[zBN q,zFB q];rfl
  | false=>rw[zBP q,zCU q,List.length_cons,ih,List.length_cons,Nat.add_right_comm]
theorem zFu (l:List DictEntry):(putL nm h (.str nm tk) v l).any (·.refKey)=l.any (·.refKey):=by
 induction l with
 | nil=>rfl
 | cons e l ih=>
  cases q:e.key.isStr nm with
  | true=>rw[zBN q];rfl
  | false=>rw[zBP q,List.any_cons,ih,List.any_cons]
theorem zD9:(Value.str nm tk).isStr nm=true:=beq_self_eq_true nm
theorem vc (l:List DictEntry):∃e,fnd nm (putL nm h (.str nm tk) v l)=some e/\e.val=v:=by
 induction l with
 | nil=>exact⟨_,zFB zD9,rfl⟩
 | cons e l ih=>
  cases q:e.key.isStr nm with
  | true=>rw[zBN q];exact⟨{ e with val:=v },zFB q,rfl⟩
  | false=>rw[zBP q,zCU q];exact ih
theorem zEt {x:Value}{a b:Str}:x.isStr a=true->x.isStr b=true->a=b:=by
 cases x with
 | str s t=>exact λh1 h2=>(eq_of_beq (show (s == a)=true from h1)).symm.trans (eq_of_beq (show (s == b)=true from h2))
 | _=>exact λh=>Bool.noConfusion h
theorem zBO (hne:g≠nm)(l:List DictEntry):fnd g (putL nm h (.str nm tk) v l)=fnd g l:=by
 induction l with
 | nil=>exact zCU (beq_eq_false_iff_ne.mpr (Ne.symm hne))
 | cons e l ih=>
  cases q:e.key.isStr nm with
  | true=>
   have z:e.key.isStr g=false:=Bool.eq_false_iff.mpr λz=>hne (zEt z q)
   rw[zBN q,zCU z];exact zCU z
  | false=>
   rw[zBP q]
   cases z:e.key.isStr g with
   | true=>rw[zFB z,zFB z]
   | false=>rw[zCU z,zCU z,ih]
theorem zHY (l:List DictEntry):putL nm h key v l=match l.findIdx? (λe=>e.key.isStr nm) with
   | some i=>l.modify i λe=>{ e with val:=v }
   | none=>l++[⟨h,key,v⟩]:=by
 induction l with
 | nil=>rfl
 | cons e l ih=>
  rw[List.findIdx?_cons]
  cases q:e.key.isStr nm with
  | true=>exact zBN q
  | false=>
   rw[zBP q,ih]
   cases l.findIdx? (λe=>e.key.isStr nm)<;>rfl
end
theorem zFt {nm:Str}{h:Int}{key v:Value}{cc:Value}{d:Option Addr}{es:Array DictEntry}{k:Nat}{sl:Array (Option Value)}:∃k',Obj.putName nm h key v ⟨cc,d,.dict es k,sl⟩=⟨cc,d,.dict (putL nm h key v es.toList).toArray k',sl⟩:=by
 rw[Obj.putName_eq]
 obtain⟨l⟩:=es
 unfold Obj.putNameByArray
 dsimp only
 rw[zHY]
 rw[List.findIdx?_toArray]
 cases l.findIdx? (λe=>e.key.isStr nm) with
 | some i=>exact⟨k,by simp⟩
 | none=>exact⟨k+1,by simp⟩
theorem zAc {nm:Str}{h:Int}{tk:Tok}{v:Value}{es:Array DictEntry}{k:Nat}:lookIn nm ⟨.type "dict",none,.dict (putL nm h (.str nm tk) v es.toList).toArray k,#[]⟩=some (some v):=by
 obtain⟨e,h1,h2⟩:=vc (nm:=nm) (h:=h) (tk:=tk) (v:=v) es.toList
 unfold lookIn
 dsimp only
 rw[show List.find? (λx=>x.key.isStr nm) (putL nm h (Value.str nm tk) v es.toList)=some e from h1]
 exact congrArg (λx=>some (some x)) h2
theorem zCN {nm g:Str}{h:Int}{tk:Tok}{v:Value}{es:Array DictEntry}{k k':Nat}(hne:g≠nm):lookIn g ⟨.type "dict",none,.dict (putL nm h (.str nm tk) v es.toList).toArray k,#[]⟩=lookIn g ⟨.type "dict",none,.dict es k',#[]⟩:=by
 unfold lookIn
 dsimp only
 rw[show List.find? (λx=>x.key.isStr g) (putL nm h (Value.str nm tk) v es.toList)=List.find? (λx=>x.key.isStr g) es.toList from zBO hne es.toList,zFu]
theorem Rep.put_field {b:Bs}{G:Gh}{h h':Heap}{a d:Addr}{k:Cls}{fs fs':Fld->Option Val}{ox od:Obj}(r:Rep X b G h)(e:G a=some (.inst k fs))(hox:h.get? a=some ox)(hd:ox.dict=some d)(hod:h.get? d=some od)(ht:¬IsT od)(hs:Heap.SameBut d h h')(i':Is X h' a (.inst k fs')) :
  Rep X b (G.upd a (.inst k fs')) h'/\TK h h':=by
 have tk:TK h h':=.sameButT hs hod ht
 obtain⟨d1,d2,d3⟩:=r.dsep a k fs ox d e hox hd
 have nG:∀x g,G x=some g->x≠d:=λx g e' q=>by rw[q,d2] at e';cases e'
 have had:a≠d:=nG a _ e
 have key:∀{y c0 f0 o},G.upd a (.inst k fs') y=some (.inst c0 f0)->h'.get? y=some o->∃c1 f1,G y=some (.inst c1 f1)/\h.get? y=some o:=λ{y c0 f0 o} q1 q2=>by
  by_cases q:y=a
  ·subst q;exact⟨k,fs,e,(hs.2 _ had).symm.trans q2⟩
  ·rw[Gh.upd_ne _ _ q] at q1;exact⟨c0,f0,q1,(hs.2 y (nG y _ q1)).symm.trans q2⟩
 refine⟨⟨λx o ex=>(hs.2 x λq=>by rw[q,d1] at ex;cases ex).trans (r.keep _ _ ex),λx g ex=>?_,λx g ex=>?_,λx c' fs0 o dd ex e1 e2=>?_⟩,tk⟩
 ·by_cases q:x=a
  ·rw[q];exact r.low a _ e
  ·rw[Gh.upd_ne _ _ q] at ex;exact r.low x g ex
 ·by_cases q:x=a
  ·subst q;rw[Gh.upd_same] at ex;cases ex;exact⟨(r.own _ _ e).1,i'⟩
  ·rw[Gh.upd_ne _ _ q] at ex
   refine⟨(r.own x g ex).1,(r.own x g ex).2.move tk (λo eo=>(hs.2 x (nG x g ex)).trans eo) λo dd eo ed od' eod=>(hs.2 dd ?_).trans eod⟩
   obtain⟨o2,eo2,_,ed2⟩:=(r.own x g ex).2.obj
   rw[eo2] at eo;cases eo
   revert ed2
   cases g with
   | inst c' fs0=>exact λ_ q'=>q (d3 x _ _ _ ex eo2 (q'▸ed))
   | _=>intro ed2;rw[ed2 rfl] at ed;cases ed
 ·obtain⟨c1,f1,g1,g2⟩:=key ex e1
  obtain⟨p1,p2,p3⟩:=r.dsep x c1 f1 o dd g1 g2 e2
  refine⟨p1,(Gh.upd_ne _ _ λq=>by rw[q,e] at p2;cases p2).trans p2,λy c2 f2 o2 q1 q2 q3=>?_⟩
  obtain⟨c3,f3,g3,g4⟩:=key q1 q2
  exact p3 y c3 f3 o2 g3 g4 q3
theorem zCO {es:Array DictEntry}{nn:Nat}{x:Str}(h:∃w,lookIn x ⟨.type "dict",none,.dict es nn,#[]⟩=some w):(!es.any (·.key.isStr x)&&es.any (·.refKey))=false/\(∀w,lookIn x ⟨.type "dict",none,.dict es nn,#[]⟩=some w->(es.toList.find? λe=>e.key.isStr x).isSome=w.isSome):=by
 obtain⟨w,h⟩:=h
 unfold lookIn at h ⊢
 dsimp only at h ⊢
 rw[<-Array.any_toList,<-Array.any_toList]
 split at h
 ·rename_i en he
  rw[List.any_eq_true.mpr ⟨en,List.mem_of_find?_eq_some he,List.find?_some he⟩]
  exact⟨rfl,λw hw=>by cases hw;rw[he];rfl⟩
 ·rename_i hnone
  split at h
  ·cases h
  ·rename_i z
   rw[Bool.not_eq_true] at z
   rw[z,Bool.and_false]
   exact⟨rfl,λw hw=>by rw[hnone];cases hw;rfl⟩
theorem zH5 {A:Around}{b:Bs}{G:Gh}{s:Shared}{a:Addr}{k:Cls}{fs:Fld->Option Val}{f:Fld}{v:Val}{y:Value}{tk0:Tok}{R:Result->Shared->Prop}(hc:Z5 X)(hb:Base X b)(hr:Rep X b G s.heap)(e:G a=some (.inst k fs))(hv:VR s.heap v y)
  (h:∀h' tk,Rep X b (G.upd a (.inst k λg=>if g=f then some v else fs g)) h'->TK s.heap h'->R (.ok (.ret .none)) { s with heap:=h',toks:=tk }) :
  codeAny (model X.prog X.w) A (.call (.builtin "object.__setattr__") ⟨[.ref a,.str f.txt tk0,y],[]⟩) R s:=by
 obtain⟨d,es,nn,h1,h2,h3,h4⟩:=(hr.own _ _ e).2
 have hk:=hb.kin hr
 have I0:InstAt s.heap a ⟨.ref (X.cA k),some d,.plain,#[]⟩ (X.cA k) (some ⟨.type "dict",none,.dict es nn,#[]⟩):=⟨h1,rfl,rfl,h2⟩
 have hz:es.size<=16:=Nat.le_trans h3 (zIK fs)
 have ht:takerIn X.K (X.cA k) f.txt=some none:=by unfold takerIn;rw[hc.no k f];rfl
 have hl:∃w:Option Value,lookIn f.txt ⟨.type "dict",none,.dict es nn,#[]⟩=some w/\w.isSome=(fs f).isSome:=by
  cases q:fs f with
  | none=>exact⟨_,(h4 f).2 q,rfl⟩
  | some w=>obtain⟨z,hz,_⟩:=(h4 f).1 w q;exact⟨_,hz,rfl⟩
 obtain⟨w0,hl,hw0⟩:=hl
 obtain⟨cc,hfind⟩:=zCO ⟨_,hl⟩
 have hfind:=(hfind _ hl).trans hw0
 refine osa_open hk I0 (hc.over k) ht λbb=>?_
 obtain⟨cd,hcd,hd'⟩:=any_some (show (clsIn X.K (X.cA k)).any (·.hasDict)=true from hc.has k)
 refine wpAny_bind (wpAny_pure (wpAny_bind (wpAny_bind (wpAny_loadPart h1 (wpAny_bind ((looks_clsIn hk hcd).here ?_))))))
 rw[hd']
 refine wpAny_pure (a:=some d) (wpAny_bind (wpAny_pure (wpAny_bind ?_)))
 unfold nsSet
 refine wpAny_bind (wpAny_bind (wpAny_askSetting (wpAny_pure (wpAny_bind (wpAny_mkText (wpAny_bind (wpAny_loadPart h2 ?_)))))))
 dsimp only
 rw[aRefKeyMayBeTheName_at,cc]
 refine wpAny_updatePart h2 ?_
 generalize (if f.txt.cps.isEmpty=true then 0 else reduceHash ((model X.prog X.w).w.params.strHash f.txt.cps))=kh
 obtain⟨k',hput⟩:=@zFt f.txt kh (.str f.txt s.toks) y (.type "dict") none es nn #[]
 have hlen:=zFv (nm:=f.txt) (h:=kh) (key:=.str f.txt s.toks) (v:=y) es.toList
 rw[show es.toList.length=es.size from Array.length_toList,hfind] at hlen
 have D':(s.heap.update d (Obj.putName f.txt kh (.str f.txt s.toks) y)).get? d=some ⟨.type "dict",none,.dict (putL f.txt kh (.str f.txt s.toks) y es.toList).toArray k',#[]⟩:=by
  have:=Heap.get?_update_self (Obj.putName f.txt kh (.str f.txt s.toks) y) h2 (by rw[hput];rfl)
  rw[hput] at this;exact this
 have sb:Heap.SameBut d s.heap (s.heap.update d (Obj.putName f.txt kh (.str f.txt s.toks) y)):=wL
 show wpAny _ _ _ _ _ { s with heap:=s.heap.update d (Obj.putName f.txt kh (.str f.txt s.toks) y),toks:=s.toks+1 }
 generalize s.heap.update d (Obj.putName f.txt kh (.str f.txt s.toks) y)=h9 at D' sb ⊢
 refine wpAny_bind (wpAny_lookBehind D' (pastItsLine_dict (by rw[List.size_toArray,sizeLine_eq];split at hlen<;>lia)) ?_)
 refine wpAny_pure ?_
 have tk:TK s.heap h9:=.sameButT sb h2 (yg rfl)
 have had:a≠d:=λq=>by
  have:=(hr.dsep a k fs _ d e h1 rfl).2.1
  rw[<-q,e] at this;cases this
 have i':Is X h9 a (.inst k λg=>if g=f then some v else fs g):=by
  refine⟨d,_,k',(sb.2 a had).trans h1,D',?_,λg=>?_⟩
  ·rw[List.size_toArray,hlen,zG2]
   exact Nat.add_le_add_right h3 _
  ·by_cases hg:g=f
   ·subst hg
    dsimp only
    rw[if_pos rfl]
    exact⟨λw e=>by cases e;exact⟨y,zAc,hv.mono tk⟩,λq=>nomatch q⟩
   ·dsimp only
    rw[if_neg hg,zCN (k':=nn) λq=>hg (Fld.txt_inj _ _ q)]
    exact⟨λw e=>by obtain⟨z,hz,hw⟩:=(h4 g).1 w e;exact⟨z,hz,hw.mono tk⟩,(h4 g).2⟩
 obtain⟨r',_⟩:=hr.put_field e h1 rfl h2 (yg rfl) sb i'
 exact h _ _ r' tk
theorem SnS.setAttr {Q:QS}{m:M}{G:Gh}{o e:Expr}{attr:Str}{p pos:Pos}(hc:Z5 X)(f:Fld)(ha:attr=f.txt)(h:Sn X n sc e m G λv G1=>Sn X n sc o m G1 λu G2=>∃a k fs,u=.ref a/\G2 a=some (.inst k fs)/\Q .next m (G2.upd a (.inst k λg=>if g=f then some v else fs g)))
  (hsw:∀env,swapsWith e (some (.Attribute o attr p)) pos.line env=pure false:=by intro _;rfl):SnS X n sc (.Assign [.Attribute o attr p] e pos) m G Q:=⟨λ{env A b s} hs=>by
 subst ha
 refine plainObj_wpAny_Assign_Attribute (h.two hs.hy λx y s2 v w G2 hv hw hy2 f2 h₂=>?_) (hsw env)
 obtain⟨a,k,fs,rfl,e,q⟩:=h₂
 rw[hw.ref_inv]
 have hr:=hy2.hr
 obtain⟨d,es,nn,h1,h2,h3,h4⟩:=(hr.own _ _ e).2
 have I0:InstAt s2.heap a ⟨.ref (X.cA k),some d,.plain,#[]⟩ (X.cA k) (some ⟨.type "dict",none,.dict es nn,#[]⟩):=⟨h1,rfl,rfl,h2⟩
 refine set_plain (hy2.hb.kin hr) I0 (hc.setA k) (zH5 (s:={ s2 with toks:=s2.toks+1 }) hc hy2.hb hr e hv λh' tk r' t=>?_)
 have ff:Fwd s { s2 with heap:=h',toks:=tk }:=f2.trans ⟨t,rfl,rfl⟩
 exact .mk .next m _ b .next r' (hs.hy.hf.mono ff.tk) hs.hl .refl ff q⟩
end
end
noncomputable section
section
variable {X:Cx}{n:Nat}{sc:Scope}{env:Env}{A:Around}{b:Bs}{m:M}{G:Gh}{s:Shared}{e:Expr}{loc:Bool}
theorem zDg {K:Frag}{q:Str}{R:Value->Prop}(k:∀c o vs,K.lookup c=some o->o.data=.fields vs->R (.ref c)){cd:Value}:codeIn K cd q=true->R cd:=by
 cases cd with
 | ref c=>
  have k:=k c
  revert k
  generalize R (.ref c)=R'
  intro k h
  unfold codeIn at h
  dsimp only at h
  revert h k
  cases K.lookup c with
  | none=>exact λ_ h=>Bool.noConfusion h
  | some o=>
   cases o with | mk c1 d dt sl=>
   cases dt with
   | fields vs=>exact λk _=>k _ vs rfl rfl
   | _=>exact λ_ h=>Bool.noConfusion h
 | _=>exact λh=>Bool.noConfusion h
structure Zi (X:Cx)(a:Addr)(ps:List Str)(scope:Scope)(body:List Stmt):Prop where
 obj:∃o fd,X.K.lookup a=some o/\o.data=.func fd/\fd.body=.stmts body/\fd.scope=scope/\fd.closure=[]/\fd.globals=mainGlobals/\fd.builtins=builtinsNs/\codeIn X.K fd.code fd.qualname=true /\
  ∀ys:List Value,ys.length=ps.length->bindArgs fd ⟨ys,[]⟩=pure (ps.zip ys)
 co:scope.isCoroutine=false
 gen:scope.isGenerator=false
 kind:scope.kind=.function
 par:∀p∈ps,Z6 false scope p
 nd:ps.Nodup
 ok:scOK scope=true
theorem zFU {x:Str}:∀(names:List (Str×NameKind)) (k:Nat) (acc:List (Str×Addr)),((x,NameKind.cell)∈names\/∃ca,(x,ca)∈acc)->∃ca,(x,ca)∈cellsFrom k names acc:=by
 intro names
 induction names with
 | nil=>intro k acc h;exact h.elim (λq=>nomatch q) id
 | cons p names ih=>
  intro k acc h
  obtain⟨y,ky⟩:=p
  unfold cellsFrom
  split
  ·rename_i q
   refine ih _ _ ?_
   rcases h with h | ⟨ca,h⟩
   ·rcases List.mem_cons.mp h with e | h
    ·cases e;exact .inr ⟨k,.head _⟩
    ·exact .inl h
   ·exact .inr ⟨ca,.tail _ h⟩
  ·rename_i q
   refine ih _ _ (h.imp (λh=>?_) id)
   rcases List.mem_cons.mp h with e | h
   ·cases e;exact absurd rfl q
   ·exact h
theorem zCM {α:Type}{x:Str}{a:α}{l:List (Str×α)}(h:(x,a)∈l):∃b,l.lookup x=some b:=by
 induction l with
 | nil=>cases h
 | cons p l ih=>
  rw[List.lookup_cons]
  split
  ·exact⟨p.2,rfl⟩
  ·rename_i q
   rcases List.mem_cons.mp h with e | h
   ·subst e;rw[beq_self_eq_true] at q;cases q
   ·exact ih h
theorem u4 {x:Str}{names:List (Str×NameKind)}{k:Nat}(h:names.lookup x=some .cell):∃ca,(cellsFrom k names []).lookup x=some ca:=by
 obtain⟨ca,hm⟩:=zFU names k [] (.inl (zR h))
 exact zCM hm
theorem zFw {α β:Type}{x y:α}{b:β}{l:List (α×β)}(hp:l.Pairwise (λp q=>p.2≠q.2))(h1:(x,b)∈l)(h2:(y,b)∈l):y=x:=by
 induction l with
 | nil=>cases h1
 | cons p l ih=>
  obtain⟨q1,q2⟩:=List.pairwise_cons.mp hp
  rcases List.mem_cons.mp h1 with e1 | h1<;>rcases List.mem_cons.mp h2 with e2 | h2
  ·rw[<-e1] at e2;cases e2;rfl
  ·exact absurd rfl (by have:=q1 _ h2;rw[<-e1] at this;exact this)
  ·exact absurd rfl (by have:=q1 _ h1;rw[<-e2] at this;exact this)
  ·exact ih q2 h1 h2
theorem zG7 {kd:Str->Option NameKind}{x:Str}{y:Value}{l:List (Str×Value)}(hn:(l.map (·.1)).Nodup):∀{mm cm:Str->Option Value},
  ((x,y)∈l\/(x∉l.map (·.1)/\(kd x=some .local->mm x=some y)/\(kd x≠some .local->cm x=some y)))->(kd x=some .local->bindL kd l mm x=some y)/\(kd x≠some .local->bindC kd l cm x=some y):=by
 induction l with
 | nil=>intro mm cm h;exact(h.resolve_left λq=>nomatch q).2
 | cons p l ih=>
  intro mm cm h
  obtain⟨n1,n2⟩:=List.nodup_cons.mp hn
  obtain⟨z,u⟩:=p
  unfold bindL bindC
  refine ih n2 ?_
  rcases h with h | ⟨h0,h1,h2⟩
  ·rcases List.mem_cons.mp h with e | h
   ·cases e
    refine .inr ⟨n1,λhk=>?_,λhk=>?_⟩
    ·rw[if_pos hk];exact if_pos rfl
    ·rw[if_neg hk];exact if_pos rfl
   ·exact .inl h
  ·have hne:x≠z:=λq=>h0 (by rw[q];exact .head _)
   refine .inr ⟨λq=>h0 (.tail _ q),λhk=>?_,λhk=>?_⟩
   ·split
    ·exact(if_neg hne).trans (h1 hk)
    ·exact h1 hk
   ·split
    ·exact h2 hk
    ·exact(if_neg hne).trans (h2 hk)
theorem zF8 {h:Heap}{x:Str}{v:Val}{ps:List Str}{vs:List Val}{ys:List Value}(r:VRs h vs ys)(hx:(x,v)∈ps.zip vs):∃y,(x,y)∈ps.zip ys/\VR h v y:=by
 obtain⟨i,hi⟩:=List.mem_iff_getElem?.mp hx
 rw[List.getElem?_zip_eq_some] at hi
 obtain⟨y,e,q⟩:=r.get hi.2
 exact⟨y,List.mem_of_getElem? (i:=i) (List.getElem?_zip_eq_some.mpr ⟨hi.1,e⟩),q⟩
structure AOc (A:Around)(n:Nat):Prop where
 hd:A.handled=none
 dep:A.depth+3 * n+19<=recursionLimit
 uni:A.units+30 * n+290<=cLine
theorem AOk.call (h:AOk A n):AOc A n:=⟨h.hd,Nat.le_trans (Nat.add_le_add_left (by decide) _) h.dep,Nat.le_trans (Nat.add_le_add_left (by decide) _) h.uni⟩
theorem AOc.deeper (h:AOc A (n+1)){env:Env}:AOk (A.deeper env) n:=⟨h.hd,by have:=h.dep;show A.depth+1+3 * n+20<=_;lia,by have:=h.uni;show A.units+3+30 * n+300<=_;lia⟩
theorem AOk.new {C:Addr}{ys:List Value}{kw:List (Str×Value)}(h:AOk A n):AOc (A.under (.builtin "type.__call__" ⟨.ref C::ys,kw⟩)) n:=
 ⟨h.hd,by have:=h.dep;rw[depth_under_kw];lia,by have:=h.uni;have e:(A.under (.builtin "type.__call__" ⟨.ref C::ys,kw⟩)).units<=A.units+10:=(Nat.add_le_add_left (by decide +kernel:(Code.builtin "type.__call__" ⟨[],[]⟩).cUnits<=10) A.units);lia⟩
structure Cal (X:Cx)(n:Nat)(f:Addr)(vs:List Val)(G:Gh)(Q:QE):Prop where
 go:∀{A:Around} {b:Bs} {s:Shared} {ys:List Value} {R:Result->Shared->Prop},AOc A n->Base X b->Rep X b G s.heap->VRs s.heap vs ys->(∀v s',Out X b s Q v s'->R (.ok (.ret v)) s') ->
  codeAny (model X.prog X.w) A (.call (.ref f) ⟨ys,[]⟩) R s
inductive Back (Q:QE):Fl->M->Gh->Prop where
 | ret {v:Val} {m:M} {G:Gh} (h:Q v G):Back Q (.ret v) m G
 | next {m:M} {G:Gh} (h:Q .none G):Back Q .next m G
theorem zGW {a:Addr}{fd:FuncData}{ps:List Str}{h':Heap}{vs:List Val}{ys:List Value}(hb:Base X b)(hr:Rep X b G s.heap)(hv:VRs s.heap vs ys)(hl:ps.length=ys.length)(hnd:ps.Nodup)(hpar:∀p∈ps,Z6 false fd.scope p)
  (he:Zr X fd.scope (callEnvC fd s.heap.objs.size a)) (kp:∀x o,s.heap.get? x=some o->h'.get? x=some o) (hm:∀x v,m x v->(x,v)∈ps.zip vs)
  (hns:h'.Ns s.heap.objs.size (bindL (callEnvC fd s.heap.objs.size a).kindOf (ps.zip ys) λ_=>none))
  (hcell:∀x c,(callEnvC fd s.heap.objs.size a).cells.lookup x=some c->h'.IsCell c (bindC (callEnvC fd s.heap.objs.size a).kindOf (ps.zip ys) (λ_=>none) x))
  (hap:(callEnvC fd s.heap.objs.size a).cells.Pairwise λx y=>x.2≠y.2) (hab:∀x c,(x,c)∈(callEnvC fd s.heap.objs.size a).cells->s.heap.objs.size<c) :
  ∃b1,(∀x o,s.heap.objs.size<=x->h'.get? x=some o->b1 x=some o)/\kept b b1/\Rep X b1 G h'/\TK s.heap h'/\Lay X false (callEnvC fd s.heap.objs.size a) b1/\Frm (callEnvC fd s.heap.objs.size a) b1 h' m:=by
 have hloc:(callEnvC fd s.heap.objs.size a).locals=s.heap.objs.size:=rfl
 generalize callEnvC fd s.heap.objs.size a=env at *
 generalize hL:s.heap.objs.size=L at *
 have gn:∀x,L<=x->s.heap.get? x=none:=λx hx=>zm (by rw[hL];exact hx)
 have hb1:∀x o,L<=x->h'.get? x=some o->(λx=>if L<=x then h'.get? x else b x) x=some o:=λx o hx e=>(if_pos hx).trans e
 have hb0:kept b (λx=>if L<=x then h'.get? x else b x):=λx o e=>(if_neg (λhx=>by rw[hr.noB (gn x hx)] at e;cases e)).trans e
 generalize (λx=>if L<=x then h'.get? x else b x)=b1 at hb1 hb0
 refine⟨λx=>if L<=x then h'.get? x else b x,λx o hx e=>(if_pos hx).trans e,λx o e=>(if_neg (λhx=>by rw[hr.noB (gn x hx)] at e;cases e)).trans e,?_⟩
 have split1:∀x o,(if L<=x then h'.get? x else b x)=some o->(L<=x/\h'.get? x=some o)\/b x=some o:=λx o e=>by
  by_cases hx:L<=x
  ·rw[if_pos hx] at e;exact .inl ⟨hx,e⟩
  ·rw[if_neg hx] at e;exact .inr e
 have up:∀x o,L<=x->h'.get? x=some o->(if L<=x then h'.get? x else b x)=some o:=λx o hx e=>(if_pos hx).trans e
 obtain⟨r1,tk1⟩:=hr.step (W:=λ_=>False) (b':=λx=>if L<=x then h'.get? x else b x) (h':=h') (λ_ f=>f.elim) (λx o _ e=>kp x o e)
  (λx o e=>(split1 x o e).elim (λq=>q.2) λq=>kp x o (hr.keep _ _ q)) λx o e=>(split1 x o e).elim (λq=>.inr (.inl (gn x q.1))) λq=>.inl (by rw[q];rfl)
 have H0n:∀x,L<=x->X.H0.get? x=none:=λx hx=>by
  cases q:X.H0.get? x with
  | none=>rfl
  | some o=>rw[<-gn x hx,hb.kp hr _ _ q]
 obtain⟨oL,esL,epL,hoL,hdL,hsL,hnL⟩:=hns
 have lloc:=up _ _ (Nat.le_refl L) hoL
 refine⟨r1,tk1,⟨⟨oL,esL,epL,by rw[hloc];exact lloc,hdL,hsL⟩,by rw[hloc];exact H0n _ (Nat.le_refl _),λ_ x hx=>?_⟩,λx v hx=>?_⟩
 ·obtain⟨ca,hca⟩:=he.cel x ((he.kindOf x).symm.trans hx)
  obtain⟨o',ho',hd'⟩:=hcell x ca hca
  have hlt:=hab x ca (zR hca)
  exact⟨ca,o',_,hca,up _ _ (Nat.le_of_lt hlt) ho',hd',H0n _ (Nat.le_of_lt hlt),by rw[hloc];exact Nat.ne_of_gt hlt,λy hy=>zFw hap (zR hca) (zR hy)⟩
 ·obtain⟨y,hy,hvy⟩:=zF8 hv (hm x v hx)
  have hpx:=(List.of_mem_zip hy).1
  have hmap:(ps.zip ys).map (·.1)=ps:=List.map_fst_zip (Nat.le_of_eq hl)
  obtain⟨h2,h3⟩:=zG7 (kd:=env.kindOf) (mm:=λ_=>none) (cm:=λ_=>none) (by rw[hmap];exact hnd) (.inl hy)
  refine⟨y,hvy.mono tk1,?_⟩
  rcases hpar x hpx with q | ⟨_,q⟩
  ·have q':=(he.kindOf x).trans (zI (scOK.nd he.ok) q)
   exact .inl ⟨q',oL,esL,epL,by rw[hloc];exact lloc,hdL,hsL,(hnL _).trans (h2 q')⟩
  ·have q':=(he.kindOf x).trans (zI (scOK.nd he.ok) q)
   obtain⟨ca,hca⟩:=he.cel _ ((he.kindOf x).symm.trans q')
   obtain⟨o',ho',hd'⟩:=hcell x ca hca
   exact .inr ⟨.inl q',ca,o',hca,up _ _ (Nat.le_of_lt (hab x ca (zR hca))) ho',by rw[hd',h3 (by rw[q'];exact λe=>nomatch e)]⟩
theorem Cal.def_ {Q:QE}{f:Addr}{ps:List Str}{scope:Scope}{body:List Stmt}{vs:List Val}(D:Zi X f ps scope body)(hl:ps.length=vs.length)(m:M)(hm:∀x v,m x v->(x,v)∈ps.zip vs)(h:SnB X n scope body m G (Back Q)):Cal X (n+1) f vs G Q:=⟨λ{A b s ys R} hA hb hr hv hR=>by
 obtain⟨o,fd,hK,hdat,hbody,hsc,hclo,hgl,hbl,hcd,hbind⟩:=D.obj
 have hk:=hb.kin hr
 have hlen:ps.length=ys.length:=hl.trans hv.length
 subst hsc
 refine codeAny_call_cells (by have:=hA.dep;lia) (hk _ _ hK) hdat (X.lim.keeps (hb.kp hr)) (codeRec_of hk hcd) hbody (hbind ys hlen.symm) hclo (λx hx=>?_) (λs₁ hc=>?_) D.co D.gen D.kind
 ·rcases D.par x.1 (List.of_mem_zip hx).1 with q | ⟨_,q⟩
  ·exact .inl (zI (scOK.nd D.ok) q)
  ·have q':=zI (scOK.nd D.ok) q
   obtain⟨ca,hca⟩:=u4 (k:=s.heap.objs.size+1) q'
   exact .inr ⟨q',by rw[hca];rfl⟩
 ·obtain⟨h',tk,rfl,kp⟩:=hc.done
  have he:Zr X fd.scope (callEnvC fd s.heap.objs.size f):=by
   refine⟨rfl,D.kind,hgl,hbl,λx hx=>u4 hx,?_,D.ok⟩
   exact zDg (R:=λcd=>∃a o vs,cd=Value.ref a/\List.lookup a X.K=some o/\o.data=Data.fields vs) (λc o vs h1 h2=>⟨c,o,vs,rfl,h1,h2⟩) hcd
  obtain⟨b1,up,hb0,r1,tk1,hlay,hfrm⟩:=zGW (a:=f) hb hr hv hlen D.nd D.par he kp hm hc.toInCall.ns (λx c e=>hc.cell x c e) hc.apart λx c e=>hc.above x c e
  have hys:HyS X n fd.scope (callEnvC fd s.heap.objs.size f) (A.deeper (callEnvC fd s.heap.objs.size f)) b1 m G { s with heap:=h',toks:=tk }:=⟨⟨he,hA.deeper,λx o e=>hb0 x o (hb x o e),r1,hfrm⟩,hlay⟩
  refine zN (h.go hys) λfl s' o=>?_
  cases o with | mk mf m' G' b' hfl hr' hf' hl' ag f' hq=>
  have back:∀x o,b x=some o->b' x=some o:=λx ox ex=>ag x ox (hb0 _ _ ex) λw=>by
   have hx:x<s.heap.objs.size:=Heap.lt_size (hr.keep _ _ ex)
   rcases w with w | ⟨_,z,_,w⟩
   ·rw[w] at hx;exact Nat.lt_irrefl _ hx
   ·exact absurd (Nat.lt_trans hx (hc.above z x (zR w))) (Nat.lt_irrefl _)
  have ff:Fwd s s':=Fwd.trans (s₁:={ s with heap:=h',toks:=tk }) ⟨tk1,rfl,rfl⟩ f'
  cases hq with
  | ret q=>cases hfl with | ret hvy=>exact hR _ _ (.mk _ G' hvy (hr'.less back) ff q)
  | next q=>cases hfl;exact hR _ _ (.mk _ G' .none (hr'.less back) ff q)⟩
structure Zc (X:Cx)(id:Str)(f:Addr):Prop where
 mg:X.mg id=some (.ref f)
 keep:keepIn X.K (.ref f)=true
theorem Sn.call {Q:QE}{id:Str}{f:Addr}{es:List Expr}{p pos:Pos}(hd:Zc X id f)(hk:Ze sc id)(hn:Zj es)(h:SnEs X n sc es m G λvs G1=>Cal X n f vs G1 Q):Sn X n sc (.Call (.Name id p) es [] pos) m G Q:=⟨λhy=>by
 refine PyProof.Rows.Call_ (wpAny_Name (vH hy.he hy.hb hy.hr hk hd.mg ?_) (hk.dbg hy.he))
 refine callWith_of (first:=[]) (keywords:=[]) (by rw[hn.any];rfl) (keeps_K hd.keep) (yF hn h hy λys s₁ vs G1 hv hy1 f1 h1=>?_)
 exact⟨hy1.hb.kin hy1.hr,wpAny_call (h1.go hy1.hA.call hy1.hb hy1.hr hv λv s' q=>q.next f1)⟩⟩
structure Z0 (X:Cx)(id:Str)(k:Cls)(fi:Addr):Prop where
 mg:X.mg id=some (.ref (X.cA k))
 keep:keepIn X.K (.ref (X.cA k))=true
 init:findIn X.K (.ref (X.cA k)) "__init__" = some (some (.ref fi))
 fn:typeIn X.K (.ref fi)=some (.type "function")
theorem Rep.inst {h:Heap}{k:Cls}(hb:Base X b)(r:Rep X b G h):G (h.objs.size+1)=none/\Rep X b (G.upd (h.objs.size+1) (.inst k λ_=>none)) ((h.push emptyDict).push (instObj (X.cA k) h.objs.size)) /\
  ∀a o,h.get? a=some o->((h.push emptyDict).push (instObj (X.cA k) h.objs.size)).get? a=some o:=by
 have hz:(h.push emptyDict).objs.size=h.objs.size+1:=Heap.size_push ..
 have kp:∀a o,h.get? a=some o->((h.push emptyDict).push (instObj (X.cA k) h.objs.size)).get? a=some o:=λa o e=>Heap.get?_push_of_some _ (Heap.get?_push_of_some _ e)
 have g1:((h.push emptyDict).push (instObj (X.cA k) h.objs.size)).get? (h.objs.size+1)=some (instObj (X.cA k) h.objs.size):=by
  have:=Heap.get?_push_size (h.push emptyDict) (o:=instObj (X.cA k) h.objs.size) rfl
  rw[hz] at this;exact this
 have g0:((h.push emptyDict).push (instObj (X.cA k) h.objs.size)).get? h.objs.size=some emptyDict:=Heap.get?_push_of_some _ (Heap.get?_push_size _ rfl)
 have n0:h.get? h.objs.size=none:=zm (Nat.le_refl _)
 have n1:h.get? (h.objs.size+1)=none:=zm (Nat.le_succ _)
 generalize (h.push emptyDict).push (instObj (X.cA k) h.objs.size)=h2 at *
 have hl:h.objs.size+1≠sysModules:=λq=>by
  obtain⟨mc,⟨o,es,ep,ho,_⟩,_⟩:=X.lim
  have:(2:Nat)<h.objs.size:=Heap.lt_size (hb.kp r _ _ ho)
  have q':h.objs.size+1=1:=q
  lia
 have r':=r.mono kp
 have dne:∀x c fs o d,G x=some (.inst c fs)->h2.get? x=some o->o.dict=some d->h.get? x=some o/\d≠h.objs.size/\d≠h.objs.size+1:=λx c fs o d e e1 e2=>by
  obtain⟨d0,es0,nn0,f1,f2,_⟩:=(r.own _ _ e).2
  rw[kp _ _ f1] at e1;cases e1;cases e2
  exact⟨f1,(λq'=>by rw[q',n0] at f2;cases f2),(λq'=>by rw[q',n1] at f2;cases f2)⟩
 refine⟨r.noG n1,⟨r'.keep,λa g e=>?_,λa g e=>?_,λa c fs o d e e1 e2=>?_⟩,kp⟩
 ·by_cases q:a=h.objs.size+1
  ·rw[q];exact hl
  ·rw[Gh.upd_ne _ _ q] at e;exact r.low a g e
 ·by_cases q:a=h.objs.size+1
  ·subst q;rw[Gh.upd_same] at e;cases e
   exact⟨r.noB n1,h.objs.size,#[],0,g1,g0,Nat.zero_le _,λf=>⟨(λv e=>nomatch e),λ_=>rfl⟩⟩
  ·rw[Gh.upd_ne _ _ q] at e;exact r'.own a g e
 ·by_cases q:a=h.objs.size+1
  ·subst q
   rw[g1] at e1;cases e1;cases e2
   refine⟨r.noB n0,(Gh.upd_ne _ _ (Ne.symm (Nat.succ_ne_self _))).trans (r.noG n0),λa' c' fs' o' e' e1' e2'=>?_⟩
   by_cases q:a'=h.objs.size+1
   ·exact q
   ·rw[Gh.upd_ne _ _ q] at e'
    exact absurd rfl (dne a' _ _ o' _ e' e1' e2').2.1
  ·rw[Gh.upd_ne _ _ q] at e
   obtain⟨p1,p2,p3⟩:=r'.dsep a c fs o d e e1 e2
   refine⟨p1,(Gh.upd_ne _ _ (dne a _ _ o _ e e1 e2).2.2).trans p2,λa' c' fs' o' e' e1' e2'=>?_⟩
   by_cases q':a'=h.objs.size+1
   ·subst q'
    rw[g1] at e1';cases e1';cases e2'
    exact absurd rfl (dne a _ _ o _ e e1 e2).2.1
   ·rw[Gh.upd_ne _ _ q'] at e'
    exact p3 a' c' fs' o' e' e1' e2'
theorem Sn.new {Q:QE}{k:Cls}{fi:Addr}{id:Str}{es:List Expr}{p pos:Pos}(hc:Z0 X id k fi)(hco:Z5 X)(hk:Ze sc id)(hn:Zj es)
  (h:SnEs X n sc es m G λvs G1=>∀a,G1 a=Option.none->Cal X n fi (.ref a::vs) (G1.upd a (.inst k λ_=>Option.none)) λv G2=>v=.none/\Q (.ref a) G2):Sn X n sc (.Call (.Name id p) es [] pos) m G Q:=⟨λhy=>by
 refine PyProof.Rows.Call_ (wpAny_Name (vH hy.he hy.hb hy.hr hk hc.mg ?_) (hk.dbg hy.he))
 refine callWith_of (first:=[]) (keywords:=[]) (by rw[hn.any];rfl) (keeps_K hc.keep) (yF hn h hy λys s₁ vs G1 hv hy1 f1 h1=>?_)
 obtain⟨hh,gg,dd,tt,oo⟩:=s₁
 have hkk:=hy1.hb.kin hy1.hr
 obtain⟨hG,r',kp⟩:=Rep.inst (k:=k) hy1.hb hy1.hr
 refine⟨hkk,wpAny_call (make_core (makes_of hkk (hco.makes k)) (looks_findIn hkk hc.init) (λself=>bind_fn hkk self hc.fn) (.inl rfl) ?_)⟩
 refine(h1 _ hG).go hy1.hA.new hy1.hb r' (.cons (.ref _) (hv.mono (.of_keep kp))) ?_
 intro v s' o
 cases o with | mk u G' hu hr' f' q=>
 obtain⟨rfl,q⟩:=q
 rw[hu.none_inv]
 exact⟨rfl,.mk (.ref _) G' (.ref _) hr' (f1.trans (Fwd.trans (s₁:=⟨(hh.push emptyDict).push (instObj (X.cA k) hh.objs.size),gg,dd,tt,oo⟩) ⟨.of_keep kp,rfl,rfl⟩ f')) q⟩⟩
end
end
noncomputable section
section
variable {X:Cx}{n:Nat}{sc:Scope}{env:Env}{A:Around}{b:Bs}{m:M}{G:Gh}{s:Shared}{e:Expr}{loc:Bool}
inductive Puts (sc:Scope):List Str->List Val->M->M->Prop where
 | nil {m:M}:Puts sc [] [] m m
 | cons {x:Str} {v:Val} {xs:List Str} {vs:List Val} {m m₁ m':M}:Put false sc x v m m₁->Puts sc xs vs m₁ m'->Puts sc (x::xs) (v::vs) m m'
theorem vz {xs:List Str}{vs:List Val}{m':M}(h:Puts sc xs vs m m'):∀{b:Bs} {s:Shared} {ys:List Value},Zr X sc env->Lay X false env b->Rep X b G s.heap->Frm env b s.heap m->VRs s.heap vs ys ->
  xs.length=vs.length/\wpAny (model X.prog X.w) A (assignInOrder (xs.map λx=>bindName env x) ys) (λ_ s'=>St X false env b G s m' s') NoE s:=by
 induction h with
 | nil=>intro b s ys he hl hr hf hv;rw[hv.nil_inv];exact⟨rfl,wpAny_pure (.mk b hr hf hl .refl .refl)⟩
 | cons hp _ ih=>
  intro b s ys he hl hr hf hv
  obtain⟨y,zs,rfl,hv1,hv2⟩:=hv.cons_inv
  refine⟨?_,wpAny_bind (wpAny_holding (bindName_ (zA (hp.go he hl hr hf hv1) λ_ s₁ q=>?_)))⟩
  ·rename_i hpp _ _ _ _ _
   clear ih
   have:∀{xs:List Str} {vs:List Val} {m m':M},Puts sc xs vs m m'->xs.length=vs.length:=λh=>by
    induction h with
    | nil=>rfl
    | cons _ _ ih=>exact congrArg (· + 1) ih
   exact congrArg (· + 1) (this (by assumption))
  ·cases q with | mk b1 hr1 hf1 hl1 ag f1=>exact zA (ih he hl1 hr1 hf1 (hv2.mono f1.tk)).2 λ_ _ q=>q.next ag f1
noncomputable def zDd (sc:Scope):Env:=newEnv sc 0 0 [] "" none .none none 0
theorem zHK {ts:List Expr}{v:Expr}(he:env.scope=sc):swappedStores ts v env=swappedStores ts v (zDd sc):=by
 have h1:env.kindOf=(zDd sc).kindOf:=by funext x;unfold Env.kindOf;rw[he];rfl
 have h2:env.blockKind=(zDd sc).blockKind:=by unfold Env.blockKind;rw[he];rfl
 unfold swappedStores
 rw[h1,h2]
theorem SnS.assignSw {Q:QS}{es:List Expr}{k:Nat}{p pos:Pos}(xs:List Str)(h:Sn X n sc e m G λv G'=>∃vs m',v=.tup vs/\Puts sc xs.reverse vs.reverse m m'/\Q .next m' G')
  (hw:swappedStores [.Tuple es k p] e (zDd sc)=pure (some xs)) (hsw:∀env,swapsWithSole [.Tuple es k p] e pos.line env=pure false:=by intro _;rfl) :
  SnS X n sc (.Assign [.Tuple es k p] e pos) m G Q:=⟨λ{env A b s} hs=>
 Assign_Tuple_swapped (h.use hs.hy λy s₁ v G1 hv hy1 f1 q=>by
  obtain⟨vs,m',rfl,hP,q⟩:=q
  obtain⟨t,kk,ys,rfl,e1,hvs⟩:=hv.tup_inv
  have hlen:xs.length=ys.toArray.size:=by
   have:=(vz (X:=X) (env:=env) (A:=A) hP hy1.he hs.hl hy1.hr hy1.hf hvs.reverse).1
   rw[List.length_reverse,List.length_reverse] at this
   rw[List.size_toArray,this,hvs.length]
  rw[hlen]
  refine PySem.wpAny_unpackItems_tuple hy1.hA.hd ⟨_,e1,rfl,_,rfl⟩ λh' eb=>?_
  have kp:∀b o,s₁.heap.get? b=some o->h'.get? b=some o:=λb o e=>eb b o (Nat.ne_of_lt (Heap.lt_size e)) e
  exact zA (vz (X:=X) (A:=A) (s:={ s₁ with heap:=h' }) hP hy1.he hs.hl (hy1.hr.mono kp) (hy1.hf.mono (.of_keep kp)) ((hvs.mono (.of_keep kp)).reverse)).2 λ_ s3 o=>(o.next .refl (f1.trans ⟨.of_keep kp,rfl,rfl⟩)).out rfl q) (hsw _) ((zHK hs.hy.he.scope).trans hw)⟩
noncomputable def relS (sc scope:Scope):Scope:={ scope with names:=scope.names.map λ(x,k)=>if (k == .free&&sc.kind == .function&&sc.names.lookup x == some .cell) then(x,.cell) else(x,k) }
theorem vy {scope:Scope}(h:env.scope=sc):relabel scope env=relS sc scope:=by subst h;rfl
noncomputable def jD (sc scope:Scope):Bool:=
 decide (scope.kind=.function)&&scope.names.all (λx=>!(decide (x.2=.cell))&&(!(decide (x.2=.free))||decide (sc.names.lookup x.1=some .cell)))&&scOK (relS sc scope)
structure Ye (sc scope:Scope):Prop where
 kind:scope.kind=.function
 nocell:∀x∈scope.names,x.2≠.cell
 free:∀x∈scope.names,x.2=.free->sc.names.lookup x.1=some .cell
 ok:scOK (relS sc scope)=true
theorem jD.ok {scope:Scope}(h:jD sc scope=true):Ye sc scope:=by
 unfold jD at h
 obtain⟨h,h3⟩:=Bool.and_eq_true_iff.mp h
 obtain⟨h1,h2⟩:=Bool.and_eq_true_iff.mp h
 rw[List.all_eq_true] at h2
 refine⟨of_decide_eq_true h1,λx hx q=>?_,λx hx q=>?_,h3⟩
 ·have:=(Bool.and_eq_true_iff.mp (h2 x hx)).1
  rw[q] at this;cases this
 ·have:=(Bool.and_eq_true_iff.mp (h2 x hx)).2
  rw[q] at this
  exact of_decide_eq_true this
theorem Ye.nd {scope:Scope}(h:Ye sc scope):(scope.names.map (·.1)).Nodup:=by
 have h1:=scOK.nd h.ok
 unfold relS at h1
 dsimp only at h1
 rw[List.map_map] at h1
 refine(congrArg List.Nodup (List.map_congr_left λp _=>?_)).mp h1
 obtain⟨x,k⟩:=p
 show (if _ then _ else _:Str×NameKind).1=x
 split<;>rfl
theorem zDh (names:List (Str×NameKind)):(names.map (·.1)).Nodup->(∀p∈names,p.2=.free->∃a,env.cells.lookup p.1=some a)->∀cs:List (Str×Addr),(∀p∈names,cs.lookup p.1=none) ->
  ∃cl,(forIn names cs λ(p:Str×NameKind) r=>(if (p.2 == NameKind.free)=true then do let a <-cellOf env p.1;pure (ForInStep.yield ((p.1,a)::r)) else pure (ForInStep.yield r):Sem (ForInStep (List (Str×Addr)))))=pure cl /\
   (∀x,(x,NameKind.free)∈names->cl.lookup x=env.cells.lookup x)/\∀x a,cs.lookup x=some a->cl.lookup x=some a:=by
 induction names with
 | nil=>intro _ _ cs _;exact⟨cs,rfl,(λx h=>nomatch h),λx a e=>e⟩
 | cons p names ih=>
  intro hn h cs hc
  obtain⟨m,k⟩:=p
  obtain⟨n1,n2⟩:=List.nodup_cons.mp hn
  have h':∀p∈names,p.2=.free->∃a,env.cells.lookup p.1=some a:=λp hp=>h p (.tail _ hp)
  rw[List.forIn_cons]
  by_cases hk:k=.free
  ·subst hk
   obtain⟨a,ha⟩:=h _ (.head _) rfl
   obtain⟨cl,e1,e2,e3⟩:=ih n2 h' ((m,a)::cs) λp hp=>by
    have:(p.1 == m)=false:=beq_eq_false_iff_ne.mpr λq=>n1 (q▸List.mem_map_of_mem (f:=(·.1)) hp)
    rw[List.lookup_cons,this];exact hc p (.tail _ hp)
   have hce:cellOf env m=pure a:=by unfold cellOf;dsimp only at ha;rw[ha]
   refine⟨cl,?_,λx hx=>?_,λx b e=>e3 x b ?_⟩
   ·simp only [beq_self_eq_true,if_true]
    rw[hce]
    simp only [pure_bind]
    exact e1
   ·rcases List.mem_cons.mp hx with e | hx
    ·cases e;rw[e3 m a (List.lookup_cons_self ..)];exact ha.symm
    ·exact e2 x hx
   ·have:(x == m)=false:=beq_eq_false_iff_ne.mpr λq=>by
     have:=hc _ (.head _);rw[q] at e;rw[e] at this;cases this
    rw[List.lookup_cons,this];exact e
  ·obtain⟨cl,e1,e2,e3⟩:=ih n2 h' cs λp hp=>hc p (.tail _ hp)
   have hb:(k == NameKind.free)=false:=beq_eq_false_iff_ne.mpr hk
   refine⟨cl,?_,λx hx=>?_,e3⟩
   ·dsimp only
    rw[hb]
    simp only [Bool.false_eq_true,if_false,pure_bind]
    exact e1
   ·rcases List.mem_cons.mp hx with e | hx
    ·cases e;exact absurd rfl hk
    ·exact e2 x hx
theorem jz {scope:Scope}(hn:(scope.names.map (·.1)).Nodup)(h:∀p∈scope.names,p.2=.free->∃a,env.cells.lookup p.1=some a) :
  ∃cl,closureFor scope env=pure cl/\∀x,(x,NameKind.free)∈scope.names->cl.lookup x=env.cells.lookup x:=by
 obtain⟨cl,e1,e2,_⟩:=zDh (env:=env) scope.names hn h [] λ_ _=>rfl
 refine⟨cl,?_,e2⟩
 have:closureFor scope env=(forIn scope.names [] λ(p:Str×NameKind) r=>(if (p.2 == NameKind.free)=true then do let a <-cellOf env p.1;pure (ForInStep.yield ((p.1,a)::r)) else pure (ForInStep.yield r):Sem (ForInStep (List (Str×Addr))))) >>= pure:=rfl
 rw[this,e1];rfl
structure SnC (X:Cx)(n:Nat)(sc:Scope)(ifs:List Expr)(m:M)(G:Gh)(Q:Bool->Gh->Prop):Prop where
 go:∀{env:Env} {A:Around} {b:Bs} {s:Shared},Hy X n sc env A b m G s->wpAny (model X.prog X.w) A (forIn ifs true λc r=>if r=true then do let ok <-isTrue c env (eval c env);pure (ForInStep.yield ok) else pure (ForInStep.yield r)) (OutT X b s Q) NoE s
theorem SnC.nil {Q:Bool->Gh->Prop}(q:Q true G):SnC X n sc [] m G Q:=⟨λhy=>wpAny_pure (.mk G hy.hr .refl q)⟩
theorem zBh {Q:Bool->Shared->Prop}(h:Q false s)(ifs:List Expr):wpAny (model X.prog X.w) A (forIn ifs false λc r=>if r=true then do let ok <-isTrue c env (eval c env);pure (ForInStep.yield ok) else pure (ForInStep.yield r)) Q NoE s:=by
 induction ifs with
 | nil=>exact wpAny_pure h
 | cons e es ih=>rw[List.forIn_cons];exact wpAny_bind (wpAny_pure ih)
theorem SnC.cons {Q:Bool->Gh->Prop}{es:List Expr}(h:SnT X n sc e m G λt G'=>Two (SnC X n sc es m G' Q) (Q false G') t):SnC X n sc (e::es) m G Q:=⟨λhy=>by
 rw[List.forIn_cons]
 refine wpAny_bind (wpAny_bind (h.use hy λt s₁ G1 hy1 f1 q=>wpAny_pure ?_))
 cases t with
 | false=>exact zBh (.mk G1 hy1.hr f1 (q.2 rfl)) es
 | true=>exact zA ((q.1 rfl).go hy1) λ_ _ q=>q.next f1⟩
theorem yP {R:Result->Shared->Prop}{elt target iter:Expr}{ifs:List Expr}{scope:Scope}{pos:Pos}{it acc:Value}(I:Nat->Shared->Prop)
  (turn:∀n s,I n s->wpAny (model X.prog X.w) A (pyNext it) (λr s₁=>match r with
   | none=>R (.ok .next) s₁
   | some v=>wpAny (model X.prog X.w) A (letOwnedTupleGo target it v) (λ_ s1'=>wpAny (model X.prog X.w) A (assign target env v) (λ_ s2=>
     wpAny (model X.prog X.w) A (forIn ifs true λc r=>if r=true then do let ok <-isTrue c env (eval c env);pure (ForInStep.yield ok) else pure (ForInStep.yield r)) (λok s3=>
      if ok=true then wpAny (model X.prog X.w) A (eval elt env) (λx s4=>
       wpAny (model X.prog X.w) A (call (.builtin "list.append") [acc,x]) (λ_ s5=>∃m,m<n/\I m s5) NoE s4) NoE s3
      else ∃m,m<n/\I m s3) NoE s2) NoE s1') NoE s₁) NoE s)
  (n:Nat) (h:I n s) :
  codeAny (model X.prog X.w) A (.compLoop (.ListComp elt [⟨target,iter,ifs,0⟩] scope pos) 0 it acc env) R s:=by
 refine codeAny_loop rfl I (λn s hI=>?_) n h
 show wpAny _ A ((compTurn (.ListComp elt [⟨target,iter,ifs,0⟩] scope pos) 0 it acc env).onRaise (λx=>do noteFrame x env;theTreesLotGoes x)) _ _ s
 refine wpAny_noted ?_
 rw[compTurn_list]
 refine wpAny_bind (wpAny_standAt (wpAny_bind (zN (turn n s hI) (λr s₁ h1=>?_))))
 cases r with
 | none=>exact wpAny_pure h1
 | some v=>
  refine wpAny_bind (zN h1 λ_ s1' h1'=>?_)
  refine wpAny_bind (zN h1' (λ_ s2 h2=>wpAny_bind (zN h2 (λok s3 h3=>?_))))
  cases ok with
  | false=>exact wpAny_pure ⟨rfl,h3⟩
  | true=>
   exact wpAny_bind (wpAny_bind (zN h3 (λx s4 h4=>wpAny_bind (zN h4 (λ_ s5 h5=>wpAny_pure (wpAny_pure ⟨rfl,h5⟩))))))
theorem Rep.give {h:Heap}{D:Addr}{xs:List Val}{ys:Array Value}{k:Nat}(r:Rep X b G h)(hb:b D=some ⟨.type "list",none,.seq ys k,#[]⟩)(hl:D≠sysModules)(hn:xs.length<=2 * cap)(hv:VRs h xs ys.toList) :
  G D=none/\Rep X (b.del D) (G.upd D (.list xs)) h:=by
 have hG:G D=none:=by
  cases q:G D with
  | none=>rfl
  | some g=>have:=(r.own _ _ q).1;rw[hb] at this;cases this
 have hD:=r.keep _ _ hb
 have r':Rep X (b.del D) G h:=r.less λa o e=>by
  by_cases q:a=D
  ·rw[q] at e;unfold Bs.del at e;rw[if_pos rfl] at e;cases e
  ·rw[Bs.del_ne q] at e;exact e
 refine⟨hG,r'.own_change (g:=.list xs) rfl hl (by unfold Bs.del;exact if_pos rfl) (λx c fs ox e e1=>⟨λq=>?_,λq=>by rw[q,hG] at e;cases e⟩) (.refl _) (λx o _ e=>e) ⟨hn,ys,k,hD,hv⟩⟩
 have:=(r.dsep x c fs ox D e e1 q).1
 rw[hb] at this;cases this
structure Yb (X:Cx)(n:Nat)(sc:Scope)(tgt elt:Expr)(ifs:List Expr)(m0:M)(gd:Gh->Prop)(Q:QE)(I:List Val->List Val->Gh->Prop):Prop where
 turn:∀x xs acc G,I (x::xs) acc G->gd G/\∃m',Bnd X true sc tgt x m0 m'/\SnC X n sc ifs m' G λt G₁=>Two (Sn X n sc elt m' G₁ λv G₂=>I xs (acc++[v]) G₂) (I xs acc G₁) t
 stop:∀acc G,I [] acc G->gd G/\newList acc G Q
inductive Yy (X:Cx)(D C:Addr)(b:Bs)(s s₂:Shared)(xs:List Val)(St:Nat->Bs->Prop)(I:List Val->List Val->Gh->Prop)(k:Nat)(s':Shared):Prop where
 | mk (i:Nat) (bi:Bs) (Gi:Gh) (acc:List Val) (ys:Array Value) (nn:Nat) (hk:k=xs.length+1 - i) (hr:Rep X bi Gi s'.heap) (ki:kept b bi) (st:St i bi) (hD:bi D=some ⟨.type "list",none,.seq ys nn,#[]⟩) (hv:VRs s'.heap acc ys.toList) (hal:acc.length<=i) (hi:i<=xs.length)
   (hC:∃o es ep,bi C=some o/\o.data=.dict es ep/\StrKeys es) (tk:TK s₂.heap s'.heap) (f:Fwd s s') (h:I (xs.drop i) acc Gi)
theorem zFQ {elt iter tgt:Expr}{ifs:List Expr}{scope:Scope}{cpos:Pos}{D C:Addr}{Iv:Value}{s s2 s3:Shared}{xs:List Val}{gd:Gh->Prop}{hid:Addr->Prop}{St:Nat->Bs->Prop}{I:List Val->List Val->Gh->Prop}{Q:QE}{m0:M}{R:Result->Shared->Prop}
  (it:Iter X s2.heap tgt Iv xs gd hid St) (hn:∀a,hid a->b a=none) (hc:xs.length<cap) (ok:Yb X n sc tgt elt ifs m0 gd Q I) (hbD:b D=none) (hbC:b C=none) (hDC:D≠C) (hDs:D≠sysModules) (hb:Base X b) (hA:AOk A n) (he:Zr X sc env)
  (hlay:∀{bi:Bs},(∃o es ep,bi C=some o/\o.data=.dict es ep/\StrKeys es)->Lay X true env bi) (hel:env.locals=C) (hfrm:∀{bi:Bs} {s':Shared},Fwd s s'->kept b bi->Frm env bi s'.heap m0)
  (hR:∀acc G' bC s',kept b bC->(∃oC es ep,bC C=some oC/\oC.data=.dict es ep/\StrKeys es)->Rep X bC (G'.upd D (.list acc)) s'.heap->Fwd s s'->G' D=none->newList acc G' Q->R (.ok .next) s')
  (h0:Yy X D C b s s2 xs St I (xs.length+1) s3):codeAny (model X.prog X.w) A (.compLoop (.ListComp elt [⟨tgt,iter,ifs,0⟩] scope cpos) 0 Iv (.ref D) env) R s3:=by
 refine yP (Yy X D C b s s2 xs St I) (λk s' hI=>?_) (xs.length+1) h0
 cases hI with | mk i bi Gi acc ys nn hk hri ki sti hDi hacc hal hi hCi tki fi hgo=>
 have nohidF:∀{a:Addr} {o:Obj},bi a=some o->(¬∃vs,o.data=.fields vs)->¬hid a:=λe nf q=>nf (it.kind sti q e)
 have hDh:¬hid D:=nohidF hDi λ⟨vs,q⟩=>nomatch q
 obtain⟨oC,esC,epC,c1,c2,c3⟩:=hCi
 have hCh:¬hid C:=nohidF c1 λ⟨vs,q⟩=>by rw[c2] at q;cases q
 have kH:∀{b':Bs},(∀a o,bi a=some o->¬hid a->b' a=some o)->kept b b':=λk a o e=>k a o (ki a o e) λq=>by rw[hn a q] at e;cases e
 cases hx:xs[i]? with
 | none=>
  rw[zDE hx] at hgo
  obtain⟨g1,g2⟩:=ok.stop _ _ hgo
  refine zA (it.stop hA.hd tki hri g1 sti hx (Q:=λr s₁=>r=none/\R (.ok .next) s₁) λs₁ b1 hr1 f1 k₁=>⟨rfl,?_⟩) λr s₁ q=>by obtain⟨rfl,hout⟩:=q;exact hout
  obtain⟨hGD,hg⟩:=hr1.give (xs:=acc) (k₁ D _ hDi hDh) hDs (yc (Nat.lt_of_le_of_lt (Nat.le_trans hal hi) hc)) (hacc.mono f1.tk)
  refine hR acc _ (b1.del D) s₁ (λa o e=>?_) ⟨oC,esC,epC,(Bs.del_ne (Ne.symm hDC)).trans (k₁ C oC c1 hCh),c2,c3⟩ hg (fi.trans f1) hGD g2
  exact(Bs.del_ne λq=>by rw[q,hbD] at e;cases e).trans (kH k₁ a o e)
 | some x=>
  obtain⟨hlt,hdrop⟩:=jT hx
  rw[hdrop] at hgo
  obtain⟨hgd,m',hB,hT⟩:=ok.turn _ _ _ _ hgo
  refine zA (it.item hA.hd tki hri hgd sti hx (Q:=λy s₁=>∃b1,VR s₁.heap x y/\Rep X b1 Gi s₁.heap/\Fwd s' s₁/\St (i+1) b1/\∀a o,bi a=some o->¬hid a->b1 a=some o) λy s₁ b1 h1 h2 h3 h4 h5=>⟨b1,h1,h2,h3,h4,h5⟩) λr s₁ q=>?_
  obtain⟨y,rfl,hy⟩:=q
  refine zA hy λ_ s2' q=>?_
  obtain⟨b1,hv,hr1,f1,st1,k₁⟩:=q
  have kb1:=kH k₁
  have f01:=fi.trans f1
  refine zA (hB.go he hA.hd (hlay ⟨oC,esC,epC,k₁ C oC c1 hCh,c2,c3⟩) hr1 (hfrm f01 kb1) hv) λ_ s3 q=>?_
  cases q with | mk b4 hr4 hf4 hl4 ag4 f4=>
  have own4:∀a o,b1 a=some o->a≠C->b4 a=some o:=λa o e ne=>ag4 a o e λq=>by rcases q with q | q;exact ne (q.trans hel);cases q.1
  have kb4:kept b b4:=λa o e=>own4 a o (kb1 a o e) λq=>by rw[q,hbC] at e;cases e
  have hD4:=own4 D _ (k₁ D _ hDi hDh) hDC
  have hst4:St (i+1) b4:=it.fr st1 λa o ha e=>own4 a o e λq=>by
   rw[q] at ha;exact hCh ha
  have hy4:Hy X n sc env A b4 m' Gi s3:=⟨he,hA,λa o e=>kb4 a o (hb a o e),hr4,hf4⟩
  obtain⟨oC',esC',epC',c1',c2',c3'⟩:=hl4.loc
  rw[hel] at c1'
  refine zA (hT.go hy4) λok s4 o=>o.elim λG5 hr5 f5 q5=>?_
  have f':=(f1.trans f4).trans f5
  have kk:xs.length+1 - (i+1)<k:=zEn hk hlt
  cases ok with
  | false=>
   rw[if_neg (by decide)]
   exact⟨_,kk,.mk (i+1) b4 G5 acc ys nn rfl hr5 kb4 hst4 hD4 (hacc.mono f'.tk) (Nat.le_succ_of_le hal) hlt ⟨oC',esC',epC',c1',c2',c3'⟩ (tki.trans f'.tk) (fi.trans f') (q5.2 rfl)⟩
  | true=>
   rw[if_pos rfl]
   refine(q5.1 rfl).use (hy4.next hr5 f5) λz s5 v G6 hv6 hy6 f6 q6=>?_
   have hoD:=hy6.hr.keep _ _ hD4
   have hsz:ys.size<=sizeLine:=by
    have hl:acc.length=ys.size:=by rw[hacc.length,Array.length_toList]
    rw[<-hl]
    exact z9 (by first | exact Nat.lt_of_le_of_lt hal (Nat.lt_trans hlt hc) | (rw[<-hl];exact Nat.lt_of_le_of_lt hal (Nat.lt_trans hlt hc)))
   refine call_meets PySem.F.slot_list_append ⟨_,hoD,rfl⟩ PySem.F.entry_list_append (PySem.F.args_list_append_2 _ _) (list_append D ys nn z hsz) ⟨hoD,?_⟩
   have hnew:=Heap.get?_update_self (Obj.mapSeq λx_1=>x_1.push z) hoD rfl
   obtain⟨r7,tk7⟩:=hy6.hr.one hD4 (notT rfl) wL.extBut hnew
   have f'':Fwd s' { s5 with heap:=s5.heap.update D (Obj.mapSeq λx_1=>x_1.push z) }:=(f'.trans f6).trans ⟨tk7,rfl,rfl⟩
   refine⟨_,kk,.mk (i+1) _ G6 (acc++[v]) (ys.push z) _ rfl r7 (λa o e=>(Bs.put_ne λq=>by rw[q,hbD] at e;cases e).trans (kb4 a o e)) (it.fr hst4 λa o ha e=>(Bs.put_ne λq=>by rw[q] at ha;exact hDh ha).trans e) Bs.put_eq ?_ (by rw[List.length_append,List.length_singleton];exact Nat.succ_le_succ hal) hlt
    ⟨oC',esC',epC',(Bs.put_ne (Ne.symm hDC)).trans c1',c2',c3'⟩ (tki.trans f''.tk) (fi.trans f'') q6⟩
   rw[Array.toList_push];exact(hacc.mono f''.tk).append (.single (hv6.mono tk7))
end
end
noncomputable section
section
variable {X:Cx}{n:Nat}{sc:Scope}{env:Env}{A:Around}{b:Bs}{m:M}{G:Gh}{s:Shared}{e:Expr}{loc:Bool}
noncomputable def capM (sc scope:Scope)(m:M):M:=λx v=>(x,NameKind.free)∈scope.names/\(x,NameKind.cell)∈sc.names/\m x v
theorem zFr {scope:Scope}{x:Str}{k:NameKind}(h:(x,k)∈(relS sc scope).names):∃k',(x,k')∈scope.names/\k=if (k' == .free&&sc.kind == .function&&sc.names.lookup x == some .cell) then .cell else k':=by
 obtain⟨⟨y,k'⟩,h1,h2⟩:=List.mem_map.mp h
 dsimp only at h2
 split at h2
 ·rename_i q
  obtain⟨rfl,rfl⟩:=Prod.mk.inj h2
  exact⟨_,h1,(if_pos q).symm⟩
 ·rename_i q
  obtain⟨rfl,rfl⟩:=Prod.mk.inj h2
  exact⟨_,h1,(if_neg q).symm⟩
theorem zEQ {scope:Scope}{x:Str}(hk:sc.kind=.function)(h1:(x,NameKind.free)∈scope.names)(h2:sc.names.lookup x=some .cell):(x,NameKind.cell)∈(relS sc scope).names:=by
 refine List.mem_map.mpr ⟨_,h1,?_⟩
 dsimp only
 rw[if_pos (by rw[hk,h2];rfl)]
theorem zDf {scope:Scope}{cl:List (Str×Addr)}{C:Addr}(he:Zr X sc env)(hok:Ye sc scope)(hclk:∀x,(x,NameKind.free)∈scope.names->cl.lookup x=env.cells.lookup x) :
  Zr X (relS sc scope) (compEnvC scope cl C env)/\∀{b bi:Bs} {h h':Heap},Frm env b h m->TK h h'->kept b bi->Frm (compEnvC scope cl C env) bi h' (capM sc scope m):=by
 have hrel:relabel scope env=relS sc scope:=vy he.scope
 have e1:Zr X (relS sc scope) (compEnvC scope cl C env):=by
  refine⟨hrel,hok.kind,he.glob,he.blt,λx hx=>?_,he.code,hok.ok⟩
  obtain⟨k',h1,h2⟩:=zFr (zR hx)
  have hk':k'=.free:=by
   by_cases q:k'=.free
   ·exact q
   ·exfalso
    have:(k' == NameKind.free)=false:=beq_eq_false_iff_ne.mpr q
    rw[this] at h2
    exact hok.nocell _ h1 h2.symm
  subst hk'
  obtain⟨a,ha⟩:=he.cel x (hok.free _ h1 rfl)
  exact⟨a,(hclk x h1).trans ha⟩
 refine⟨e1,λ{b bi h h'} hf tk k x v e=>?_⟩
 obtain⟨c1,c2,hm⟩:=e
 obtain⟨y,hy,hsl⟩:=hf x v hm
 have c2':=zI (scOK.nd he.ok) c2
 have ek:=(he.kindOf x).trans c2'
 refine⟨y,hy.mono tk,?_⟩
 rcases hsl with ⟨q,_⟩ | ⟨_,ca,o,q3,q4,q5⟩
 ·rw[ek] at q;cases q
 ·exact .inr ⟨.inl ((e1.kindOf x).trans (zI (scOK.nd hok.ok) (zEQ he.kind c1 c2'))),ca,o,(hclk _ c1).trans q3,k _ _ q4,q5⟩
inductive Ys (X:Cx)(n:Nat)(sc:Scope)(tgt elt:Expr)(ifs:List Expr)(m0:M)(Q:QE)(xs:List Val)(gd:Gh->Prop)(G':Gh):Prop where
 | mk (h0:xs.length<cap) (I:List Val->List Val->Gh->Prop) (h1:Yb X n sc tgt elt ifs m0 gd Q I) (h2:I xs [] G')
theorem zBc {Q:QE}{elt iter tgt:Expr}{ifs:List Expr}{scope:Scope}{cpos pos:Pos}(hok:Ye sc scope)
  (h:SnI X n sc iter tgt m G (Ys X n (relS sc scope) tgt elt ifs (capM sc scope m) Q))
  (hs:∀env x,foldedSetIterable iter env x=pure x) {use:Option (Value->Sem Unit)} {R:Value->Shared->Prop} (hy:Hy X n sc env A b m G s)
  (hR:∀v G' bC C s' y,kept b bC->b C=none->(∃oC es ep,bC C=some oC/\oC.data=.dict es ep/\StrKeys es)->Rep X bC G' s'.heap->Fwd s s'->VR s'.heap v y->Q v G' ->
   compPost (model X.prog X.w) A NoE use R y C (.ok .next) s') :
  wpAny (model X.prog X.w) A (comprehension (.ListComp elt [⟨tgt,iter,ifs,0⟩] scope cpos) scope env pos (PySem.newList []) false (eval iter env) use) R NoE s:=by
 have he:=hy.he
 obtain⟨cl,hcl,hclk⟩:=jz (scope:=scope) (env:=env) hok.nd λx hx hl=>he.cel _ (hok.free x hx hl)
 refine wpAny_comprehension_free (cl:=cl) rfl (hs env) hcl hok.kind (λx hx hl=>zI hok.nd (by rw[<-hl];exact hx)) ?_
 refine zA (h.go hy) λx s₁ h₁=>zA h₁ λI0 s2 o=>?_
 cases o with | mk xs gd G2 b2 hid St it hn hr2 kb st f2 q=>
 obtain⟨hlen,I,ok,q⟩:=q
 refine wpAny_newObj_type (wpAny_newFunctionEnv hok.nocell (by intro y hy;cases hy) (λh₁ hns1 hsb1=>?_) hok.kind)
 dsimp only at hns1 hsb1 ⊢
 have hlow2:s2.heap.objs.size≠sysModules:=hlow (X:=X) (λa o e=>kb a o (hy.hb a o e)) hr2
 obtain⟨rD,kD,kpD⟩:=hr2.push { cls:=.type "list",dict:=none,data:=.seq ([]:List Value).toArray }
 have b2D:b2 s2.heap.objs.size=none:=hr2.noB (zm (Nat.le_refl _))
 have hsz:(s2.heap.push { cls:=.type "list",dict:=none,data:=.seq ([]:List Value).toArray }).objs.size=s2.heap.objs.size+1:=Heap.size_push ..
 have b2C:b2 (s2.heap.objs.size+1)=none:=hr2.noB (zm (Nat.le_succ _))
 generalize s2.heap.push { cls:=.type "list",dict:=none,data:=.seq ([]:List Value).toArray }=H2 at *
 rw[hsz] at hns1 ⊢
 generalize s2.heap.objs.size=D at *
 have hDC:D≠D+1:=Ne.symm (Nat.succ_ne_self D)
 obtain⟨rC,kC,kpC⟩:=rD.push { cls:=.type "dict",data:=.dict #[] }
 rw[hsz] at rC kC hsb1
 obtain⟨oC,esC,epC,hoC,hdC,hkC,hnsC⟩:=hns1
 obtain⟨r3,tk3⟩:=rC.one (a:=D+1) Bs.put_eq (yg rfl) hsb1.extBut hoC
 generalize hb3:((b2.put D _).put (D+1) _).put (D+1) oC=b3 at r3
 have b3k:kept b2 b3:=λa o e=>by
  have h1:a≠D+1:=λq=>by rw[q,b2C] at e;cases e
  have h2:a≠D:=λq=>by rw[q,b2D] at e;cases e
  rw[<-hb3,Bs.put_ne h1,Bs.put_ne h1,Bs.put_ne h2];exact e
 have b3C:b3 (D+1)=some oC:=by rw[<-hb3];exact Bs.put_eq
 have b3D:b3 D=some { cls:=.type "list",dict:=none,data:=.seq ([]:List Value).toArray }:=by rw[<-hb3,Bs.put_ne hDC,Bs.put_ne hDC];exact Bs.put_eq
 have tkA:TK s2.heap h₁:=(TK.of_keep λa o e=>kpC a o (kpD a o e)).trans tk3
 clear hb3
 have bn:∀{a:Addr},b2 a=none->b a=none:=λ{a} e=>by cases q:b a with | none=>rfl | some o=>(rw[kb _ _ q] at e;cases e)
 obtain⟨hce,hfr⟩:=zDf (m:=m) (C:=D+1) he hok hclk
 have f3:Fwd s { s2 with heap:=h₁,toks:=s2.toks+([]:List (Str×Value)).length }:=f2.trans ⟨tkA,rfl,rfl⟩
 have loop:=zFQ (R:=compPost (model X.prog X.w) A NoE use R (.ref D) (D+1)) (iter:=iter) (scope:=scope) (cpos:=cpos) it hn hlen ok (bn b2D) (bn b2C) hDC hlow2 hy.hb hy.hA hce (λ{bi} h=>⟨h,(by
  cases q:X.H0.get? (D+1) with
  | none=>exact q
  | some o=>(have:=hy.hb _ _ q;rw[bn b2C] at this;cases this)),λq=>nomatch q⟩) rfl (λ{bi s'} f k=>hfr hy.hf f.tk k)
  (λacc G' bC s' k1 k2 k3 k4 k5 k6=>hR (.ref D) _ bC (D+1) s' (.ref D) k1 (bn b2C) k2 k3 k4 (.ref _) (k6 D k5))
  (.mk 0 b3 G2 [] #[] 0 rfl r3 (λa o e=>b3k _ _ (kb _ _ e)) (it.fr st λa o _ e=>b3k _ _ e) b3D .nil (Nat.zero_le _) (Nat.zero_le _) ⟨oC,esC,epC,b3C,hdC,hkC⟩ tkA f3 q)
 exact codeAny_compStart_list loop (zN (it.self r3 (it.fr st λa o _ e=>b3k _ _ e) (Q:=λI' s'=>I'=I0/\s'={ s2 with heap:=h₁,toks:=s2.toks+([]:List (Str×Value)).length }) ⟨rfl,rfl⟩) λI' s' q=>by
  obtain⟨rfl,rfl⟩:=q;exact loop)
theorem Sn.comp {Q:QE}{elt iter tgt:Expr}{ifs:List Expr}{scope:Scope}{cpos:Pos}(hok:jD sc scope=true)
  (h:SnI X n sc iter tgt m G (Ys X n (relS sc scope) tgt elt ifs (capM sc scope m) Q))
  (hs:∀env x,foldedSetIterable iter env x=pure x:=by intro _ _;rfl):Sn X n sc (.ListComp elt [⟨tgt,iter,ifs,0⟩] scope cpos) m G Q:=⟨λ{env A b s} hy=>by
 rw[eval_ListComp]
 refine zBc (use:=Option.none) (R:=Out X b s Q) (jD.ok hok) h hs hy λv G' bC C s' y kb hC hd hr' f hv q=>?_
 obtain⟨oC,es,ep,h1,h2,h3⟩:=hd
 refine⟨λx=>nsFind es x,⟨oC,es,ep,hr'.keep _ _ h1,h2,h3,λ_=>rfl⟩,λh' sb=>?_⟩
 obtain⟨r2,tk2⟩:=hr'.gone h1 (yg h2) sb.extBut
 exact .mk v G' (hv.mono tk2) (r2.less λa o e=>(Bs.del_ne λq=>by rw[q,hC] at e;cases e).trans (kb _ _ e)) (f.trans ⟨tk2,rfl,rfl⟩) q⟩
theorem zDP {elt:Expr}{gens:List Comprehension}{scope:Scope}{cpos p:Pos}{id:Str}{line:Nat}:∃r,swapsWith (.ListComp elt gens scope cpos) (some (.Name id p)) line env=pure r:=⟨_,rfl⟩
theorem zII {C:Addr}{oC:Obj}{es:Array DictEntry}{ep:Nat}{h:Heap}(hf:Frm env b h m)(hl:Lay X false env b)(h1:b C=some oC)(h2:oC.data=.dict es ep)(hC:¬Own false env C):Frm env (b.del C) h m/\Lay X false env (b.del C):=by
 have hCl:env.locals≠C:=λq=>hC (.inl q.symm)
 have ncell:∀{ca:Addr} {o:Obj} {v:Option Value},b ca=some o->o.data=.cell v->ca≠C:=λe ed q=>by rw[q,h1] at e;cases e;rw[h2] at ed;cases ed
 refine⟨λz u ez=>?_,⟨?_,hl.low,λhh z hz=>?_⟩⟩
 ·obtain⟨w,hw,hsl⟩:=hf z u ez
  exact⟨w,hw,hsl.imp (λ_ _ _ e _=>(Bs.del_ne hCl).trans e) λ_ _ _ _ e d=>(Bs.del_ne (ncell e d)).trans e⟩
 ·obtain⟨oo,es',ep',q2,q3,q4⟩:=hl.loc
  exact⟨oo,es',ep',(Bs.del_ne hCl).trans q2,q3,q4⟩
 ·obtain⟨ca,oo,u,q1,q2,q3,q4⟩:=hl.has hh z hz
  exact⟨ca,oo,u,q1,(Bs.del_ne (ncell q2 q3)).trans q2,q3,q4⟩
theorem SnS.assignComp {Q:QS}{elt iter tgt:Expr}{ifs:List Expr}{scope:Scope}{cpos:Pos}{id:Str}{np pos:Pos}(hok:jD sc scope=true)
  (h:SnI X n sc iter tgt m G (Ys X n (relS sc scope) tgt elt ifs (capM sc scope m) (PutP sc id m Q)))
  (hs:∀env x,foldedSetIterable iter env x=pure x:=by intro _ _;rfl):SnS X n sc (.Assign [.Name id np] (.ListComp elt [⟨tgt,iter,ifs,0⟩] scope cpos) pos) m G Q:=⟨λ{env A b s} hys=>by
 obtain⟨r,hr⟩:=@zDP env elt [⟨tgt,iter,ifs,0⟩] scope cpos np id pos.line
 cases r with
 | false=>
  exact wpAny_Assign_Name ((Sn.comp hok h hs).use hys.hy λy s₁ v G1 hv hy1 f1 q=>by
   obtain⟨m',hp,q⟩:=q
   exact zA (hp.go hy1.he hys.hl hy1.hr hy1.hf hv) λ_ _ o=>(o.next .refl f1).out rfl q) hr
 | true=>
  rw[exec_Assign_Name_used _ _ _ _ hr]
  refine wpAny_bind (wpAny_standAt ?_)
  refine wpAny_bind (zA (P:=λ_ s'=>OutS X env b s Q .next s') ?_ λ_ s' q=>wpAny_pure q)
  rw[arm_evalThenUse_ListComp]
  refine wpAny_bind (zA (P:=λ_ s'=>OutS X env b s Q .next s') ?_ λ_ s' q=>wpAny_pure q)
  refine zBc (R:=λ_ s'=>OutS X env b s Q .next s') (jD.ok hok) h hs hys.hy λv G' bC C s' y kb hC hd hr' f hv q=>?_
  obtain⟨oC,es,ep,h1,h2,h3⟩:=hd
  obtain⟨m',hp,q⟩:=q
  show wpAny _ _ (PySem.assign (Expr.Name id np) env y) _ _ _
  refine assign_Name (zA (hp.go hys.hy.he (ue hys.hl λa o e _=>kb a o e) hr' (uf hys.hy.hf f.tk λa o e _=>kb a o e) hv) λ_ s2 o=>?_)
  cases o with | mk b2 hr2 hf2 hl2 ag f2=>
  have nC:¬Own false env C:=λq=>by obtain⟨_,o',e',_⟩:=q.data hys.hl;rw[hC] at e';cases e'
  have h1':=ag C oC h1 nC
  refine⟨λx=>nsFind es x,⟨oC,es,ep,hr2.keep _ _ h1',h2,h3,λ_=>rfl⟩,λh' sb=>?_⟩
  obtain⟨r3,tk3⟩:=hr2.gone h1' (yg h2) sb.extBut
  obtain⟨a1,a2⟩:=zII (hf2.mono tk3) hl2 h1' h2 nC
  exact .mk .next m' G' (b2.del C) .next r3 a1 a2 (λa o e no=>(Bs.del_ne λq=>by rw[q,hC] at e;cases e).trans (ag a o (kb a o e) no)) ((f.trans f2).trans ⟨tk3,rfl,rfl⟩) q⟩
end
end
noncomputable section
section
variable {X:Cx}{n:Nat}{sc:Scope}{env:Env}{A:Around}{b:Bs}{m:M}{G:Gh}{s:Shared}{e:Expr}{loc:Bool}
noncomputable def nd (xs ys:List Addr)(i:Nat):Bool:=!decide (xs[i]?=ys[i]?)
theorem zIu (xs:List Addr):∀ys:List Addr,(List.range (min xs.length ys.length)).any (nd xs ys)=(xs.zip ys).any λp=>!decide (p.1=p.2):=by
 induction xs with
 | nil=>intro ys;rw[List.length_nil,Nat.zero_min];rfl
 | cons a xs ih=>
  intro ys
  cases ys with
  | nil=>rfl
  | cons c ys=>
   rw[List.length_cons,List.length_cons,Nat.succ_min_succ,List.range_succ_eq_map,List.any_cons,List.any_map,List.zip_cons_cons,List.any_cons,<-ih ys]
   have e0:nd (a::xs) (c::ys) 0=!decide (a=c):=by
    unfold nd
    rw[List.getElem?_cons_zero,List.getElem?_cons_zero]
    by_cases q:a=c
    ·rw[decide_eq_true q,decide_eq_true (congrArg some q)]
    ·rw[decide_eq_false q,decide_eq_false λe=>q (Option.some.inj e)]
   rw[e0];rfl
theorem zFS {T:String}(n:(T == "tuple")=false):Value.type T≠.type "tuple":=λe=>by cases e;cases n
noncomputable abbrev ZSt (N p q:Addr)(us ws:Array Value)(i:Nat)(h:Heap):Prop:=IsZip h (N+4) (N+2) (N+3) .none/\IsPair h (N+2) (.ref N) (.ref (N+1))/\(∃a b,IsPair h (N+3) a b)/\h.IsListIter N p i/\h.IsListIter (N+1) q i/\h.IsList p us/\h.IsList q ws
inductive ZI (s₁:Shared)(N p q:Addr)(us ws:Array Value)(f:Nat->Bool)(k:Nat)(s':Shared):Prop where
 | mk (i:Nat) (h':Heap) (tk:Nat) (m':Str->Option Value) (zs:Array Value) (hk:k=min us.size ws.size+1 - i) (hi:i<=min us.size ws.size) (hs:s'={ s₁ with heap:=h',toks:=tk }) (st:ZSt N p q us ws i h')
   (hpl:h'.PlainList (N+5) zs) (hz:zs.size=i) (hb:∀j,j<i->zs[j]?=some (.bool (f j))) (hns:h'.Ns (N+6) m') (kp:∀a o,s₁.heap.get? a=some o->h'.get? a=some o)
structure ZA (N p q:Addr):Prop where
 p:∀k:Nat,k<7->p≠N+k
 q:∀k:Nat,k<7->q≠N+k
theorem ZA.ne {N:Addr}{u v:Nat}(h:u≠v):@Ne Addr (N+u) (N+v):=λe=>h (Nat.add_left_cancel e)
theorem ZA.apart {N p q:Addr}(z:ZA N p q):ZipApart (N+4) (N+2) (N+3) N (N+1) p q:=
 ⟨ZA.ne (by decide),ZA.ne (by decide),ZA.ne (u:=0) (by decide),ZA.ne (by decide),ZA.ne (by decide),ZA.ne (v:=0) (by decide),ZA.ne (by decide),ZA.ne (v:=0) (by decide),ZA.ne (by decide),ZA.ne (u:=0) (by decide),z.p 4 (by decide),z.p 3 (by decide),z.p 0 (by decide),z.p 1 (by decide),z.q 4 (by decide),z.q 3 (by decide),z.q 0 (by decide),z.q 1 (by decide)⟩
theorem zE4 {N a:Addr}(h:∀k:Nat,k<5->a≠N+k):a∉[N+4,N+3,N,N+1]:=λq=>by
 simp only [List.mem_cons,List.not_mem_nil,or_false] at q
 rcases q with q | q | q | q
 ·exact h 4 (by decide) q
 ·exact h 3 (by decide) q
 ·exact h 0 (by decide) q
 ·exact h 1 (by decide) q
theorem in7 {N p q a:Addr}(z:ZA N p q)(ha:a∈[N+4,N+2,N+3,N,N+1,p,q]):a≠N+6/\a≠N+5:=by
 simp only [List.mem_cons,List.not_mem_nil,or_false] at ha
 rcases ha with rfl | rfl | rfl | rfl | rfl | rfl | rfl
 ·exact⟨ZA.ne (by decide),ZA.ne (by decide)⟩
 ·exact⟨ZA.ne (by decide),ZA.ne (by decide)⟩
 ·exact⟨ZA.ne (by decide),ZA.ne (by decide)⟩
 ·exact⟨ZA.ne (u:=0) (by decide),ZA.ne (u:=0) (by decide)⟩
 ·exact⟨ZA.ne (by decide),ZA.ne (by decide)⟩
 ·exact⟨z.p 6 (by decide),z.p 5 (by decide)⟩
 ·exact⟨z.q 6 (by decide),z.q 5 (by decide)⟩
theorem zHC {s₁:Shared}{N p q:Addr}{us ws zs:Array Value}{f:Nat->Bool}{i k:Nat}{h6:Heap}{tk:Nat}{m':Str->Option Value}(z:ZA N p q)(W:WalksT X.prog X.w A (N+4) [N+4,N+2,N+3,N,N+1,p,q] [N+4,N+3,N,N+1] (min us.size ws.size) (λi vals=>∃x y,us[i]?=some x/\ws[i]?=some y/\vals=#[x,y]) (ZSt N p q us ws)
  (λi T h=>IsZip h (N+4) (N+2) (N+3) (rawInt T)/\IsPair h (N+2) (.ref N) (.ref (N+1))/\(∃a b,IsPair h (N+3) a b)/\h.IsListIter N p (i+1)/\h.IsListIter (N+1) q (i+1)/\h.IsList p us/\h.IsList q ws/\T≠N+4/\T≠N+3/\T≠N/\T≠N+1))
  (hk:k=min us.size ws.size+1 - i) (hlt:i<min us.size ws.size) (hus:us.size<cap) (hst:ZSt N p q us ws (i+1) h6) (hpl:h6.PlainList (N+5) zs) (hz:zs.size=i) (hb:∀j,j<i->zs[j]?=some (.bool (f j))) (hns:h6.Ns (N+6) m') (kp:∀a o,s₁.heap.get? a=some o->h6.get? a=some o)
  (old:∀(a:Addr) (o:Obj),s₁.heap.get? a=some o->a≠N+5) :
  wpAny (model X.prog X.w) A (PySem.call (.builtin "list.append") [.ref (N+5),.bool (f i)]) (λ_ s5=>∃m,m<k/\ZI s₁ N p q us ws f m s5) NoE { s₁ with heap:=h6,toks:=tk }:=by
 obtain⟨nn,hD6⟩:=hpl
 refine call_meets (s:={ s₁ with heap:=h6,toks:=tk }) F.slot_list_append ⟨_,hD6,rfl⟩ F.entry_list_append (F.args_list_append_2 _ _) (list_append (N+5) zs nn _ (z9 (hz▸Nat.lt_trans (Nat.lt_of_lt_of_le hlt (Nat.min_le_left ..)) hus))) ⟨hD6,?_⟩
 have hnew:=Heap.get?_update_self (Obj.mapSeq λx_1=>x_1.push (Value.bool (f i))) hD6 rfl
 have kp9:∀a o,a≠N+5->h6.get? a=some o->(h6.update (N+5) (Obj.mapSeq λx_1=>x_1.push (Value.bool (f i)))).get? a=some o:=λa o ha e=>(Heap.get?_update_other _ _ (Ne.symm ha)).trans e
 refine⟨_,zEn hk hlt,.mk (i+1) _ _ _ _ rfl hlt rfl (W.frame _ _ _ hst λa ha o e=>kp9 a o (in7 z ha).2 e) ⟨_,hnew⟩ (by rw[Array.size_push,hz]) (λj hj=>?_) (hns.at' λo e=>kp9 _ _ (ZA.ne (by decide)) e) λa o e=>kp9 a o (old a o e) (kp a o e)⟩
 rw[Array.getElem?_push]
 by_cases hji:j=zs.size
 ·rw[if_pos hji];rw[hji,hz]
 ·rw[if_neg hji];exact hb j (zJG hj hji hz)
theorem zJo {xs ys:List Addr}{i:Nat}{a b:Addr}(ha:xs[i]?=some a)(hb:ys[i]?=some b):nd xs ys i=!decide (a=b):=by
 unfold nd;rw[ha,hb]
 by_cases q:a=b
 ·rw[decide_eq_true q,decide_eq_true (congrArg some q)]
 ·rw[decide_eq_false q,decide_eq_false λe=>q (Option.some.inj e)]
def NT (h:Heap)(a:Addr):Prop:=∃o,h.get? a=some o/\o.cls≠.type "tuple"
theorem Rep.nt {b:Bs}{h:Heap}{z:Addr}(hr:Rep X b G h)(hz:(G z).isSome=true):NT h z:=by
 obtain⟨g,hg⟩:=Option.isSome_iff_exists.mp hz
 obtain⟨_,hI⟩:=hr.own _ _ hg
 clear hr hz hg
 cases g with
 | list xs=>obtain⟨_,_,_,e',_⟩:=hI;exact⟨_,e',zFS rfl⟩
 | dict es=>obtain⟨_,_,⟨_,_,_,e',x',_⟩,_⟩:=hI;exact⟨_,e',x'.1▸zFS rfl⟩
 | set S fr=>obtain⟨⟨_,_,_,e',_⟩,_⟩:=hI;exact⟨_,e',zFS rfl⟩
 | inst c fs=>obtain⟨_,_,_,e',_⟩:=hI;exact⟨_,e',λq=>by cases q⟩
inductive ZR (h:Heap)(f:Nat->Bool)(i:Nat)(u w:Value):Prop where
 | mk (a b:Addr) (hu:u=.ref a) (hw:w=.ref b) (hf:f i=!decide (a=b)) (ha:NT h a) (hb:NT h b)
theorem VRs.refAt {h:Heap}{xs:List Addr}{us:Array Value}{i:Nat}{u:Value}(hv:VRs h (xs.map .ref) us.toList)(hu:us[i]?=some u)(hl:xs.length=us.size):∃a,xs[i]?=some a/\u=.ref a/\a∈xs:=by
 have hix:i<xs.length:=hl▸(Array.getElem?_eq_some_iff.mp hu).1
 have gx:=List.getElem?_eq_getElem hix
 exact⟨_,gx,(hv.at_ i (.ref xs[i]) u (by rw[List.getElem?_map,gx];rfl) (by rw[Array.getElem?_toList];exact hu)).ref_inv,List.getElem_mem hix⟩
theorem zHB {b:Bs}{h:Heap}{xs ys:List Addr}{us ws:Array Value}(hr:Rep X b G h)(hx:VRs h (xs.map .ref) us.toList)(hy:VRs h (ys.map .ref) ws.toList)(lx:xs.length=us.size)(ly:ys.length=ws.size)(c3:∀z∈xs,(G z).isSome=true)(c4:∀z∈ys,(G z).isSome=true)
  (i:Nat) (u w:Value) (hu:us[i]?=some u) (hw:ws[i]?=some w):ZR h (nd xs ys) i u w:=by
 obtain⟨a,ga,ea,ma⟩:=hx.refAt hu lx
 obtain⟨b,gb,eb,mb⟩:=hy.refAt hw ly
 exact⟨a,b,ea,eb,zJo ga gb,hr.nt (c3 a ma),hr.nt (c4 b mb)⟩
inductive ZE (E:Env)(x y:Str):Prop where
 | mk (kx:E.kindOf x=some .local) (ky:E.kindOf y=some .local) (dx:(x == Str.ofString "__debug__")=false) (dy:(y == Str.ofString "__debug__")=false) (hk:E.scope.kind=.function) (hC:(E.scope.kind == .class||(E.scope.kind == .module&&E.locals != E.globals))=false) (hne:x≠y)
theorem zGa {E:Env}{x y:Str}{kk:Nat}{p1 p2 p3 p4 p5 p6:Pos}{T a b:Addr}{m':Str->Option Value}{F:Expr->Bool->Sem (ForInStep Bool)}{P1:Value->Shared->Prop}{P2:Shared->Prop}(zE:ZE E x y)(hd:A.handled=none)(hm:behindInMarks .IsNot (.Name y p2)=false)
  (hT:s.heap.IsTuple T #[.ref a,.ref b]) (hns:s.heap.Ns E.locals m') (ha:NT s.heap a) (hb:NT s.heap b) (na:a≠E.locals) (nb:b≠E.locals)
  (k:∀h' tk m',(∀a o,a≠E.locals->s.heap.get? a=some o->h'.get? a=some o)->h'.Ns E.locals m'->P1 (.bool (!decide (a=b))) { s with heap:=h',toks:=tk }) :
  wpAny (model X.prog X.w) A (assign (.Tuple [.Name x p4,.Name y p5] kk p6) E (.ref T)) (λ_ s2=>wpAny (model X.prog X.w) A (forIn [] true F) (λok s3=>if ok=true then wpAny (model X.prog X.w) A (eval (.Compare (.Name x p1) [.IsNot] [.Name y p2] p3) E) P1 NoE s3 else P2 s3) NoE s2) NoE s:=by
 obtain⟨kx,ky,dx,dy,hk,hC,hne⟩:=zE
 refine wpAny_bind (wpAny_standAt (wpAny_unpack_tuple hd hT rfl rfl λh4 eb4=>?_))
 have kp7:∀a o,s.heap.get? a=some o->h4.get? a=some o:=λa o e=>eb4 a o (Nat.ne_of_lt (Heap.lt_size e)) e
 have hns4:h4.Ns E.locals m':=hns.at' λo e=>kp7 _ _ e
 refine wpAny_bind (wpAny_holding (assign_Name (wpAny_storeName_local kx hns4 (λh5 hns5 sb5=>?_) hC)))
 refine wpAny_bind (wpAny_holding (assign_Name (wpAny_storeName_local ky hns5 (λh6 hns6 sb6=>?_) hC)))
 refine wpAny_pure (wpAny_pure ?_)
 rw[if_pos rfl]
 have kp8:∀a o,a≠E.locals->s.heap.get? a=some o->h6.get? a=some o:=λa o ha e=>(sb6.2 a ha).trans ((sb5.2 a ha).trans (kp7 a o e))
 have kz:=k h6 (s.toks+1+1) _ kp8 hns6
 obtain⟨oa,hoa,hca⟩:=ha
 obtain⟨ob,hob,_⟩:=hb
 have ga:=kp8 _ _ na hoa
 have gb:=kp8 _ _ nb hob
 clear hT hns eb4 kp7 hns4 hns5 sb5 sb6 kp8 hoa hob hd k
 refine wpAny_Compare1 (wpAny_Name (wpAny_loadName_local hk kx hns6 ((if_neg hne).trans (if_pos rfl)) ?_) dx) hm
 refine wpAny_Name (wpAny_loadName_local hk ky hns6 (if_pos rfl) ?_) dy
 by_cases hrr:a=b
 ·rw[decide_eq_true hrr] at kz
  subst hrr
  exact wpAny_isNot_ref_self kz
 ·rw[decide_eq_false hrr] at kz
  exact wpAny_isNot_ref_other hrr ga gb hca kz
theorem zGd {Q:QE}{b:Bs}{s₁ s:Shared}{G1:Gh}{h3:Heap}{tk K:Nat}{c:Addr}{zs:Array Value}{f:Nat->Bool}(hr1:Rep X b G1 s₁.heap)(hd:A.handled=none)(hpl:h3.PlainList c zs)(hz:zs.size=K)(hb:∀j,j<K->zs[j]?=some (.bool (f j)))(kp:∀a o,s₁.heap.get? a=some o->h3.get? a=some o)(f1:Fwd s s₁)(hq:Q (.bool ((List.range K).any f)) G1) :
  wpAny (model X.prog X.w) A (PySem.call (.builtin "any") [.ref c]) (Out X b s Q) NoE { s₁ with heap:=h3,toks:=tk }:=by
 refine call_any_walk (wpAny_pyIter_list hpl.isList ?_)
 refine⟨h3.objs.size,_,_,_,_,_,f,rfl,Walks.list (A:=A.in1) hd _ c ?_ zs,⟨⟨_,Heap.get?_push_size _ rfl,rfl,rfl⟩,hpl.isList.push _⟩,λi v s' Q' E' hP hQ'=>?_,λh4 tk4 kp6=>?_⟩
 ·obtain⟨nn,ho⟩:=hpl;exact Nat.ne_of_lt (Heap.lt_size ho)
 ·have:=hb i (hz▸(Array.getElem?_eq_some_iff.mp hP).1)
  rw[hP] at this;cases this
  exact wpAny_truthy_bool hQ'
 ·have kp7:∀a o,s₁.heap.get? a=some o->h4.get? a=some o:=λa o e=>by
   have e3:=kp a o e
   exact kp6 a o (by rw[List.mem_singleton];exact Nat.ne_of_lt (Heap.lt_size e3)) (Heap.get?_push_of_some _ e3)
  rw[hz]
  exact(Out.grow (s:=s₁) (tk:=tk4) hr1 (.bool _) kp7 hq).next f1
theorem nm5 {N:Nat}:N+5∉[N+4,N+3,N,N+1]:=zE4 λk hk=>ZA.ne (Nat.ne_of_gt hk)
theorem nm6 {N:Nat}:N+6∉[N+4,N+3,N,N+1]:=zE4 λk hk=>ZA.ne (Nat.ne_of_gt (Nat.lt_succ_of_lt hk))
theorem zGb {E:Env}{x y:Str}{kk:Nat}{p1 p2 p3 p4 p5 p6 cpos:Pos}{it:Expr}{scope:Scope}{s₁:Shared}{N p q:Addr}{us ws:Array Value}{f:Nat->Bool}{h1:Heap}{tk:Nat}{m1:Str->Option Value}{R:Value->Shared->Prop}(zE:ZE E x y)(hE:E.locals=N+6)(hd:A.handled=none)(hm:behindInMarks .IsNot (.Name y p2)=false)
  (za:ZA N p q) (old:∀a o,s₁.heap.get? a=some o->∀k:Nat,a≠N+k) (hus:us.size<cap) (hst0:ZSt N p q us ws 0 h1) (hl0:h1.PlainList (N+5) #[]) (hns1:h1.Ns (N+6) m1) (kp0:∀a o,s₁.heap.get? a=some o->h1.get? a=some o)
  (own:∀(i:Nat) u w,us[i]?=some u->ws[i]?=some w->ZR s₁.heap f i u w)
  (fin:∀h3 tk zs,h3.PlainList (N+5) zs->zs.size=min us.size ws.size->(∀j,j<min us.size ws.size->zs[j]?=some (.bool (f j)))->(∀a o,s₁.heap.get? a=some o->h3.get? a=some o)->R (.ref (N+5)) { s₁ with heap:=h3,toks:=tk }) :
  codeAny (model X.prog X.w) A (.compLoop (.ListComp (.Compare (.Name x p1) [.IsNot] [.Name y p2] p3) [⟨.Tuple [.Name x p4,.Name y p5] kk p6,it,[],0⟩] scope cpos) 0 (.ref (N+4)) (.ref (N+5)) E) (compPost (model X.prog X.w) A NoE none R (.ref (N+5)) (N+6)) { s₁ with heap:=h1,toks:=tk }:=by
 have oldin:∀(a:Addr) (o:Obj),s₁.heap.get? a=some o->a∉[N+4,N+3,N,N+1]:=λa o e=>zE4 λk _=>old a o e k
 have W:=WalksT.zip2 (prog:=X.prog) (w:=X.w) (A:=A) hd (N+4) (N+2) (N+3) N (N+1) p q za.apart us ws
 refine yP (ZI s₁ N p q us ws f) (λk s' hI=>?_) (min us.size ws.size+1) (.mk 0 h1 _ _ #[] rfl (Nat.zero_le _) rfl hst0 hl0 rfl (λj hj=>absurd hj (Nat.not_lt_zero _)) hns1 kp0)
 clear hst0 hl0 hns1 kp0
 cases hI with | mk i h' tk m' zs hkk hi hs' hst hpl' hzs hbs hns kpo=>
 subst hs'
 by_cases hlt:i<min us.size ws.size
 ·clear fin hi
  refine W.item i _ _ _ hlt hst λT vals h2 tk2 hvals hT hTt hmid kp5=>?_
  clear hT
  obtain⟨u,w,hu,hw,rfl⟩:=hvals
  refine W.go _ _ _ i T _ _ _ hmid λh3 hst3 kp6=>?_
  have kpA:∀a o,a∉[N+4,N+3,N,N+1]->h'.get? a=some o->h3.get? a=some o:=λa o hna e=>kp6 a o hna (kp5 a o hna e)
  have hT3:h3.IsTuple T #[u,w]:=by obtain⟨o,ho,r⟩:=hTt;exact⟨o,kp6 T o (W.apart _ _ _ hmid) ho,r⟩
  obtain⟨a,b,rfl,rfl,hf,ha,hb⟩:=own i u w hu hw
  clear kp5 kp6 hTt hmid hu hw own
  have hl3:h3.PlainList (N+5) zs:=by obtain⟨nn,ho⟩:=hpl';exact⟨nn,kpA _ _ nm5 ho⟩
  have hns3:h3.Ns E.locals m':=hE▸hns.at' λo e=>kpA _ _ nm6 e
  have kp3:∀a o,s₁.heap.get? a=some o->h3.get? a=some o:=λa o e=>kpA a o (oldin a o e) (kpo a o e)
  clear kpA hpl' hns kpo hst oldin
  have up:∀{a},NT s₁.heap a->NT h3 a:=λh=>by obtain⟨o,e,r⟩:=h;exact⟨o,kp3 _ _ e,r⟩
  have ne:∀{a},NT s₁.heap a->a≠E.locals:=λh=>by obtain⟨o,e,_⟩:=h;exact hE▸old _ _ e 6
  refine zGa zE hd hm hT3 hns3 (up ha) (up hb) (ne ha) (ne hb) λh6 tk' m6 kp8 hns6=>?_
  rw[hE] at kp8 hns6
  rw[<-hf]
  exact zHC (X:=X) za W hkk hlt hus (W.frame _ _ _ hst3 λa ha o e=>kp8 a o (in7 za ha).1 e) (by obtain⟨nn,ho⟩:=hl3;exact⟨nn,kp8 _ _ (ZA.ne (by decide)) ho⟩) hzs hbs hns6 (λa o e=>kp8 a o (old a o e 6) (kp3 a o e)) λa o e=>old a o e 5
 ·clear own
  have hie:i=min us.size ws.size:=Nat.le_antisymm hi (Nat.not_lt.mp hlt)
  refine W.done _ _ _ (hie▸hst) λh2 tk2 kp5=>?_
  refine⟨m',hns.at' λo e=>kp5 _ _ nm6 e,λh3 sb3=>fin h3 _ zs ?_ (hzs.trans hie) (hie▸hbs) λa o e=>(sb3.2 a (old a o e 6)).trans (kp5 a o (oldin a o e) (kpo a o e))⟩
  obtain⟨nn,ho⟩:=hpl';exact⟨nn,(sb3.2 _ (ZA.ne (by decide))).trans (kp5 _ _ nm5 ho)⟩
theorem Sn.anyNew {Q:QE}{ea eb:Expr}{scope:Scope}{x y:Str}{kk:Nat}{p1 p2 p3 p4 p5 p6 p7 p8 p9 cpos pos:Pos}(hx:Zx X)(hka:Ze sc "any")(hkz:Ze sc "zip")(hn:Zj [ea,eb])
  (hok:jD sc scope=true) (hfree:∀p∈scope.names,p.2≠.free) (hmx:(x,NameKind.local)∈(relS sc scope).names) (hmy:(y,NameKind.local)∈(relS sc scope).names) (hxy:(x == y)=false)
  (h:SnEs X n sc [ea,eb] m G λvs G'=>∃(p q:Addr) (xs ys:List Addr),vs=[.ref p,.ref q]/\G' p=some (.list (xs.map .ref))/\G' q=some (.list (ys.map .ref))/\xs.length<cap/\ys.length<cap/\(∀z∈xs,(G' z).isSome=true)/\(∀z∈ys,(G' z).isSome=true)/\Q (.bool ((xs.zip ys).any λp=>!decide (p.1=p.2))) G')
  (hm:behindInMarks .IsNot (.Name y p2)=false:=by with_unfolding_all rfl) :
  Sn X n sc (.Call (.Name "any" p7) [.ListComp (.Compare (.Name x p1) [.IsNot] [.Name y p2] p3) [⟨.Tuple [.Name x p4,.Name y p5] kk p6,.Call (.Name "zip" p8) [ea,eb] [] p9,[],0⟩] scope cpos] [] pos) m G Q:=⟨λ{env A bb s} hy=>by
 have he:=hy.he
 have ok:=jD.ok hok
 obtain⟨cl,hcl,_⟩:=jz (scope:=scope) (env:=env) ok.nd λx hx hl=>absurd hl (hfree x hx)
 refine PyProof.Rows.Call_ (wpAny_Name (zAD he hy.hb hy.hr hka (hx.mg "any" (by decide)) (hx.fn "any" (by decide)) ?_) (hka.dbg he))
 refine PyProof.Rows.callWith_builtin1 (args_cons ?_)
 rw[eval_ListComp]
 refine wpAny_comprehension_free (cl:=cl) rfl (λ_=>rfl) hcl ok.kind (λx hx hl=>zI ok.nd (by rw[<-hl];exact hx)) ?_
 refine uP hx (by decide) (by decide) hkz hn h hy λvs0 s₁ vs G1 hvs hy1 f1 hq=>?_
 obtain⟨p,q,xs,ys,rfl,e1,e2,c1,c2,c3,c4,hq⟩:=hq
 obtain⟨y1,y2,rfl,hv1,hv2⟩:=hvs.two_inv
 rw[hv1.ref_inv,hv2.ref_inv]
 have hr1:=hy1.hr
 obtain⟨us,k1,_,hp1,hvx,lx⟩:=zJ hr1 e1
 obtain⟨ws,k2,_,hp2,hvy,ly⟩:=zJ hr1 e2
 rw[List.length_map] at lx ly
 have hL1:s₁.heap.IsList p us:=⟨_,hp1,rfl,k1,rfl⟩
 have hL2:s₁.heap.IsList q ws:=⟨_,hp2,rfl,k2,rfl⟩
 refine call_zip_2 hL1 hL2 λhz hZ hTI hTO hi1 hi2 hsz kp=>?_
 refine wpAny_pyIter_zip hZ ?_
 have oldlt:∀a o,s₁.heap.get? a=some o->∀k:Nat,a≠s₁.heap.objs.size+k:=λa o e k q=>by
  have:=Heap.lt_size e
  rw[q] at this;exact absurd this (Nat.not_lt.mpr (Nat.le_add_right _ _))
 generalize s₁.heap.objs.size=N at *
 refine wpAny_newObj_type (wpAny_newFunctionEnv ok.nocell (by intro y hy;cases hy) (λh1 hns1 hsb1=>?_) ok.kind)
 dsimp only at hns1 hsb1 ⊢
 have hC:(hz.push { cls:=.type "list",dict:=none,data:=.seq ([]:List Value).toArray }).objs.size=N+6:=by rw[Heap.size_push,hsz]
 have kp2:∀a o,hz.get? a=some o->(hz.push { cls:=.type "list",dict:=none,data:=.seq ([]:List Value).toArray }).get? a=some o:=λa o e=>Heap.get?_push_of_some _ e
 have hD2:(hz.push { cls:=.type "list",dict:=none,data:=.seq ([]:List Value).toArray }).get? hz.objs.size=some { cls:=.type "list",dict:=none,data:=.seq ([]:List Value).toArray }:=Heap.get?_push_size _ rfl
 generalize hz.push { cls:=.type "list",dict:=none,data:=.seq ([]:List Value).toArray }=H2 at *
 have kp3:∀a o,H2.get? a=some o->h1.get? a=some o:=λa o e=>hsb1.extBut a o (Nat.ne_of_lt (Heap.lt_size e)) (Heap.get?_push_of_some _ e)
 rw[hsz] at hD2 ⊢
 rw[hC] at hns1 ⊢
 have kp4:∀a o,hz.get? a=some o->h1.get? a=some o:=λa o e=>kp3 a o (kp2 a o e)
 have za:ZA N p q:=⟨λk _=>oldlt _ _ hp1 k,λk _=>oldlt _ _ hp2 k⟩
 have hst0:ZSt N p q us ws 0 h1:=⟨kp4 _ _ hZ,kp4 _ _ hTI,⟨_,_,kp4 _ _ hTO⟩,hi1.at λo e=>kp4 _ o e,hi2.at λo e=>kp4 _ o e,hL1.at λo e=>kp4 _ o (kp _ o e),hL2.at λo e=>kp4 _ o (kp _ o e)⟩
 have rl:relabel scope env=relS sc scope:=vy he.scope
 have zE:ZE (compEnvC scope cl (N+6) env) x y:=⟨by show (relabel scope env).names.lookup _=_;rw[rl];exact zI (scOK.nd ok.ok) hmx,by show (relabel scope env).names.lookup _=_;rw[rl];exact zI (scOK.nd ok.ok) hmy,(scOK.no ok.ok hmx).2,(scOK.no ok.ok hmy).2,ok.kind,by rw[show (compEnvC scope cl (N+6) env).scope.kind=.function from ok.kind];rfl,beq_eq_false_iff_ne.mp hxy⟩
 have loop:=λtk=>zGb (X:=X) (A:=A) (R:=λv s₁=>wpAny (model X.prog X.w) A (spliced (backTo pos (starEach [] env))) (λvs s2=>wpAny (model X.prog X.w) A (PySem.call (.builtin "any") (v::vs)) (Out X bb s Q) NoE s2) NoE s₁) (kk:=kk) (p1:=p1) (p3:=p3) (p4:=p4) (p5:=p5) (p6:=p6) (cpos:=cpos) (scope:=scope) (it:=.Call (.Name "zip" p8) [ea,eb] [] p9) (tk:=tk) zE rfl hy.hA.hd hm za oldlt (lx▸c1) hst0 ⟨0,kp3 _ _ hD2⟩ hns1 (λa o e=>kp4 a o (kp a o e)) (zHB hr1 hvx hvy lx ly c3 c4) λh3 tk zs l1 l2 l3 l4=>args_nil (zGd hr1 hy.hA.hd l1 l2 l3 l4 f1 (by rw[<-lx,<-ly,zIu xs ys];exact hq))
 exact codeAny_compStart_list (loop _) (zN (wpAny_pyIter_zip (E:=NoE) (s:={ s₁ with heap:=h1,toks:=s₁.toks+([]:List (Str×Value)).length }) (Q:=λI' s'=>I'=.ref (N+4)/\s'={ s₁ with heap:=h1,toks:=s₁.toks+([]:List (Str×Value)).length }) hst0.1 ⟨rfl,rfl⟩) λI' s' q=>by
  obtain⟨rfl,rfl⟩:=q;exact loop _)⟩
end
end
noncomputable section
inductive Loc:List (Str×NameKind)->List (Option Val)->Str->Val->Prop where
 | z {x:Str} {k:NameKind} {v:Val} {ns:List (Str×NameKind)} {os:List (Option Val)}:Loc ((x,k)::ns) (some v::os) x v
 | s {x:Str} {v:Val} {p:Str×NameKind} {o:Option Val} {ns:List (Str×NameKind)} {os:List (Option Val)}:Loc ns os x v->Loc (p::ns) (o::os) x v
noncomputable abbrev L (sc:Scope)(os:List (Option Val)):M:=λx v=>Loc sc.names os x v
theorem Loc.mem {ns:List (Str×NameKind)}{os:List (Option Val)}{x:Str}{v:Val}(h:Loc ns os x v):x∈ns.map (·.1):=by
 induction h with
 | z=>exact .head _
 | s _ ih=>exact .tail _ ih
inductive Upd (loc:Bool):List (Str×NameKind)->List (Option Val)->Str->Val->List (Option Val)->Prop where
 | l {x:Str} {v:Val} {o:Option Val} {ns:List (Str×NameKind)} {os:List (Option Val)}:Upd loc ((x,.local)::ns) (o::os) x v (some v::os)
 | c {x:Str} {v:Val} {o:Option Val} {ns:List (Str×NameKind)} {os:List (Option Val)}:loc=false->Upd loc ((x,.cell)::ns) (o::os) x v (some v::os)
 | s {x:Str} {v:Val} {p:Str×NameKind} {o:Option Val} {ns:List (Str×NameKind)} {os os':List (Option Val)}:Upd loc ns os x v os'->Upd loc (p::ns) (o::os) x v (o::os')
theorem Upd.store {loc:Bool}{ns:List (Str×NameKind)}{os os':List (Option Val)}{x:Str}{v:Val}(h:Upd loc ns os x v os'):(x,NameKind.local)∈ns\/(loc=false/\(x,NameKind.cell)∈ns):=by
 induction h with
 | l=>exact .inl (.head _)
 | c h=>exact .inr ⟨h,.head _⟩
 | s _ ih=>exact ih.imp (.tail _) λq=>⟨q.1,.tail _ q.2⟩
theorem Upd.mem {loc:Bool}{ns:List (Str×NameKind)}{os os':List (Option Val)}{x:Str}{v:Val}(h:Upd loc ns os x v os'):x∈ns.map (·.1):=by
 rcases h.store with q | ⟨_,q⟩<;>exact List.mem_map_of_mem (f:=(·.1)) q
theorem Upd.up {loc:Bool}{ns:List (Str×NameKind)}{os os':List (Option Val)}{x:Str}{v:Val}(h:Upd loc ns os x v os')(hn:(ns.map (·.1)).Nodup):∀y w,Loc ns os' y w->(y=x/\w=v)\/(y≠x/\Loc ns os y w):=by
 induction h with
 | l=>
  intro y w q
  cases q with
  | z=>exact .inl ⟨rfl,rfl⟩
  | s q=>exact .inr ⟨λe=>(List.nodup_cons.mp hn).1 (e▸q.mem),.s q⟩
 | c _=>
  intro y w q
  cases q with
  | z=>exact .inl ⟨rfl,rfl⟩
  | s q=>exact .inr ⟨λe=>(List.nodup_cons.mp hn).1 (e▸q.mem),.s q⟩
 | s h ih=>
  intro y w q
  cases q with
  | z=>exact .inr ⟨λe=>(List.nodup_cons.mp hn).1 (e▸h.mem),.z⟩
  | s q=>exact(ih (List.nodup_cons.mp hn).2 y w q).imp id λr=>⟨r.1,.s r.2⟩
section
variable {X:Cx}{n:Nat}{sc:Scope}{m:M}{G:Gh}{e:Expr}{loc:Bool}{os os' os'':List (Option Val)}{v w:Val}
theorem Upd.put {x:Str}(h:Upd loc sc.names os x v os'):Put loc sc x v (L sc os) (L sc os'):=⟨h.store,λok=>h.up (scOK.nd ok)⟩
theorem Upd.bnd {x:Str}{pos:Pos}(h:Upd loc sc.names os x v os'):Bnd X loc sc (.Name x pos) v (L sc os) (L sc os'):=.name h.put
noncomputable abbrev One (v:Val)(G:Gh):QE:=λv' G'=>v'=v/\G'=G
noncomputable abbrev Rd (X:Cx)(n:Nat)(sc:Scope)(e:Expr)(m:M)(G:Gh)(v:Val):Prop:=Sn X n sc e m G (One v G)
noncomputable abbrev RdT (X:Cx)(n:Nat)(sc:Scope)(e:Expr)(m:M)(G:Gh)(t:Bool):Prop:=SnT X n sc e m G λt' G'=>t'=t/\G'=G
theorem Rd.to {Q:QE}(h:Rd X n sc e m G v)(q:Q v G):Sn X n sc e m G Q:=h.mono λv' G' ⟨a,b⟩=>by rw[a,b];exact q
theorem RdT.to {Q:Bool->Gh->Prop}{t:Bool}(h:RdT X n sc e m G t)(q:Q t G):SnT X n sc e m G Q:=h.mono λv' G' ⟨a,b⟩=>by rw[a,b];exact q
noncomputable abbrev O2 (X:Cx)(n:Nat)(f:Value->Value->Sem Value)(v w:Val)(G:Gh)(u:Val):Prop:=Op2 X n f v w G (One u G)
theorem O2.to {f:Value->Value->Sem Value}{u:Val}{Q:QE}(h:O2 X n f v w G u)(q:Q u G):Op2 X n f v w G Q:=⟨λa b c d e=>zA (Op2.go h a b c d e) λx s o=>o.elim λv' G' hv hr f h=>by obtain⟨rfl,rfl⟩:=h;exact .mk _ _ hv hr f q⟩
theorem Rd.var {x:Str}{pos:Pos}(h:Loc sc.names os x v):Rd X n sc (.Name x pos) (L sc os) G v:=Sn.var h ⟨rfl,rfl⟩
theorem Rd.int {i:Int}{k:Nat}{pos:Pos}:Rd X n sc (.Constant (.int i) k pos) m G (.int i):=Sn.int ⟨rfl,rfl⟩
theorem Rd.str {x:Str}{k:Nat}{pos:Pos}:Rd X n sc (.Constant (.str x) k pos) m G (.str x):=Sn.str ⟨rfl,rfl⟩
theorem Rd.tru {t:Bool}{k:Nat}{pos:Pos}:Rd X n sc (.Constant (.bool t) k pos) m G (.bool t):=Sn.tru ⟨rfl,rfl⟩
theorem Rd.noneC {k:Nat}{pos:Pos}:Rd X n sc (.Constant .none k pos) m G .none:=Sn.noneC ⟨rfl,rfl⟩
theorem Rd.neg {l:Expr}{i:Int}{pos:Pos}(h:Rd X n sc l m G (.int i)):Rd X n sc (.UnaryOp .USub l pos) m G (.int (-i)):=Sn.neg (h.to ⟨_,rfl,rfl,rfl⟩)
theorem Rd.glob {x:Str}{pos:Pos}(hg:Z7 X x v)(hk:Ze sc x):Rd X n sc (.Name x pos) m G v:=Sn.glob hg hk ⟨rfl,rfl⟩
inductive Zs:Str->Fld->Prop where
 | op:Zs "op" .op
 | dst:Zs "dst" .dst
 | args:Zs "args" .args
 | more:Zs "more" .more
 | is_volatile:Zs "is_volatile" .is_volatile
 | line:Zs "line" .line
 | number:Zs "number" .number
 | steps:Zs "steps" .steps
 | end_:Zs "end" .end_
 | name:Zs "name" .name
 | params:Zs "params" .params
 | is_static:Zs "is_static" .is_static
 | slots:Zs "slots" .slots
 | blocks:Zs "blocks" .blocks
 | registers:Zs "registers" .registers
 | has_value:Zs "has_value" .has_value
theorem Zs.eq {x:Str}{f:Fld}(h:Zs x f):x=f.txt:=by cases h<;>rfl
theorem Rd.attr {o:Expr}{attr:Str}{f:Fld}{a:Addr}{k:Cls}{fs:Fld->Option Val}{pos:Pos}(hc:Z5 X)(ha:Zs attr f)(h:Rd X n sc o m G (.ref a))(e:G a=some (.inst k fs))(ef:fs f=some w)
  (hs:∀env whole,attributeBase o attr env whole=whole:=by intro _ _;rfl):Rd X n sc (.Attribute o attr pos) m G w:=Sn.attr hc f ha.eq (h.to ⟨a,k,fs,w,rfl,e,ef,rfl,rfl⟩) hs
theorem Rd.idxT {o i:Expr}{pos:Pos}{vs:List Val}{j:Int}{u:Val}(h1:Rd X n sc o m G (.tup vs))(h2:Rd X n sc i m G (.int j))(hj:j.natAbs<cap)(hx:wW vs j=some u)(hs:∀x y,subscripted i false x y=operate [x,y] (getItem x y):=by intro _ _;rfl):Rd X n sc (.Subscript o i pos) m G u:=
 Sn.idx (h1.to (h2.to (.tup hj hx ⟨rfl,rfl⟩))) hs
theorem Rd.idxL {o i:Expr}{pos:Pos}{a:Addr}{vs:List Val}{j:Int}{u:Val}(h1:Rd X n sc o m G (.ref a))(e:G a=some (.list vs))(h2:Rd X n sc i m G (.int j))(hj:j.natAbs<cap)(hx:wW vs j=some u)(hs:∀x y,subscripted i false x y=operate [x,y] (getItem x y):=by intro _ _;rfl):Rd X n sc (.Subscript o i pos) m G u:=
 Sn.idx (h1.to (h2.to (.list e hj hx ⟨rfl,rfl⟩))) hs
theorem Rd.idxD {o i:Expr}{pos:Pos}{a:Addr}{es:List (Int×Val)}{j:Int}{u:Val}(h1:Rd X n sc o m G (.ref a))(e:G a=some (.dict es))(h2:Rd X n sc i m G (.int j))(hx:zq es j=some u)(hs:∀x y,subscripted i false x y=operate [x,y] (getItem x y):=by intro _ _;rfl):Rd X n sc (.Subscript o i pos) m G u:=
 Sn.idx (h1.to (h2.to (.dict e hx ⟨rfl,rfl⟩))) hs
theorem Rd.bin {l r:Expr}{op:Operator}{u:Val}{pos:Pos}(h1:Rd X n sc l m G v)(h2:Rd X n sc r m G w)(h:O2 X n (binaryOp op) v w G u):Rd X n sc (.BinOp l op r pos) m G u:=Sn.bin (h1.to (h2.to h))
theorem Rd.cmp {l r:Expr}{op:CmpOp}{u:Val}{pos:Pos}(h1:Rd X n sc l m G v)(h2:Rd X n sc r m G w)(h:O2 X n (compareOp op) v w G u)(hm:behindInMarks op r=false:=by with_unfolding_all rfl):Rd X n sc (.Compare l [op] [r] pos) m G u:=Sn.cmp (h1.to (h2.to h)) hm
theorem RdT.cmp {l r:Expr}{op:CmpOp}{t:Bool}{pos:Pos}(h1:Rd X n sc l m G v)(h2:Rd X n sc r m G w)(h:O2 X n (compareOp op) v w G (.bool t))(hm:behindInMarks op r=false:=by with_unfolding_all rfl):RdT X n sc (.Compare l [op] [r] pos) m G t:=SnT.cmp (h1.to (h2.to (h.to ⟨t,.bool t,rfl,rfl⟩))) hm
theorem Rd.inG {l:Expr}{x z:Str}{ks:List Str}{p pos:Pos}(hg:Zz X x ks)(hk:Ze sc x)(h:Rd X n sc l m G (.str z)):Rd X n sc (.Compare l [.In] [.Name x p] pos) m G (.bool (ks.contains z)):=Sn.inG hg hk (h.to ⟨z,rfl,rfl,rfl⟩)
theorem RdT.inG {l:Expr}{x z:Str}{ks:List Str}{p pos:Pos}(hg:Zz X x ks)(hk:Ze sc x)(h:Rd X n sc l m G (.str z)):RdT X n sc (.Compare l [.In] [.Name x p] pos) m G (ks.contains z):=SnT.inG hg hk (h.to ⟨z,rfl,rfl,rfl⟩)
theorem RdT.notinG {l:Expr}{x z:Str}{ks:List Str}{p pos:Pos}(hg:Zz X x ks)(hk:Ze sc x)(h:Rd X n sc l m G (.str z)):RdT X n sc (.Compare l [.NotIn] [.Name x p] pos) m G (!ks.contains z):=SnT.notinG hg hk (h.to ⟨z,rfl,rfl,rfl⟩)
theorem RdT.val {t:Bool}(h:Rd X n sc e m G v)(ht:Tru G v t)(hp:∀env whole,isTrue e env whole=(do let v <-whole;standAt e.pos;holding [v] (truthy v)):=by intro _ _;rfl):RdT X n sc e m G t:=SnT.val (h.to ⟨t,ht,rfl,rfl⟩) hp
theorem Rd.not {l:Expr}{t:Bool}{pos:Pos}(h:Rd X n sc l m G v)(ht:Tru G v t):Rd X n sc (.UnaryOp .Not l pos) m G (.bool (!t)):=Sn.not (h.to ⟨t,ht,rfl,rfl⟩)
theorem RdT.not {l:Expr}{t:Bool}{pos:Pos}(h:RdT X n sc l m G t):RdT X n sc (.UnaryOp .Not l pos) m G (!t):=SnT.not (h.to ⟨rfl,rfl⟩)
theorem Rd.and1 {a:Expr}{pos:Pos}(h:Rd X n sc a m G v):Rd X n sc (.BoolOp .And [a] pos) m G v:=Sn.and1 h
theorem Rd.or1 {a:Expr}{pos:Pos}(h:Rd X n sc a m G v):Rd X n sc (.BoolOp .Or [a] pos) m G v:=Sn.or1 h
theorem Rd.and {a c:Expr}{rest:List Expr}{pos:Pos}{p q:Bool}(h:Rd X n sc a m G (.bool p))(k:p=true->Rd X n sc (.BoolOp .And (c::rest) pos) m G (.bool q)):Rd X n sc (.BoolOp .And (a::c::rest) pos) m G (.bool (p&&q)):=
 Sn.and (h.to ⟨p,.bool p,λe=>by rw[e];exact k e,λe=>by rw[e];exact⟨rfl,rfl⟩⟩)
theorem Rd.or {a c:Expr}{rest:List Expr}{pos:Pos}{p q:Bool}(h:Rd X n sc a m G (.bool p))(k:p=false->Rd X n sc (.BoolOp .Or (c::rest) pos) m G (.bool q)):Rd X n sc (.BoolOp .Or (a::c::rest) pos) m G (.bool (p||q)):=
 Sn.or (h.to ⟨p,.bool p,λe=>by rw[e];exact⟨rfl,rfl⟩,λe=>by rw[e];exact k e⟩)
theorem RdT.and1 {a:Expr}{pos:Pos}{t:Bool}(h:RdT X n sc a m G t):RdT X n sc (.BoolOp .And [a] pos) m G t:=SnT.and1 h
theorem RdT.or1 {a:Expr}{pos:Pos}{t:Bool}(h:RdT X n sc a m G t):RdT X n sc (.BoolOp .Or [a] pos) m G t:=SnT.or1 h
theorem RdT.and {a c:Expr}{rest:List Expr}{pos:Pos}{p q:Bool}(h:RdT X n sc a m G p)(k:p=true->RdT X n sc (.BoolOp .And (c::rest) pos) m G q):RdT X n sc (.BoolOp .And (a::c::rest) pos) m G (p&&q):=
 SnT.and (h.to ⟨λe=>by rw[e];exact k e,λe=>by rw[e];exact⟨rfl,rfl⟩⟩)
theorem RdT.or {a c:Expr}{rest:List Expr}{pos:Pos}{p q:Bool}(h:RdT X n sc a m G p)(k:p=false->RdT X n sc (.BoolOp .Or (c::rest) pos) m G q):RdT X n sc (.BoolOp .Or (a::c::rest) pos) m G (p||q):=
 SnT.or (h.to ⟨λe=>by rw[e];exact⟨rfl,rfl⟩,λe=>by rw[e];exact k e⟩)
theorem Rd.ite {t a c:Expr}{pos:Pos}{r:Bool}(h:RdT X n sc t m G r)(ha:r=true->Rd X n sc a m G v)(hb:r=false->Rd X n sc c m G w):Rd X n sc (.IfExp t a c pos) m G (if r then v else w):=
 Sn.ite (h.to ⟨λe=>by rw[if_pos e];exact ha e,λe=>by rw[if_neg (by rw[e];decide)];exact hb e⟩)
noncomputable abbrev Rds (X:Cx)(n:Nat)(sc:Scope)(es:List Expr)(m:M)(G:Gh)(vs:List Val):Prop:=SnEs X n sc es m G λvs' G'=>vs'=vs/\G'=G
theorem Rds.to {es:List Expr}{vs:List Val}{Q:List Val->Gh->Prop}(h:Rds X n sc es m G vs)(q:Q vs G):SnEs X n sc es m G Q:=⟨λhy=>h.use hy λys s₁ vs' G1 hv hy1 f1 h1=>by obtain⟨rfl,rfl⟩:=h1;exact .mk _ _ hv hy1.hr f1 q⟩
theorem Rds.nil:Rds X n sc [] m G []:=SnEs.nil ⟨rfl,rfl⟩
theorem Rds.cons {es:List Expr}{vs:List Val}(h:Rd X n sc e m G v)(k:Rds X n sc es m G vs)(hp:∀env,starEach (e::es) env=(false,eval e env)::starEach es env:=by intro _;rfl):Rds X n sc (e::es) m G (v::vs):=SnEs.cons (h.to (k.to ⟨rfl,rfl⟩)) hp
theorem zEg {k:Nat}(h:Nat.ble k 1000=true):k<cap:=by have:=Nat.le_of_ble_eq_true h;unfold cap;omega
theorem Rd.tup {es:List Expr}{vs:List Val}{k:Nat}{pos:Pos}(h:Rds X n sc es m G vs)(hl:Nat.ble vs.length 1000=true:=by rfl):Rd X n sc (.Tuple es k pos) m G (.tup vs):=Sn.tup (h.to ⟨zEg hl,rfl,rfl⟩)
theorem Sn.listR {es:List Expr}{vs:List Val}{Q:QE}{pos:Pos}(h:Rds X n sc es m G vs)(q:newList vs G Q)(hl:Nat.ble vs.length 1000=true:=by rfl):Sn X n sc (.List es pos) m G Q:=Sn.list (h.to ⟨zEg hl,q⟩)
theorem Rd.fn {id:String}{es:List Expr}{vs:List Val}{p pos:Pos}(hx:Zx X)(h1:id∈(["len","list","sorted","any","all","sum","int","abs","min","set","range","enumerate","zip","isinstance","bool"]:List String))(h2:id∈(["len","sorted","any","all","sum","abs","min","isinstance"]:List String))
  (hk:Ze sc (Str.ofString id)) (hn:Zj es) (h:Rds X n sc es m G vs) (k:Blt X n (.builtin id) vs G (One v G)):Rd X n sc (.Call (.Name (Str.ofString id) p) es [] pos) m G v:=Sn.fn hx h1 h2 hk hn (h.to k)
theorem SnB.assign {Q:QS}{id:Str}{p pos:Pos}{sts:List Stmt}(h:Rd X n sc e (L sc os) G v)(u:Upd false sc.names os id v os')(k:SnB X n sc sts (L sc os') G Q)(hsw:∀env,swapsWith e (some (.Name id p)) pos.line env=pure false:=by intro _;rfl):SnB X n sc (.Assign [.Name id p] e pos::sts) (L sc os) G Q:=
 .cons (.assign (h.to ⟨_,u.put,.next k⟩) hsw)
inductive AssP (X:Cx)(n:Nat)(sc:Scope)(os:List (Option Val))(x:Str)(sts:List Stmt)(Q:QS)(v:Val)(G':Gh):Prop where
 | mk (os':List (Option Val)) (h1:Upd false sc.names os x v os') (h2:SnB X n sc sts (L sc os') G' Q)
theorem SnB.assignQ {Q:QS}{id:Str}{p pos:Pos}{sts:List Stmt}(h:Sn X n sc e (L sc os) G (AssP X n sc os id sts Q))(hsw:∀env,swapsWith e (some (.Name id p)) pos.line env=pure false:=by intro _;rfl):SnB X n sc (.Assign [.Name id p] e pos::sts) (L sc os) G Q:=
 .cons (.assign (h.mono λv G' q=>by cases q with | mk os' u k=>exact⟨_,u.put,.next k⟩) hsw)
theorem SnB.ret {Q:QS}{pos:Pos}{sts:List Stmt}(h:Sn X n sc e m G λv G'=>Q (.ret v) m G'):SnB X n sc (.Return (some e) pos::sts) m G Q:=.cons (.ret (h.mono λ_ _ q=>.ret q))
theorem SnB.retB {Q:QE}{pos:Pos}{sts:List Stmt}(h:Sn X n sc e m G Q):SnB X n sc (.Return (some e) pos::sts) m G (Back Q):=SnB.ret (h.mono λ_ _ q=>.ret q)
theorem SnB.expr {Q:QS}{pos:Pos}{sts:List Stmt}(h:Sn X n sc e m G λv G'=>SnB X n sc sts m G' Q)(hsw:∀env,swapsWith e .none pos.line env=pure false:=by intro _;rfl):SnB X n sc (.Expr e pos::sts) m G Q:=.cons (.expr (h.mono λ_ _ q=>.next q) hsw)
theorem SnB.ifs {Q:QS}{t:Expr}{a c sts:List Stmt}{pos:Pos}{r:Bool}(h:RdT X n sc t m G r)(ha:r=true->SnB X n sc a m G (Then X n sc sts Q))(hb:r=false->SnB X n sc c m G (Then X n sc sts Q)):SnB X n sc (.If t a c pos::sts) m G Q:=.cons (.ifs (h.to ⟨ha,hb⟩))
theorem SnB.nilT {Q:QS}{sts:List Stmt}(h:SnB X n sc sts m G Q):SnB X n sc [] m G (Then X n sc sts Q):=.nil (.next h)
theorem SnB.retT {Q:QE}{pos:Pos}{sts rest:List Stmt}(h:Sn X n sc e m G Q):SnB X n sc (.Return (some e) pos::rest) m G (Then X n sc sts (Back Q)):=SnB.ret (h.mono λ_ _ q=>.ret (.ret q))
theorem SnB.cont {Q:QS}{pos:Pos}{sts:List Stmt}(q:Q .cont m G):SnB X n sc (.Continue pos::sts) m G Q:=.cons (.cont (.cont q))
theorem Bnds.two {x y:Str}{p1 p2:Pos}(u1:Upd loc sc.names os x v os')(u2:Upd loc sc.names os' y w os''):Bnds X loc sc [.Name x p1,.Name y p2] [v,w] (L sc os) (L sc os''):=.cons u1.bnd (.cons u2.bnd .nil)
theorem SnB.assign2 {Q:QS}{x y:Str}{k:Nat}{p1 p2 p pos:Pos}{sts:List Stmt}(h:Rd X n sc e (L sc os) G (.tup [v,w]))(u1:Upd false sc.names os x v os')(u2:Upd false sc.names os' y w os'')(kk:SnB X n sc sts (L sc os'') G Q)
  (hsw:∀env,swapsWithSole [.Tuple [.Name x p1,.Name y p2] k p] e pos.line env=pure false:=by intro _;rfl) (hw:∀env,swappedStores [.Tuple [.Name x p1,.Name y p2] k p] e env=pure .none:=by intro _;rfl):SnB X n sc (.Assign [.Tuple [.Name x p1,.Name y p2] k p] e pos::sts) (L sc os) G Q:=
 .cons (.assignT (h.to ⟨_,.tup (.two u1 u2),.next kk⟩) hsw hw)
theorem Sn.ref {f:Addr}{Q:QE}{id:Str}{es:List Expr}{vs:List Val}{p pos:Pos}(hd:Zc X id f)(hk:Ze sc id)(hn:Zj es)(h:Rds X n sc es m G vs)(k:Cal X n f vs G Q):Sn X n sc (.Call (.Name id p) es [] pos) m G Q:=Sn.call hd hk hn (h.to k)
end
end
noncomputable section
set_option maxRecDepth 100000
set_option maxHeartbeats 0
noncomputable def pst (i:Nat):Stmt:=(PySem.Challenge.pw_nm0021_01.main.body[i]?).getD (.Pass ⟨0,0,0,0⟩)
noncomputable def cst (s:Stmt):Stmt:=if h:s.ctorIdx=2 then Stmt.ClassDef.elim (motive_2:=λ_=>Stmt) s h (λ_ _ _ b _ _ _ _ _ _ _=>b.headD s) else s
noncomputable def fdX {α:Type}(d:α)(f:Arguments->List Stmt->Scope->α)(s:Stmt):α:=if h:s.ctorIdx=0 then Stmt.FunctionDef.elim (motive_2:=λ_=>α) s h (λ_ a b _ _ _ s _ _ _=>f a b s) else d
noncomputable def fdA:Stmt->Arguments:=fdX ⟨[],[],none,[],[],none,[]⟩ λa _ _=>a
noncomputable def fdB:Stmt->List Stmt:=fdX [] λ_ b _=>b
noncomputable def fdS:Stmt->Scope:=fdX default λ_ _ s=>s
noncomputable def dE (P:Params)(s:Str)(t:Tok)(v:Value):DictEntry:={ hash:=PyData.keyHash P s,key:=.str s t,val:=v }
noncomputable def fO (nm qn:Str)(s:Stmt)(md:Str)(t:Tok)(c:Addr):Obj:={ cls:=.type "function",data:=.func { name:=nm,qualname:=qn,params:=fdA s,body:=.stmts (fdB s),scope:=fdS s,globals:=3,closure:=[],defaults:=.none,kwdefaults:=.none,pyModule:=.str md t,code:=.ref c } }
noncomputable def cO (nm qn:Str)(t:Nat)(ln n f:Int)(r:Nat)(x y:Value)(z m:Nat):Obj:={ cls:=.type "code",data:=.fields #[.str nm t,.str qn (t+1),.str "/claim/cut.py" (t+2),.int ln 0,.int n 0,.int 0 0,.int 0 0,.int f 0,.ref r,.bool true,.int 181 0,.ref (r+1),.none,x,y,.ref z,.int m 0,.int ln 0,.str "/claim/cut.py" (m+1)] }
noncomputable def ko2 (P:Params):Obj:={ cls:=.none,data:=.dict #[] }
noncomputable def ko3 (P:Params):Obj:={ cls:=.type "dict",data:=.dict #[dE P "__name__" 165 (.str "law_nm0021_01" 588),dE P "__doc__" 166 .none,dE P "__package__" 167 .none,dE P "__loader__" 168 (.builtin "__main__.__loader__#opaque"),dE P "__spec__" 169 .none,dE P "__annotations__" 170 (.ref 6),dE P "__builtins__" 171 (.ref 4),dE P "__file__" 173 (.str "/claim/cut.py" 172),dE P "__cached__" 174 .none,dE P "Step" 225 (.ref 31),dE P "Block" 256 (.ref 52),dE P "Func" 291 (.ref 73),dE P "followers" 299 (.ref 84),dE P "ROUND" 305 (.int 4294967296 304),dE P "EFFECTS" 318 (.ref 85),dE P "DIVISIONS" 331 (.ref 86),dE P "has_effect" 338 (.ref 93),dE P "can_fault" 347 (.ref 100),dE P "is_plain" 354 (.ref 107),dE P "preds" 360 (.ref 112),dE P "postorder" 372 (.ref 119),dE P "in_place_of" 384 (.ref 126),dE P "CALLS" 393 (.ref 127),dE P "SELDOM_FREE" 421 (.ref 128),dE P "slot_steps" 431 (.ref 135),dE P "times_set" 443 (.ref 142),dE P "slot_registers" 455 (.ref 149),dE P "is_free" 466 (.ref 156),dE P "need_ahead" 479 (.ref 163),dE P "need_behind" 489 (.ref 170),dE P "needs_ahead" 506 (.ref 177),dE P "without_register" 513 (.ref 184),dE P "swept_steps" 527 (.ref 191),dE P "sweep_steps" 533 (.ref 196),dE P "is_plain_store" 543 (.ref 203),dE P "taken_slots" 560 (.ref 210),dE P "is_store_to" 571 (.ref 217),dE P "sweep_stores" 577 (.ref 222),dE P "sweep_func" 587 (.ref 229),dE P "_law_SIZE" 591 (.int 4294967296 590),dE P "_law_HALF" 593 (.int 2147483648 592),dE P "_law_OBJECT" 595 (.int 8192 594),dE P "_law_REST" 606 (.ref 230),dE P "_law_TWO" 619 (.ref 231),dE P "_law_OVER" 624 (.ref 232),dE P "_law_ONE" 632 (.ref 233),dE P "_law_numbers" 638 (.ref 238),dE P "_law_counting" 650 (.ref 245),dE P "_law_parting" 661 (.ref 252),dE P "_law_roads" 673 (.ref 259),dE P "_law_rows" 687 (.ref 266),dE P "_law_program" 702 (.ref 273),dE P "_law_made" 720 (.ref 280),dE P "_law_signed" 727 (.ref 287),dE P "_law_over" 740 (.ref 294),dE P "_law_word" 749 (.ref 301),dE P "_law_turned" 757 (.ref 308),dE P "_law_is_there" 767 (.ref 315),dE P "_law_get" 779 (.ref 322),dE P "_law_put" 790 (.ref 329),dE P "_law_access" 803 (.ref 336),dE P "_law_value" 814 (.ref 343),dE P "_law_run" 820 (.ref 348),dE P "_law_listing" 826 (.ref 353),dE P "_law_ends" 832 (.ref 358),dE P "_law_is_less" 846 (.ref 365),dE P "_law_bound" 859 (.ref 372),dE P "law" 865 (.ref 377)] 68 }
noncomputable def ko27 (P:Params):Obj:=cO "__init__" "Step.__init__" 201 4 5 3 22 (.ref 24) (.ref 25) 26 209
noncomputable def ko28 (P:Params):Obj:=fO "__init__" "Step.__init__" (cst (pst 1)) "corecc.code" 187 27
noncomputable def ko30 (P:Params):Obj:={ cls:=.type "dict",data:=.dict #[dE P "__module__" 196 (.str "corecc.code" 187),dE P "__firstlineno__" 200 (.int 2 199),dE P "__init__" 211 (.ref 28),dE P "__static_attributes__" 218 (.ref 29),dE P "__dict__" 220 (.ref 32),dE P "__weakref__" 222 (.ref 33),dE P "__doc__" 223 .none] 4 }
noncomputable def ko31 (P:Params):Obj:={ cls:=.type "type",data:=.cls { name:="Step",bases:=[.type "object"],mro:=[.ref 31,.type "object"],ns:=30,qualname:="Step" },slots:=#[none,none,some (.str "Step" 189),some (.str "Step" 197),some (.builtin "object.__new__"),some (.bool true)] }
noncomputable def ko48 (P:Params):Obj:=cO "__init__" "Block.__init__" 238 13 2 3 43 (.ref 45) (.ref 46) 47 243
noncomputable def ko49 (P:Params):Obj:=fO "__init__" "Block.__init__" (cst (pst 2)) "corecc.code" 187 48
noncomputable def ko51 (P:Params):Obj:={ cls:=.type "dict",data:=.dict #[dE P "__module__" 233 (.str "corecc.code" 187),dE P "__firstlineno__" 237 (.int 11 236),dE P "__init__" 245 (.ref 49),dE P "__static_attributes__" 249 (.ref 50),dE P "__dict__" 251 (.ref 53),dE P "__weakref__" 253 (.ref 54),dE P "__doc__" 254 .none] 4 }
noncomputable def ko52 (P:Params):Obj:={ cls:=.type "type",data:=.cls { name:="Block",bases:=[.type "object"],mro:=[.ref 52,.type "object"],ns:=51,qualname:="Block" },slots:=#[none,none,some (.str "Block" 226),some (.str "Block" 234),some (.builtin "object.__new__"),some (.bool true)] }
noncomputable def ko69 (P:Params):Obj:=cO "__init__" "Func.__init__" 269 19 2 3 64 (.ref 66) (.ref 67) 68 274
noncomputable def ko70 (P:Params):Obj:=fO "__init__" "Func.__init__" (cst (pst 3)) "corecc.code" 187 69
noncomputable def ko72 (P:Params):Obj:={ cls:=.type "dict",data:=.dict #[dE P "__module__" 264 (.str "corecc.code" 187),dE P "__firstlineno__" 268 (.int 17 267),dE P "__init__" 276 (.ref 70),dE P "__static_attributes__" 284 (.ref 71),dE P "__dict__" 286 (.ref 74),dE P "__weakref__" 288 (.ref 75),dE P "__doc__" 289 .none] 4 }
noncomputable def ko73 (P:Params):Obj:={ cls:=.type "type",data:=.cls { name:="Func",bases:=[.type "object"],mro:=[.ref 73,.type "object"],ns:=72,qualname:="Func" },slots:=#[none,none,some (.str "Func" 257),some (.str "Func" 265),some (.builtin "object.__new__"),some (.bool true)] }
noncomputable def ko83 (P:Params):Obj:=cO "followers" "followers" 292 27 1 3 78 (.ref 80) (.ref 81) 82 297
noncomputable def ko84 (P:Params):Obj:=fO "followers" "followers" (pst 4) "corecc.code" 187 83
noncomputable def ko85 (P:Params):Obj:={ cls:=.type "dict",data:=.dict #[dE P "store" 306 (.int 1 307),dE P "move" 308 (.int 1 309),dE P "call" 310 (.int 1 311),dE P "callreg" 312 (.int 1 313)] 4 }
noncomputable def ko86 (P:Params):Obj:={ cls:=.type "dict",data:=.dict #[dE P "div" 319 (.int 1 320),dE P "divu" 321 (.int 1 322),dE P "rem" 323 (.int 1 324),dE P "remu" 325 (.int 1 326)] 4 }
noncomputable def ko92 (P:Params):Obj:=cO "has_effect" "has_effect" 332 40 1 3 87 (.ref 89) (.ref 90) 91 336
noncomputable def ko93 (P:Params):Obj:=fO "has_effect" "has_effect" (pst 9) "corecc.flow" 300 92
noncomputable def ko99 (P:Params):Obj:=cO "can_fault" "can_fault" 339 42 1 3 94 (.ref 96) (.ref 97) 98 345
noncomputable def ko100 (P:Params):Obj:=fO "can_fault" "can_fault" (pst 10) "corecc.flow" 300 99
noncomputable def ko106 (P:Params):Obj:=cO "is_plain" "is_plain" 348 49 1 3 101 (.ref 103) (.ref 104) 105 352
noncomputable def ko107 (P:Params):Obj:=fO "is_plain" "is_plain" (pst 11) "corecc.flow" 300 106
noncomputable def ko111 (P:Params):Obj:=cO "preds" "preds" 355 51 1 3 108 .none .none 110 358
noncomputable def ko112 (P:Params):Obj:=fO "preds" "preds" (pst 12) "corecc.flow" 300 111
noncomputable def ko118 (P:Params):Obj:=cO "postorder" "postorder" 361 58 1 3 113 (.ref 115) (.ref 116) 117 370
noncomputable def ko119 (P:Params):Obj:=fO "postorder" "postorder" (pst 13) "corecc.flow" 300 118
noncomputable def ko125 (P:Params):Obj:=cO "in_place_of" "in_place_of" 373 74 5 3 120 (.ref 122) (.ref 123) 124 382
noncomputable def ko126 (P:Params):Obj:=fO "in_place_of" "in_place_of" (pst 14) "corecc.flow" 300 125
noncomputable def ko127 (P:Params):Obj:={ cls:=.type "dict",data:=.dict #[dE P "call" 387 (.int 1 388),dE P "callreg" 389 (.int 1 390)] 2 }
noncomputable def ko128 (P:Params):Obj:={ cls:=.type "dict",data:=.dict #[dE P "load" 394 (.int 1 395),dE P "store" 396 (.int 1 397),dE P "move" 398 (.int 1 399),dE P "call" 400 (.int 1 401),dE P "callreg" 402 (.int 1 403),dE P "div" 404 (.int 1 405),dE P "divu" 406 (.int 1 407),dE P "rem" 408 (.int 1 409),dE P "remu" 410 (.int 1 411)] 9 }
noncomputable def ko134 (P:Params):Obj:=cO "slot_steps" "slot_steps" 422 81 1 3 129 (.ref 131) (.ref 132) 133 429
noncomputable def ko135 (P:Params):Obj:=fO "slot_steps" "slot_steps" (pst 18) "corecc.dead" 385 134
noncomputable def ko141 (P:Params):Obj:=cO "times_set" "times_set" 432 88 2 3 136 (.ref 138) (.ref 139) 140 441
noncomputable def ko142 (P:Params):Obj:=fO "times_set" "times_set" (pst 19) "corecc.dead" 385 141
noncomputable def ko148 (P:Params):Obj:=cO "slot_registers" "slot_registers" 444 97 1 3 143 (.ref 145) (.ref 146) 147 453
noncomputable def ko149 (P:Params):Obj:=fO "slot_registers" "slot_registers" (pst 20) "corecc.dead" 385 148
noncomputable def ko155 (P:Params):Obj:=cO "is_free" "is_free" 456 109 3 3 150 (.ref 152) (.ref 153) 154 464
noncomputable def ko156 (P:Params):Obj:=fO "is_free" "is_free" (pst 21) "corecc.dead" 385 155
noncomputable def ko162 (P:Params):Obj:=cO "need_ahead" "need_ahead" 467 116 4 3 157 (.ref 159) (.ref 160) 161 477
noncomputable def ko163 (P:Params):Obj:=fO "need_ahead" "need_ahead" (pst 22) "corecc.dead" 385 162
noncomputable def ko169 (P:Params):Obj:=cO "need_behind" "need_behind" 480 129 2 3 164 (.ref 166) (.ref 167) 168 487
noncomputable def ko170 (P:Params):Obj:=fO "need_behind" "need_behind" (pst 23) "corecc.dead" 385 169
noncomputable def ko176 (P:Params):Obj:=cO "needs_ahead" "needs_ahead" 490 134 2 3 171 (.ref 173) (.ref 174) 175 504
noncomputable def ko177 (P:Params):Obj:=fO "needs_ahead" "needs_ahead" (pst 24) "corecc.dead" 385 176
noncomputable def ko183 (P:Params):Obj:=cO "without_register" "without_register" 507 156 1 3 178 (.ref 180) (.ref 181) 182 511
noncomputable def ko184 (P:Params):Obj:=fO "without_register" "without_register" (pst 25) "corecc.dead" 385 183
noncomputable def ko190 (P:Params):Obj:=cO "swept_steps" "swept_steps" 514 158 4 3 185 (.ref 187) (.ref 188) 189 525
noncomputable def ko191 (P:Params):Obj:=fO "swept_steps" "swept_steps" (pst 26) "corecc.dead" 385 190
noncomputable def ko195 (P:Params):Obj:=cO "sweep_steps" "sweep_steps" 528 177 2 3 192 .none .none 194 531
noncomputable def ko196 (P:Params):Obj:=fO "sweep_steps" "sweep_steps" (pst 27) "corecc.dead" 385 195
noncomputable def ko202 (P:Params):Obj:=cO "is_plain_store" "is_plain_store" 534 187 4 3 197 (.ref 199) (.ref 200) 201 541
noncomputable def ko203 (P:Params):Obj:=fO "is_plain_store" "is_plain_store" (pst 28) "corecc.dead" 385 202
noncomputable def ko209 (P:Params):Obj:=cO "taken_slots" "taken_slots" 544 191 3 3 204 (.ref 206) (.ref 207) 208 558
noncomputable def ko210 (P:Params):Obj:=fO "taken_slots" "taken_slots" (pst 29) "corecc.dead" 385 209
noncomputable def ko216 (P:Params):Obj:=cO "is_store_to" "is_store_to" 561 204 3 3 211 (.ref 213) (.ref 214) 215 569
noncomputable def ko217 (P:Params):Obj:=fO "is_store_to" "is_store_to" (pst 30) "corecc.dead" 385 216
noncomputable def ko221 (P:Params):Obj:=cO "sweep_stores" "sweep_stores" 572 209 3 3 218 .none .none 220 575
noncomputable def ko222 (P:Params):Obj:=fO "sweep_stores" "sweep_stores" (pst 31) "corecc.dead" 385 221
noncomputable def ko228 (P:Params):Obj:=cO "sweep_func" "sweep_func" 578 220 1 3 223 (.ref 225) (.ref 226) 227 585
noncomputable def ko229 (P:Params):Obj:=fO "sweep_func" "sweep_func" (pst 32) "corecc.dead" 385 228
noncomputable def ko230 (P:Params):Obj:={ cls:=.type "tuple",data:=.seq #[.int 9 596,.int 40 597,.int 3 598,.int 1000 599,.int 5 600,.int 2 601,.int 1541 602,.int 6342 603,.int 965 604,.int 20 605] }
noncomputable def ko231 (P:Params):Obj:={ cls:=.type "tuple",data:=.seq #[.str "add" 607,.str "sub" 608,.str "mul" 609,.str "and" 610,.str "or" 611,.str "xor" 612,.str "lt" 613,.str "ltu" 614,.str "eq" 615,.str "ne" 616,.str "shl" 617,.str "sar" 618] }
noncomputable def ko232 (P:Params):Obj:={ cls:=.type "tuple",data:=.seq #[.str "div" 620,.str "divu" 621,.str "rem" 622,.str "remu" 623] }
noncomputable def ko233 (P:Params):Obj:={ cls:=.type "tuple",data:=.seq #[.str "copy" 625,.str "neg" 626,.str "not" 627,.str "sx8" 628,.str "sx16" 629,.str "zx8" 630,.str "zx16" 631] }
noncomputable def ko237 (P:Params):Obj:=cO "_law_numbers" "_law_numbers" 633 234 1 3 234 .none .none 236 636
noncomputable def ko238 (P:Params):Obj:=fO "_law_numbers" "_law_numbers" (pst 41) "law_nm0021_01" 588 237
noncomputable def ko244 (P:Params):Obj:=cO "_law_counting" "_law_counting" 639 237 3 3 239 (.ref 241) (.ref 242) 243 648
noncomputable def ko245 (P:Params):Obj:=fO "_law_counting" "_law_counting" (pst 42) "law_nm0021_01" 588 244
noncomputable def ko251 (P:Params):Obj:=cO "_law_parting" "_law_parting" 651 244 3 3 246 (.ref 248) (.ref 249) 250 659
noncomputable def ko252 (P:Params):Obj:=fO "_law_parting" "_law_parting" (pst 43) "law_nm0021_01" 588 251
noncomputable def ko258 (P:Params):Obj:=cO "_law_roads" "_law_roads" 662 248 5 3 253 (.ref 255) (.ref 256) 257 671
noncomputable def ko259 (P:Params):Obj:=fO "_law_roads" "_law_roads" (pst 44) "law_nm0021_01" 588 258
noncomputable def ko265 (P:Params):Obj:=cO "_law_rows" "_law_rows" 674 257 1 3 260 (.ref 262) (.ref 263) 264 685
noncomputable def ko266 (P:Params):Obj:=fO "_law_rows" "_law_rows" (pst 45) "law_nm0021_01" 588 265
noncomputable def ko272 (P:Params):Obj:=cO "_law_program" "_law_program" 688 288 1 3 267 (.ref 269) (.ref 270) 271 700
noncomputable def ko273 (P:Params):Obj:=fO "_law_program" "_law_program" (pst 46) "law_nm0021_01" 588 272
noncomputable def ko279 (P:Params):Obj:=cO "_law_made" "_law_made" 703 304 2 3 274 (.ref 276) (.ref 277) 278 718
noncomputable def ko280 (P:Params):Obj:=fO "_law_made" "_law_made" (pst 47) "law_nm0021_01" 588 279
noncomputable def ko286 (P:Params):Obj:=cO "_law_signed" "_law_signed" 721 319 1 3 281 (.ref 283) (.ref 284) 285 725
noncomputable def ko287 (P:Params):Obj:=fO "_law_signed" "_law_signed" (pst 48) "law_nm0021_01" 588 286
noncomputable def ko293 (P:Params):Obj:=cO "_law_over" "_law_over" 728 321 3 3 288 (.ref 290) (.ref 291) 292 738
noncomputable def ko294 (P:Params):Obj:=fO "_law_over" "_law_over" (pst 49) "law_nm0021_01" 588 293
noncomputable def ko300 (P:Params):Obj:=cO "_law_word" "_law_word" 741 330 3 3 295 (.ref 297) (.ref 298) 299 747
noncomputable def ko301 (P:Params):Obj:=fO "_law_word" "_law_word" (pst 50) "law_nm0021_01" 588 300
noncomputable def ko307 (P:Params):Obj:=cO "_law_turned" "_law_turned" 750 356 2 3 302 (.ref 304) (.ref 305) 306 755
noncomputable def ko308 (P:Params):Obj:=fO "_law_turned" "_law_turned" (pst 51) "law_nm0021_01" 588 307
noncomputable def ko314 (P:Params):Obj:=cO "_law_is_there" "_law_is_there" 758 368 2 3 309 (.ref 311) (.ref 312) 313 765
noncomputable def ko315 (P:Params):Obj:=fO "_law_is_there" "_law_is_there" (pst 52) "law_nm0021_01" 588 314
noncomputable def ko321 (P:Params):Obj:=cO "_law_get" "_law_get" 768 373 4 3 316 (.ref 318) (.ref 319) 320 777
noncomputable def ko322 (P:Params):Obj:=fO "_law_get" "_law_get" (pst 53) "law_nm0021_01" 588 321
noncomputable def ko328 (P:Params):Obj:=cO "_law_put" "_law_put" 780 378 4 3 323 (.ref 325) (.ref 326) 327 788
noncomputable def ko329 (P:Params):Obj:=fO "_law_put" "_law_put" (pst 54) "law_nm0021_01" 588 328
noncomputable def ko335 (P:Params):Obj:=cO "_law_access" "_law_access" 791 381 4 3 330 (.ref 332) (.ref 333) 334 801
noncomputable def ko336 (P:Params):Obj:=fO "_law_access" "_law_access" (pst 55) "law_nm0021_01" 588 335
noncomputable def ko342 (P:Params):Obj:=cO "_law_value" "_law_value" 804 395 4 3 337 (.ref 339) (.ref 340) 341 812
noncomputable def ko343 (P:Params):Obj:=fO "_law_value" "_law_value" (pst 56) "law_nm0021_01" 588 342
noncomputable def ko347 (P:Params):Obj:=cO "_law_run" "_law_run" 815 410 1 3 344 .none .none 346 818
noncomputable def ko348 (P:Params):Obj:=fO "_law_run" "_law_run" (pst 57) "law_nm0021_01" 588 347
noncomputable def ko352 (P:Params):Obj:=cO "_law_listing" "_law_listing" 821 432 1 3 349 .none .none 351 824
noncomputable def ko353 (P:Params):Obj:=fO "_law_listing" "_law_listing" (pst 58) "law_nm0021_01" 588 352
noncomputable def ko357 (P:Params):Obj:=cO "_law_ends" "_law_ends" 827 434 1 3 354 .none .none 356 830
noncomputable def ko358 (P:Params):Obj:=fO "_law_ends" "_law_ends" (pst 59) "law_nm0021_01" 588 357
noncomputable def ko364 (P:Params):Obj:=cO "_law_is_less" "_law_is_less" 833 436 2 3 359 (.ref 361) (.ref 362) 363 844
noncomputable def ko365 (P:Params):Obj:=fO "_law_is_less" "_law_is_less" (pst 60) "law_nm0021_01" 588 364
noncomputable def ko371 (P:Params):Obj:=cO "_law_bound" "_law_bound" 847 443 1 3 366 (.ref 368) (.ref 369) 370 857
noncomputable def ko372 (P:Params):Obj:=fO "_law_bound" "_law_bound" (pst 61) "law_nm0021_01" 588 371
noncomputable def ko376 (P:Params):Obj:=cO "law" "law" 860 449 1 3 373 .none .none 375 863
noncomputable def ko377 (P:Params):Obj:=fO "law" "law" (pst 62) "law_nm0021_01" 588 376
noncomputable def as0:List Nat:=[2,3,27,28,30,31,48,49,51,52,69,70,72,73,83,84,85,86,92,93,99,100,106,107,111,112,118,119,125,126,127,128,134,135,141,142,148,149,155,156,162,163,169,170,176,177,183,184,190,191,195,196,202,203,209,210,216,217,221,222,228,229,230,231,232,233,237,238,244,245,251,252,258,259,265,266,272,273,279,280,286,287,293,294,300,301,307,308,314,315,321,322,328,329,335,336,342,343,347,348,352,353,357,358,364,365,371,372,376,377]
noncomputable def K0 (P:Params):Frag:=[(2,ko2 P),(3,ko3 P),(27,ko27 P),(28,ko28 P),(30,ko30 P),(31,ko31 P),(48,ko48 P),(49,ko49 P),(51,ko51 P),(52,ko52 P),(69,ko69 P),(70,ko70 P),(72,ko72 P),(73,ko73 P),(83,ko83 P),(84,ko84 P),(85,ko85 P),(86,ko86 P),(92,ko92 P),(93,ko93 P),(99,ko99 P),(100,ko100 P),(106,ko106 P),(107,ko107 P),(111,ko111 P),(112,ko112 P),(118,ko118 P),(119,ko119 P),(125,ko125 P),(126,ko126 P),(127,ko127 P),(128,ko128 P),(134,ko134 P),(135,ko135 P),(141,ko141 P),(142,ko142 P),(148,ko148 P),(149,ko149 P),(155,ko155 P),(156,ko156 P),(162,ko162 P),(163,ko163 P),(169,ko169 P),(170,ko170 P),(176,ko176 P),(177,ko177 P),(183,ko183 P),(184,ko184 P),(190,ko190 P),(191,ko191 P),(195,ko195 P),(196,ko196 P),(202,ko202 P),(203,ko203 P),(209,ko209 P),(210,ko210 P),(216,ko216 P),(217,ko217 P),(221,ko221 P),(222,ko222 P),(228,ko228 P),(229,ko229 P),(230,ko230 P),(231,ko231 P),(232,ko232 P),(233,ko233 P),(237,ko237 P),(238,ko238 P),(244,ko244 P),(245,ko245 P),(251,ko251 P),(252,ko252 P),(258,ko258 P),(259,ko259 P),(265,ko265 P),(266,ko266 P),(272,ko272 P),(273,ko273 P),(279,ko279 P),(280,ko280 P),(286,ko286 P),(287,ko287 P),(293,ko293 P),(294,ko294 P),(300,ko300 P),(301,ko301 P),(307,ko307 P),(308,ko308 P),(314,ko314 P),(315,ko315 P),(321,ko321 P),(322,ko322 P),(328,ko328 P),(329,ko329 P),(335,ko335 P),(336,ko336 P),(342,ko342 P),(343,ko343 P),(347,ko347 P),(348,ko348 P),(352,ko352 P),(353,ko353 P),(357,ko357 P),(358,ko358 P),(364,ko364 P),(365,ko365 P),(371,ko371 P),(372,ko372 P),(376,ko376 P),(377,ko377 P)]
theorem K0e:∀P,as0=(K0 P).map (·.1):=λP=>by kernel_rfl
noncomputable abbrev pw:=PySem.Challenge.pw_nm0021_01
noncomputable abbrev rw0:=PySem.Challenge.rw_nm0021_01
noncomputable def q0:Program:={ pw with main:={ pw.main with body:=pw.main.body.drop 62 } }
noncomputable def zBX:List Str:=[Str.ofString "__name__",Str.ofString "Step",Str.ofString "Block",Str.ofString "Func",Str.ofString "followers",Str.ofString "ROUND",Str.ofString "EFFECTS",Str.ofString "DIVISIONS",Str.ofString "has_effect",Str.ofString "can_fault",Str.ofString "is_plain",Str.ofString "preds",Str.ofString "postorder",Str.ofString "in_place_of",Str.ofString "CALLS",Str.ofString "SELDOM_FREE",Str.ofString "slot_steps",Str.ofString "times_set",Str.ofString "slot_registers",Str.ofString "is_free",Str.ofString "need_ahead",Str.ofString "need_behind",Str.ofString "needs_ahead",Str.ofString "without_register",Str.ofString "swept_steps",Str.ofString "sweep_steps",Str.ofString "is_plain_store",Str.ofString "taken_slots",Str.ofString "is_store_to",Str.ofString "sweep_stores",Str.ofString "sweep_func",Str.ofString "_law_SIZE",Str.ofString "_law_HALF",Str.ofString "_law_OBJECT",Str.ofString "_law_REST",Str.ofString "_law_TWO",Str.ofString "_law_OVER",Str.ofString "_law_ONE",Str.ofString "_law_numbers",Str.ofString "_law_counting",Str.ofString "_law_parting",Str.ofString "_law_roads",Str.ofString "_law_rows",Str.ofString "_law_program",Str.ofString "_law_made",Str.ofString "_law_signed",Str.ofString "_law_over",Str.ofString "_law_word",Str.ofString "_law_turned",Str.ofString "_law_is_there",Str.ofString "_law_get",Str.ofString "_law_put",Str.ofString "_law_access",Str.ofString "_law_value",Str.ofString "_law_run",Str.ofString "_law_listing",Str.ofString "_law_ends",Str.ofString "_law_is_less",Str.ofString "_law_bound"]
noncomputable def zEj (w:World):Prop:=(openEnds treeTable rw0.row.prog w 4250).map (λs=>(openSeen q0 zBX (importedModules rw0.row.prog.main.body) (λs=>xlAt q0 [] s&&recOk (RowW.records rw0.row.toRowW) s) true s,(kHook K0 as0 K0e).obs s))=some (openGood q0 zBX,(kHook K0 as0 K0e).val w)
theorem zJD:∀w:World,zEj (w.withFollow "special-get-raises" false):=λw=>by unfold zEj;kernel_rfl
theorem zJC:∀w:World,zEj (w.withFollow "special-get-raises" true):=λw=>by unfold zEj;kernel_rfl
theorem zJu:LeftO rw0.row.prog q0 zBX (λs=>xlAt q0 [] s&&recOk (RowW.records rw0.row.toRowW) s) (kHook K0 as0 K0e).obs (kHook K0 as0 K0e).val 4250:=λw=>by
 have e:=World.withFollow_self w "special-get-raises"
 show zEj w
 rw[<-e]
 cases w.params.followText "special-get-raises"
 ·exact zJD w
 ·exact zJC w
end
noncomputable section
noncomputable abbrev zBz:Scope:=⟨.function,[("self",.local),("op",.local),("dst",.local),("args",.local),("more",.local)],false,false,[]⟩
noncomputable abbrev vS:Addr:=28
noncomputable abbrev zA6:Scope:=⟨.function,[("self",.local),("number",.local)],false,false,[]⟩
noncomputable abbrev uT:Addr:=49
noncomputable abbrev zCA:Scope:=⟨.function,[("self",.local),("name",.local)],false,false,[]⟩
noncomputable abbrev zAK:Addr:=70
noncomputable abbrev jK:Scope:=⟨.function,[("block",.local),("end",.local),("list",.globalImplicit)],false,false,[]⟩
noncomputable abbrev wi:Addr:=84
noncomputable abbrev yu:Scope:=⟨.function,[("step",.local),("EFFECTS",.globalImplicit)],false,false,[]⟩
noncomputable abbrev wV:Addr:=93
noncomputable abbrev jL:Scope:=⟨.function,[("step",.local),("kind",.local),("value",.local),("DIVISIONS",.globalImplicit),("ROUND",.globalImplicit)],false,false,[]⟩
noncomputable abbrev wj:Addr:=100
noncomputable abbrev ji:Scope:=⟨.function,[("step",.local),("has_effect",.globalImplicit),("can_fault",.globalImplicit)],false,false,[]⟩
noncomputable abbrev yM:Addr:=107
noncomputable abbrev ud:Scope:=⟨.function,[("func",.local),("block",.local),("found",.local),("number",.local),("followers",.globalImplicit)],false,false,[("fast",.str "func"),("fast",.str "block"),("fast",.str "found"),("fast",.str "number")]⟩
noncomputable abbrev zBy:Scope:=⟨.function,[(".0",.local),("block",.local)],false,false,[]⟩
noncomputable abbrev uS:Addr:=112
noncomputable abbrev yT:Scope:=⟨.function,[("func",.local),("found",.local),("seen",.local),("stack",.local),("top",.local),("number",.local),("followers",.globalImplicit),("len",.globalImplicit)],false,false,[]⟩
noncomputable abbrev we:Addr:=119
noncomputable abbrev ya:Scope:=⟨.function,[("step",.local),("op",.local),("dst",.local),("args",.local),("more",.local),("found",.local),("Step",.globalImplicit)],false,false,[]⟩
noncomputable abbrev wF:Addr:=126
noncomputable abbrev yp:Scope:=⟨.function,[("func",.local),("found",.local),("block",.local),("step",.local)],false,false,[]⟩
noncomputable abbrev wQ:Addr:=135
noncomputable abbrev yS:Scope:=⟨.function,[("func",.local),("registers",.local),("found",.local),("register",.local),("block",.local),("step",.local)],false,false,[]⟩
noncomputable abbrev w9:Addr:=142
noncomputable abbrev w7:Scope:=⟨.function,[("func",.local),("slots",.local),("taken",.local),("steps",.local),("step",.local),("often",.local),("set",.globalImplicit),("slot_steps",.globalImplicit),("times_set",.globalImplicit)],false,false,[]⟩
noncomputable abbrev zZ:Addr:=149
noncomputable abbrev uL:Scope:=⟨.function,[("func",.local),("addresses",.local),("step",.local),("kind",.local),("value",.local),("SELDOM_FREE",.globalImplicit),("is_plain",.globalImplicit)],false,false,[]⟩
noncomputable abbrev yn:Addr:=156
noncomputable abbrev yC:Scope:=⟨.function,[("func",.local),("addresses",.local),("block",.local),("here",.local),("kind",.local),("value",.local),("step",.local),("is_free",.globalImplicit)],false,false,[]⟩
noncomputable abbrev wR:Addr:=163
noncomputable abbrev wq:Scope:=⟨.function,[("block",.local),("ahead",.local),("found",.local),("follower",.local),("set",.globalImplicit),("followers",.globalImplicit)],false,false,[]⟩
noncomputable abbrev zy:Addr:=170
noncomputable abbrev wp:Scope:=⟨.function,[("func",.local),("addresses",.local),("waiting",.local),("before",.local),("ahead",.local),("is_waiting",.local),("number",.local),("at",.local),("block",.local),("found",.local),("other",.local),("postorder",.globalImplicit),("preds",.globalImplicit),("set",.globalImplicit),("len",.globalImplicit),("need_ahead",.globalImplicit),("need_behind",.globalImplicit)],false,false,[]⟩
noncomputable abbrev zx:Addr:=177
noncomputable abbrev wM:Scope:=⟨.function,[("step",.local),("in_place_of",.globalImplicit)],false,false,[]⟩
noncomputable abbrev zP:Addr:=184
noncomputable abbrev wn:Scope:=⟨.function,[("func",.local),("addresses",.local),("block",.local),("here",.local),("kind",.local),("value",.local),("kept",.local),("step",.local),("is_free",.globalImplicit),("CALLS",.globalImplicit),("without_register",.globalImplicit)],false,false,[]⟩
noncomputable abbrev zv:Addr:=191
noncomputable abbrev wo:Scope:=⟨.function,[("func",.local),("addresses",.local),("ahead",.local),("is_changed",.local),("number",.local),("block",.local),("kept",.local),("needs_ahead",.globalImplicit),("sorted",.globalImplicit),("swept_steps",.globalImplicit),("need_behind",.globalImplicit),("len",.globalImplicit),("any",.globalImplicit),("zip",.globalImplicit)],false,false,[("fast",.str "func"),("fast",.str "addresses"),("fast",.str "ahead"),("fast",.str "is_changed"),("fast",.str "number"),("fast",.str "block"),("fast",.str "kept"),("fast",.str "one"),("fast",.str "other")]⟩
noncomputable abbrev sc_sweep_steps_c1:Scope:=⟨.function,[(".0",.local),("one",.local),("other",.local)],false,false,[]⟩
noncomputable abbrev zw:Addr:=196
noncomputable abbrev w8:Scope:=⟨.function,[("func",.local),("step",.local),("place",.local),("slot",.local)],false,false,[]⟩
noncomputable abbrev z4:Addr:=203
noncomputable abbrev wK:Scope:=⟨.function,[("func",.local),("addresses",.local),("taken",.local),("found",.local),("block",.local),("step",.local),("place",.local),("operand",.local),("slot",.local),("kind",.local),("value",.local),("set",.globalImplicit),("enumerate",.globalImplicit),("is_plain_store",.globalImplicit)],false,false,[]⟩
noncomputable abbrev zu:Addr:=210
noncomputable abbrev y8:Scope:=⟨.function,[("step",.local),("addresses",.local),("taken",.local),("kind",.local),("value",.local)],false,false,[]⟩
noncomputable abbrev wE:Addr:=217
noncomputable abbrev wZ:Scope:=⟨.function,[("func",.local),("addresses",.cell),("taken",.cell),("is_changed",.local),("block",.local),("kept",.local),("taken_slots",.globalImplicit),("len",.globalImplicit)],false,false,[("fast",.str "func"),("fast",.str "addresses"),("fast",.str "taken"),("fast",.str "is_changed"),("fast",.str "block"),("fast",.str "step"),("fast",.str "kept")]⟩
noncomputable abbrev jq:Scope:=⟨.function,[(".0",.local),("step",.local),("is_store_to",.globalImplicit),("addresses",.cell),("taken",.cell)],false,false,[]⟩
noncomputable abbrev ze:Addr:=222
noncomputable abbrev yo:Scope:=⟨.function,[("func",.local),("addresses",.local),("taken",.local),("is_changed",.local),("slot_registers",.globalImplicit),("sweep_steps",.globalImplicit),("sweep_stores",.globalImplicit)],false,false,[]⟩
noncomputable abbrev wP:Addr:=229
noncomputable abbrev yZ:Scope:=⟨.function,[("script",.local),("numbers",.local),("list",.globalImplicit),("_law_REST",.globalImplicit),("len",.globalImplicit)],false,false,[("fast",.str "script"),("fast",.str "number"),("fast",.str "numbers")]⟩
noncomputable abbrev uI:Scope:=⟨.function,[(".0",.local),("number",.local)],false,false,[]⟩
noncomputable abbrev wB:Addr:=238
noncomputable abbrev yN:Scope:=⟨.function,[("rest",.local),("dst",.local),("one",.local),("op",.local),("pick",.local),("other",.local),("_law_TWO",.globalImplicit)],false,false,[]⟩
noncomputable abbrev zg:Addr:=245
noncomputable abbrev yY:Scope:=⟨.function,[("rest",.local),("dst",.local),("one",.local),("pick",.local),("other",.local),("_law_OVER",.globalImplicit)],false,false,[]⟩
noncomputable abbrev wA:Addr:=252
noncomputable abbrev jJ:Scope:=⟨.function,[("dst",.local),("one",.local),("spot",.local),("width",.local),("way",.local),("free",.local)],false,false,[]⟩
noncomputable abbrev wg:Addr:=259
noncomputable abbrev jf:Scope:=⟨.function,[("number",.local),("kind",.local),("dst",.local),("one",.local),("rest",.local),("spot",.local),("width",.local),("way",.local),("_law_counting",.globalImplicit),("_law_parting",.globalImplicit),("_law_ONE",.globalImplicit),("_law_roads",.globalImplicit)],false,false,[]⟩
noncomputable abbrev yI:Addr:=266
noncomputable abbrev wr:Scope:=⟨.function,[("numbers",.local),("entry",.local),("place",.local),("parts",.local),("number",.local),("way",.local),("one",.local),("middle",.local),("last",.local),("range",.globalImplicit),("enumerate",.globalImplicit),("_law_rows",.globalImplicit)],false,false,[]⟩
noncomputable abbrev zz:Addr:=273
noncomputable abbrev yt:Scope:=⟨.function,[("parts",.local),("ends",.local),("drawn",.local),("number",.local),("rows",.local),("block",.local),("op",.local),("dst",.local),("args",.local),("more",.local),("is_loose",.local),("each",.local),("Func",.globalImplicit),("enumerate",.globalImplicit),("Block",.globalImplicit),("Step",.globalImplicit),("list",.globalImplicit)],false,false,[]⟩
noncomputable abbrev yK:Addr:=280
noncomputable abbrev yr:Scope:=⟨.function,[("value",.local),("_law_HALF",.globalImplicit),("_law_SIZE",.globalImplicit)],false,false,[]⟩
noncomputable abbrev wT:Addr:=287
noncomputable abbrev jg:Scope:=⟨.function,[("op",.local),("one",.local),("two",.local),("left",.local),("right",.local),("size",.local),("whole",.local),("_law_signed",.globalImplicit),("abs",.globalImplicit)],false,false,[]⟩
noncomputable abbrev yJ:Addr:=294
noncomputable abbrev je:Scope:=⟨.function,[("op",.local),("one",.local),("two",.local),("_law_OVER",.globalImplicit),("_law_over",.globalImplicit),("int",.globalImplicit),("_law_signed",.globalImplicit)],false,false,[]⟩
noncomputable abbrev yH:Addr:=301
noncomputable abbrev yq:Scope:=⟨.function,[("op",.local),("one",.local)],false,false,[]⟩
noncomputable abbrev wS:Addr:=308
noncomputable abbrev w2:Scope:=⟨.function,[("at",.local),("width",.local),("first",.local),("size",.local),("_law_OBJECT",.globalImplicit)],false,false,[]⟩
noncomputable abbrev zf:Addr:=315
noncomputable abbrev j3:Scope:=⟨.function,[("memory",.local),("at",.local),("width",.local),("has_sign",.local),("value",.local),("place",.local),("range",.globalImplicit)],false,false,[]⟩
noncomputable abbrev ym:Addr:=322
noncomputable abbrev jZ:Scope:=⟨.function,[("memory",.local),("at",.local),("width",.local),("value",.local),("place",.local),("range",.globalImplicit)],false,false,[]⟩
noncomputable abbrev yl:Addr:=329
noncomputable abbrev yD:Scope:=⟨.function,[("each",.local),("given",.local),("memory",.local),("noted",.local),("at",.local),("value",.local),("width",.local),("_law_is_there",.globalImplicit),("_law_get",.globalImplicit),("_law_put",.globalImplicit)],false,false,[]⟩
noncomputable abbrev wU:Addr:=336
noncomputable abbrev jI:Scope:=⟨.function,[("each",.local),("given",.local),("memory",.local),("noted",.local),("read",.local),("_law_access",.globalImplicit),("_law_OBJECT",.globalImplicit),("_law_get",.globalImplicit),("_law_put",.globalImplicit),("len",.globalImplicit),("_law_OVER",.globalImplicit),("_law_word",.globalImplicit),("_law_turned",.globalImplicit)],false,false,[]⟩
noncomputable abbrev zW:Addr:=343
noncomputable abbrev yf:Scope:=⟨.function,[("body",.local),("known",.cell),("memory",.local),("noted",.local),("at",.local),("visit",.local),("each",.local),("value",.local),("given",.local),("end",.local),("place",.local),("range",.globalImplicit),("_law_value",.globalImplicit),("_law_get",.globalImplicit),("_law_OBJECT",.globalImplicit),("_law_SIZE",.globalImplicit),("len",.globalImplicit)],false,false,[("fast",.str "body"),("fast",.str "known"),("fast",.str "memory"),("fast",.str "noted"),("fast",.str "at"),("fast",.str "visit"),("fast",.str "each"),("fast",.str "kind"),("fast",.str "value"),("fast",.str "given"),("fast",.str "end"),("fast",.str "place")]⟩
noncomputable abbrev zA5:Scope:=⟨.function,[(".0",.local),("kind",.local),("value",.local),("known",.cell)],false,false,[]⟩
noncomputable abbrev zA4:Scope:=⟨.function,[(".0",.local),("kind",.local),("value",.local),("known",.cell)],false,false,[]⟩
noncomputable abbrev yk:Addr:=348
noncomputable abbrev y6:Scope:=⟨.function,[("body",.local)],false,false,[("fast",.str "body"),("fast",.str "block"),("fast",.str "each")]⟩
noncomputable abbrev uK:Scope:=⟨.function,[(".0",.local),("each",.local),("list",.globalImplicit)],false,false,[]⟩
noncomputable abbrev uJ:Scope:=⟨.function,[(".0",.local),("block",.local)],false,false,[]⟩
noncomputable abbrev wC:Addr:=353
noncomputable abbrev jh:Scope:=⟨.function,[("body",.local)],false,false,[("fast",.str "body"),("fast",.str "block")]⟩
noncomputable abbrev vb:Scope:=⟨.function,[(".0",.local),("block",.local),("list",.globalImplicit)],false,false,[]⟩
noncomputable abbrev yL:Addr:=358
noncomputable abbrev zd:Scope:=⟨.function,[("left",.local),("was",.local),("place",.local),("op",.local),("dst",.local),("args",.local),("more",.local),("is_loose",.local),("len",.globalImplicit)],false,false,[]⟩
noncomputable abbrev wD:Addr:=365
noncomputable abbrev yU:Scope:=⟨.function,[("rows",.local),("many",.local),("op",.local),("dst",.local),("args",.local),("more",.local),("is_loose",.local),("_law_OVER",.globalImplicit)],false,false,[]⟩
noncomputable abbrev wh:Addr:=372
noncomputable abbrev zCi:Scope:=⟨.function,[("script",.local),("numbers",.local),("parts",.local),("ends",.local),("body",.local),("due",.local),("first",.local),("left",.cell),("turn",.local),("was",.cell),("says",.local),("_law_numbers",.globalImplicit),("_law_program",.globalImplicit),("_law_made",.globalImplicit),("_law_run",.globalImplicit),("_law_listing",.globalImplicit),("range",.globalImplicit),("sweep_func",.globalImplicit),("isinstance",.globalImplicit),("bool",.globalImplicit),("_law_ends",.globalImplicit),("all",.globalImplicit)],false,false,[("fast",.str "script"),("fast",.str "numbers"),("fast",.str "parts"),("fast",.str "ends"),("fast",.str "body"),("fast",.str "due"),("fast",.str "first"),("fast",.str "left"),("fast",.str "turn"),("fast",.str "was"),("fast",.str "says"),("fast",.str "at"),("fast",.str "rows")]⟩
noncomputable abbrev uz:Scope:=⟨.function,[(".0",.local),("at",.local),("_law_is_less",.globalImplicit),("left",.cell),("was",.cell)],false,false,[]⟩
noncomputable abbrev zBK:Scope:=⟨.function,[(".0",.local),("rows",.local),("_law_bound",.globalImplicit)],false,false,[]⟩
noncomputable abbrev sc_law_c3:Scope:=⟨.function,[(".0",.local),("rows",.local),("_law_bound",.globalImplicit)],false,false,[]⟩
noncomputable abbrev zC7:Addr:=377
structure Yx where
 a:Addr
 ps:List Str
 sc:Scope
 st:Stmt
noncomputable def topF:List (Str×Addr):=[⟨"followers",wi⟩,⟨"has_effect",wV⟩,⟨"can_fault",wj⟩,⟨"is_plain",yM⟩,⟨"preds",uS⟩,⟨"postorder",we⟩,⟨"in_place_of",wF⟩,⟨"slot_steps",wQ⟩,⟨"times_set",w9⟩,⟨"slot_registers",zZ⟩,⟨"is_free",yn⟩,⟨"need_ahead",wR⟩,⟨"need_behind",zy⟩,⟨"needs_ahead",zx⟩,⟨"without_register",zP⟩,⟨"swept_steps",zv⟩,⟨"sweep_steps",zw⟩,⟨"is_plain_store",z4⟩,⟨"taken_slots",zu⟩,⟨"is_store_to",wE⟩,⟨"sweep_stores",ze⟩,⟨"sweep_func",wP⟩,⟨"_law_numbers",wB⟩,⟨"_law_counting",zg⟩,⟨"_law_parting",wA⟩,⟨"_law_roads",wg⟩,⟨"_law_rows",yI⟩,⟨"_law_program",zz⟩,⟨"_law_made",yK⟩,⟨"_law_signed",wT⟩,⟨"_law_over",yJ⟩,⟨"_law_word",yH⟩,⟨"_law_turned",wS⟩,⟨"_law_is_there",zf⟩,⟨"_law_get",ym⟩,⟨"_law_put",yl⟩,⟨"_law_access",wU⟩,⟨"_law_value",zW⟩,⟨"_law_run",yk⟩,⟨"_law_listing",wC⟩,⟨"_law_ends",yL⟩,⟨"_law_is_less",wD⟩,⟨"_law_bound",wh⟩,⟨"law",zC7⟩]
noncomputable def topD:List Yx:=[⟨vS,["self","op","dst","args","more"],zBz,(cst (pst 1))⟩,⟨uT,["self","number"],zA6,(cst (pst 2))⟩,⟨zAK,["self","name"],zCA,(cst (pst 3))⟩,⟨wi,["block"],jK,(pst 4)⟩,⟨wV,["step"],yu,(pst 9)⟩,⟨wj,["step"],jL,(pst 10)⟩,⟨yM,["step"],ji,(pst 11)⟩,⟨uS,["func"],ud,(pst 12)⟩,⟨we,["func"],yT,(pst 13)⟩,⟨wF,["step","op","dst","args","more"],ya,(pst 14)⟩,⟨wQ,["func"],yp,(pst 18)⟩,⟨w9,["func","registers"],yS,(pst 19)⟩,⟨zZ,["func"],w7,(pst 20)⟩,⟨yn,["func","addresses","step"],uL,(pst 21)⟩,⟨wR,["func","addresses","block","here"],yC,(pst 22)⟩,⟨zy,["block","ahead"],wq,(pst 23)⟩,⟨zx,["func","addresses"],wp,(pst 24)⟩,⟨zP,["step"],wM,(pst 25)⟩,⟨zv,["func","addresses","block","here"],wn,(pst 26)⟩,⟨zw,["func","addresses"],wo,(pst 27)⟩,⟨z4,["func","step","place","slot"],w8,(pst 28)⟩,⟨zu,["func","addresses","taken"],wK,(pst 29)⟩,⟨wE,["step","addresses","taken"],y8,(pst 30)⟩,⟨ze,["func","addresses","taken"],wZ,(pst 31)⟩,⟨wP,["func"],yo,(pst 32)⟩,⟨wB,["script"],yZ,(pst 41)⟩,⟨zg,["rest","dst","one"],yN,(pst 42)⟩,⟨wA,["rest","dst","one"],yY,(pst 43)⟩,⟨wg,["dst","one","spot","width","way"],jJ,(pst 44)⟩,⟨yI,["number"],jf,(pst 45)⟩,⟨zz,["numbers"],wr,(pst 46)⟩,⟨yK,["parts","ends"],yt,(pst 47)⟩,⟨wT,["value"],yr,(pst 48)⟩,⟨yJ,["op","one","two"],jg,(pst 49)⟩,⟨yH,["op","one","two"],je,(pst 50)⟩,⟨wS,["op","one"],yq,(pst 51)⟩,⟨zf,["at","width"],w2,(pst 52)⟩,⟨ym,["memory","at","width","has_sign"],j3,(pst 53)⟩,⟨yl,["memory","at","width","value"],jZ,(pst 54)⟩,⟨wU,["each","given","memory","noted"],yD,(pst 55)⟩,⟨zW,["each","given","memory","noted"],jI,(pst 56)⟩,⟨yk,["body"],yf,(pst 57)⟩,⟨wC,["body"],y6,(pst 58)⟩,⟨yL,["body"],jh,(pst 59)⟩,⟨wD,["left","was"],zd,(pst 60)⟩,⟨wh,["rows"],yU,(pst 61)⟩,⟨zC7,["script"],zCi,(pst 62)⟩]
structure Tops (X:Cx):Prop where
 cls:Z5 X
 blt:Zx X
 f_Step:Z0 X "Step" .step vS
 f_Block:Z0 X "Block" .block uT
 f_Func:Z0 X "Func" .func zAK
 g_ROUND:Z7 X "ROUND" (.int 4294967296)
 g_EFFECTS:Zz X "EFFECTS" ["store","move","call","callreg"]
 g_DIVISIONS:Zz X "DIVISIONS" ["div","divu","rem","remu"]
 g_CALLS:Zz X "CALLS" ["call","callreg"]
 g_SELDOM_FREE:Zz X "SELDOM_FREE" ["load","store","move","call","callreg","div","divu","rem","remu"]
 g_law_SIZE:Z7 X "_law_SIZE" (.int 4294967296)
 g_law_HALF:Z7 X "_law_HALF" (.int 2147483648)
 g_law_OBJECT:Z7 X "_law_OBJECT" (.int 8192)
 g_law_REST:Z7 X "_law_REST" (.tup [(.int 9),(.int 40),(.int 3),(.int 1000),(.int 5),(.int 2),(.int 1541),(.int 6342),(.int 965),(.int 20)])
 g_law_TWO:Z7 X "_law_TWO" (.tup [(.str "add"),(.str "sub"),(.str "mul"),(.str "and"),(.str "or"),(.str "xor"),(.str "lt"),(.str "ltu"),(.str "eq"),(.str "ne"),(.str "shl"),(.str "sar")])
 g_law_OVER:Z7 X "_law_OVER" (.tup [(.str "div"),(.str "divu"),(.str "rem"),(.str "remu")])
 g_law_ONE:Z7 X "_law_ONE" (.tup [(.str "copy"),(.str "neg"),(.str "not"),(.str "sx8"),(.str "sx16"),(.str "zx8"),(.str "zx16")])
 fs:∀r∈topF,Zc X r.1 r.2
 ds:∀r∈topD,Zi X r.a r.ps r.sc (fdB r.st)
theorem mi {α:Type}{l:List α}{a:α}(i:Nat)(h:l[i]?=some a):a∈l:=List.mem_of_getElem? h
theorem ac {α:Type}{P:α->Prop}{a:α}{l:List α}(h:P a)(k:∀z∈l,P z):∀z∈a::l,P z:=List.forall_mem_cons.mpr ⟨h,k⟩
theorem an {α:Type}{P:α->Prop}:∀z∈([]:List α),P z:=λ_ q=>absurd q List.not_mem_nil
section
variable {X:Cx}
theorem Tops.f_followers (T:Tops X):Zc X "followers" wi:=T.fs ⟨_,_⟩ (mi 0 rfl)
theorem Tops.f_has_effect (T:Tops X):Zc X "has_effect" wV:=T.fs ⟨_,_⟩ (mi 1 rfl)
theorem Tops.f_can_fault (T:Tops X):Zc X "can_fault" wj:=T.fs ⟨_,_⟩ (mi 2 rfl)
theorem Tops.f_is_plain (T:Tops X):Zc X "is_plain" yM:=T.fs ⟨_,_⟩ (mi 3 rfl)
theorem Tops.f_preds (T:Tops X):Zc X "preds" uS:=T.fs ⟨_,_⟩ (mi 4 rfl)
theorem Tops.f_postorder (T:Tops X):Zc X "postorder" we:=T.fs ⟨_,_⟩ (mi 5 rfl)
theorem Tops.f_in_place_of (T:Tops X):Zc X "in_place_of" wF:=T.fs ⟨_,_⟩ (mi 6 rfl)
theorem Tops.f_slot_steps (T:Tops X):Zc X "slot_steps" wQ:=T.fs ⟨_,_⟩ (mi 7 rfl)
theorem Tops.f_times_set (T:Tops X):Zc X "times_set" w9:=T.fs ⟨_,_⟩ (mi 8 rfl)
theorem Tops.f_slot_registers (T:Tops X):Zc X "slot_registers" zZ:=T.fs ⟨_,_⟩ (mi 9 rfl)
theorem Tops.f_is_free (T:Tops X):Zc X "is_free" yn:=T.fs ⟨_,_⟩ (mi 10 rfl)
theorem Tops.f_need_ahead (T:Tops X):Zc X "need_ahead" wR:=T.fs ⟨_,_⟩ (mi 11 rfl)
theorem Tops.f_need_behind (T:Tops X):Zc X "need_behind" zy:=T.fs ⟨_,_⟩ (mi 12 rfl)
theorem Tops.f_needs_ahead (T:Tops X):Zc X "needs_ahead" zx:=T.fs ⟨_,_⟩ (mi 13 rfl)
theorem Tops.f_without_register (T:Tops X):Zc X "without_register" zP:=T.fs ⟨_,_⟩ (mi 14 rfl)
theorem Tops.f_swept_steps (T:Tops X):Zc X "swept_steps" zv:=T.fs ⟨_,_⟩ (mi 15 rfl)
theorem Tops.f_sweep_steps (T:Tops X):Zc X "sweep_steps" zw:=T.fs ⟨_,_⟩ (mi 16 rfl)
theorem Tops.f_is_plain_store (T:Tops X):Zc X "is_plain_store" z4:=T.fs ⟨_,_⟩ (mi 17 rfl)
theorem Tops.f_taken_slots (T:Tops X):Zc X "taken_slots" zu:=T.fs ⟨_,_⟩ (mi 18 rfl)
theorem Tops.f_is_store_to (T:Tops X):Zc X "is_store_to" wE:=T.fs ⟨_,_⟩ (mi 19 rfl)
theorem Tops.f_sweep_stores (T:Tops X):Zc X "sweep_stores" ze:=T.fs ⟨_,_⟩ (mi 20 rfl)
theorem Tops.f_sweep_func (T:Tops X):Zc X "sweep_func" wP:=T.fs ⟨_,_⟩ (mi 21 rfl)
theorem Tops.f_law_numbers (T:Tops X):Zc X "_law_numbers" wB:=T.fs ⟨_,_⟩ (mi 22 rfl)
theorem Tops.f_law_counting (T:Tops X):Zc X "_law_counting" zg:=T.fs ⟨_,_⟩ (mi 23 rfl)
theorem Tops.f_law_parting (T:Tops X):Zc X "_law_parting" wA:=T.fs ⟨_,_⟩ (mi 24 rfl)
theorem Tops.f_law_roads (T:Tops X):Zc X "_law_roads" wg:=T.fs ⟨_,_⟩ (mi 25 rfl)
theorem Tops.f_law_rows (T:Tops X):Zc X "_law_rows" yI:=T.fs ⟨_,_⟩ (mi 26 rfl)
theorem Tops.f_law_program (T:Tops X):Zc X "_law_program" zz:=T.fs ⟨_,_⟩ (mi 27 rfl)
theorem Tops.f_law_made (T:Tops X):Zc X "_law_made" yK:=T.fs ⟨_,_⟩ (mi 28 rfl)
theorem Tops.f_law_signed (T:Tops X):Zc X "_law_signed" wT:=T.fs ⟨_,_⟩ (mi 29 rfl)
theorem Tops.f_law_over (T:Tops X):Zc X "_law_over" yJ:=T.fs ⟨_,_⟩ (mi 30 rfl)
theorem Tops.f_law_word (T:Tops X):Zc X "_law_word" yH:=T.fs ⟨_,_⟩ (mi 31 rfl)
theorem Tops.f_law_turned (T:Tops X):Zc X "_law_turned" wS:=T.fs ⟨_,_⟩ (mi 32 rfl)
theorem Tops.f_law_is_there (T:Tops X):Zc X "_law_is_there" zf:=T.fs ⟨_,_⟩ (mi 33 rfl)
theorem Tops.f_law_get (T:Tops X):Zc X "_law_get" ym:=T.fs ⟨_,_⟩ (mi 34 rfl)
theorem Tops.f_law_put (T:Tops X):Zc X "_law_put" yl:=T.fs ⟨_,_⟩ (mi 35 rfl)
theorem Tops.f_law_access (T:Tops X):Zc X "_law_access" wU:=T.fs ⟨_,_⟩ (mi 36 rfl)
theorem Tops.f_law_value (T:Tops X):Zc X "_law_value" zW:=T.fs ⟨_,_⟩ (mi 37 rfl)
theorem Tops.f_law_run (T:Tops X):Zc X "_law_run" yk:=T.fs ⟨_,_⟩ (mi 38 rfl)
theorem Tops.f_law_listing (T:Tops X):Zc X "_law_listing" wC:=T.fs ⟨_,_⟩ (mi 39 rfl)
theorem Tops.f_law_ends (T:Tops X):Zc X "_law_ends" yL:=T.fs ⟨_,_⟩ (mi 40 rfl)
theorem Tops.f_law_is_less (T:Tops X):Zc X "_law_is_less" wD:=T.fs ⟨_,_⟩ (mi 41 rfl)
theorem Tops.f_law_bound (T:Tops X):Zc X "_law_bound" wh:=T.fs ⟨_,_⟩ (mi 42 rfl)
theorem Tops.d_Step (T:Tops X):Zi X vS ["self","op","dst","args","more"] zBz (fdB (cst (pst 1))):=T.ds ⟨vS,["self","op","dst","args","more"],zBz,(cst (pst 1))⟩ (mi 0 rfl)
theorem Tops.d_Block (T:Tops X):Zi X uT ["self","number"] zA6 (fdB (cst (pst 2))):=T.ds ⟨uT,["self","number"],zA6,(cst (pst 2))⟩ (mi 1 rfl)
theorem Tops.d_Func (T:Tops X):Zi X zAK ["self","name"] zCA (fdB (cst (pst 3))):=T.ds ⟨zAK,["self","name"],zCA,(cst (pst 3))⟩ (mi 2 rfl)
theorem Tops.d_followers (T:Tops X):Zi X wi ["block"] jK (fdB (pst 4)):=T.ds ⟨wi,["block"],jK,(pst 4)⟩ (mi 3 rfl)
theorem Tops.d_has_effect (T:Tops X):Zi X wV ["step"] yu (fdB (pst 9)):=T.ds ⟨wV,["step"],yu,(pst 9)⟩ (mi 4 rfl)
theorem Tops.d_can_fault (T:Tops X):Zi X wj ["step"] jL (fdB (pst 10)):=T.ds ⟨wj,["step"],jL,(pst 10)⟩ (mi 5 rfl)
theorem Tops.d_is_plain (T:Tops X):Zi X yM ["step"] ji (fdB (pst 11)):=T.ds ⟨yM,["step"],ji,(pst 11)⟩ (mi 6 rfl)
theorem Tops.d_preds (T:Tops X):Zi X uS ["func"] ud (fdB (pst 12)):=T.ds ⟨uS,["func"],ud,(pst 12)⟩ (mi 7 rfl)
theorem Tops.d_postorder (T:Tops X):Zi X we ["func"] yT (fdB (pst 13)):=T.ds ⟨we,["func"],yT,(pst 13)⟩ (mi 8 rfl)
theorem Tops.d_in_place_of (T:Tops X):Zi X wF ["step","op","dst","args","more"] ya (fdB (pst 14)):=T.ds ⟨wF,["step","op","dst","args","more"],ya,(pst 14)⟩ (mi 9 rfl)
theorem Tops.d_slot_steps (T:Tops X):Zi X wQ ["func"] yp (fdB (pst 18)):=T.ds ⟨wQ,["func"],yp,(pst 18)⟩ (mi 10 rfl)
theorem Tops.d_times_set (T:Tops X):Zi X w9 ["func","registers"] yS (fdB (pst 19)):=T.ds ⟨w9,["func","registers"],yS,(pst 19)⟩ (mi 11 rfl)
theorem Tops.d_slot_registers (T:Tops X):Zi X zZ ["func"] w7 (fdB (pst 20)):=T.ds ⟨zZ,["func"],w7,(pst 20)⟩ (mi 12 rfl)
theorem Tops.d_is_free (T:Tops X):Zi X yn ["func","addresses","step"] uL (fdB (pst 21)):=T.ds ⟨yn,["func","addresses","step"],uL,(pst 21)⟩ (mi 13 rfl)
theorem Tops.d_need_ahead (T:Tops X):Zi X wR ["func","addresses","block","here"] yC (fdB (pst 22)):=T.ds ⟨wR,["func","addresses","block","here"],yC,(pst 22)⟩ (mi 14 rfl)
theorem Tops.d_need_behind (T:Tops X):Zi X zy ["block","ahead"] wq (fdB (pst 23)):=T.ds ⟨zy,["block","ahead"],wq,(pst 23)⟩ (mi 15 rfl)
theorem Tops.d_needs_ahead (T:Tops X):Zi X zx ["func","addresses"] wp (fdB (pst 24)):=T.ds ⟨zx,["func","addresses"],wp,(pst 24)⟩ (mi 16 rfl)
theorem Tops.d_without_register (T:Tops X):Zi X zP ["step"] wM (fdB (pst 25)):=T.ds ⟨zP,["step"],wM,(pst 25)⟩ (mi 17 rfl)
theorem Tops.d_swept_steps (T:Tops X):Zi X zv ["func","addresses","block","here"] wn (fdB (pst 26)):=T.ds ⟨zv,["func","addresses","block","here"],wn,(pst 26)⟩ (mi 18 rfl)
theorem Tops.d_sweep_steps (T:Tops X):Zi X zw ["func","addresses"] wo (fdB (pst 27)):=T.ds ⟨zw,["func","addresses"],wo,(pst 27)⟩ (mi 19 rfl)
theorem Tops.d_is_plain_store (T:Tops X):Zi X z4 ["func","step","place","slot"] w8 (fdB (pst 28)):=T.ds ⟨z4,["func","step","place","slot"],w8,(pst 28)⟩ (mi 20 rfl)
theorem Tops.d_taken_slots (T:Tops X):Zi X zu ["func","addresses","taken"] wK (fdB (pst 29)):=T.ds ⟨zu,["func","addresses","taken"],wK,(pst 29)⟩ (mi 21 rfl)
theorem Tops.d_is_store_to (T:Tops X):Zi X wE ["step","addresses","taken"] y8 (fdB (pst 30)):=T.ds ⟨wE,["step","addresses","taken"],y8,(pst 30)⟩ (mi 22 rfl)
theorem Tops.d_sweep_stores (T:Tops X):Zi X ze ["func","addresses","taken"] wZ (fdB (pst 31)):=T.ds ⟨ze,["func","addresses","taken"],wZ,(pst 31)⟩ (mi 23 rfl)
theorem Tops.d_sweep_func (T:Tops X):Zi X wP ["func"] yo (fdB (pst 32)):=T.ds ⟨wP,["func"],yo,(pst 32)⟩ (mi 24 rfl)
theorem Tops.d_law_numbers (T:Tops X):Zi X wB ["script"] yZ (fdB (pst 41)):=T.ds ⟨wB,["script"],yZ,(pst 41)⟩ (mi 25 rfl)
theorem Tops.d_law_counting (T:Tops X):Zi X zg ["rest","dst","one"] yN (fdB (pst 42)):=T.ds ⟨zg,["rest","dst","one"],yN,(pst 42)⟩ (mi 26 rfl)
theorem Tops.d_law_parting (T:Tops X):Zi X wA ["rest","dst","one"] yY (fdB (pst 43)):=T.ds ⟨wA,["rest","dst","one"],yY,(pst 43)⟩ (mi 27 rfl)
theorem Tops.d_law_roads (T:Tops X):Zi X wg ["dst","one","spot","width","way"] jJ (fdB (pst 44)):=T.ds ⟨wg,["dst","one","spot","width","way"],jJ,(pst 44)⟩ (mi 28 rfl)
theorem Tops.d_law_rows (T:Tops X):Zi X yI ["number"] jf (fdB (pst 45)):=T.ds ⟨yI,["number"],jf,(pst 45)⟩ (mi 29 rfl)
theorem Tops.d_law_program (T:Tops X):Zi X zz ["numbers"] wr (fdB (pst 46)):=T.ds ⟨zz,["numbers"],wr,(pst 46)⟩ (mi 30 rfl)
theorem Tops.d_law_made (T:Tops X):Zi X yK ["parts","ends"] yt (fdB (pst 47)):=T.ds ⟨yK,["parts","ends"],yt,(pst 47)⟩ (mi 31 rfl)
theorem Tops.d_law_signed (T:Tops X):Zi X wT ["value"] yr (fdB (pst 48)):=T.ds ⟨wT,["value"],yr,(pst 48)⟩ (mi 32 rfl)
theorem Tops.d_law_over (T:Tops X):Zi X yJ ["op","one","two"] jg (fdB (pst 49)):=T.ds ⟨yJ,["op","one","two"],jg,(pst 49)⟩ (mi 33 rfl)
theorem Tops.d_law_word (T:Tops X):Zi X yH ["op","one","two"] je (fdB (pst 50)):=T.ds ⟨yH,["op","one","two"],je,(pst 50)⟩ (mi 34 rfl)
theorem Tops.d_law_turned (T:Tops X):Zi X wS ["op","one"] yq (fdB (pst 51)):=T.ds ⟨wS,["op","one"],yq,(pst 51)⟩ (mi 35 rfl)
theorem Tops.d_law_is_there (T:Tops X):Zi X zf ["at","width"] w2 (fdB (pst 52)):=T.ds ⟨zf,["at","width"],w2,(pst 52)⟩ (mi 36 rfl)
theorem Tops.d_law_get (T:Tops X):Zi X ym ["memory","at","width","has_sign"] j3 (fdB (pst 53)):=T.ds ⟨ym,["memory","at","width","has_sign"],j3,(pst 53)⟩ (mi 37 rfl)
theorem Tops.d_law_put (T:Tops X):Zi X yl ["memory","at","width","value"] jZ (fdB (pst 54)):=T.ds ⟨yl,["memory","at","width","value"],jZ,(pst 54)⟩ (mi 38 rfl)
theorem Tops.d_law_access (T:Tops X):Zi X wU ["each","given","memory","noted"] yD (fdB (pst 55)):=T.ds ⟨wU,["each","given","memory","noted"],yD,(pst 55)⟩ (mi 39 rfl)
theorem Tops.d_law_value (T:Tops X):Zi X zW ["each","given","memory","noted"] jI (fdB (pst 56)):=T.ds ⟨zW,["each","given","memory","noted"],jI,(pst 56)⟩ (mi 40 rfl)
theorem Tops.d_law_run (T:Tops X):Zi X yk ["body"] yf (fdB (pst 57)):=T.ds ⟨yk,["body"],yf,(pst 57)⟩ (mi 41 rfl)
theorem Tops.d_law_listing (T:Tops X):Zi X wC ["body"] y6 (fdB (pst 58)):=T.ds ⟨wC,["body"],y6,(pst 58)⟩ (mi 42 rfl)
theorem Tops.d_law_ends (T:Tops X):Zi X yL ["body"] jh (fdB (pst 59)):=T.ds ⟨yL,["body"],jh,(pst 59)⟩ (mi 43 rfl)
theorem Tops.d_law_is_less (T:Tops X):Zi X wD ["left","was"] zd (fdB (pst 60)):=T.ds ⟨wD,["left","was"],zd,(pst 60)⟩ (mi 44 rfl)
theorem Tops.d_law_bound (T:Tops X):Zi X wh ["rows"] yU (fdB (pst 61)):=T.ds ⟨wh,["rows"],yU,(pst 61)⟩ (mi 45 rfl)
theorem Tops.d_law (T:Tops X):Zi X zC7 ["script"] zCi (fdB (pst 62)):=T.ds ⟨zC7,["script"],zCi,(pst 62)⟩ (mi 46 rfl)
end
end
noncomputable section
inductive Init:List (Str×NameKind)->List Str->List Val->List (Option Val)->Prop where
 | nil:Init [] [] [] []
 | cons {x:Str} {k:NameKind} {v:Val} {ns:List (Str×NameKind)} {ps:List Str} {vs:List Val} {os:List (Option Val)}:Init ns ps vs os->Init ((x,k)::ns) (x::ps) (v::vs) (some v::os)
 | none {p:Str×NameKind} {ns:List (Str×NameKind)} {os:List (Option Val)}:Init ns [] [] os->Init (p::ns) [] [] (none::os)
theorem Init.ok {ns:List (Str×NameKind)}{ps:List Str}{vs:List Val}{os:List (Option Val)}(h:Init ns ps vs os):ps.length=vs.length/\∀x v,Loc ns os x v->(x,v)∈ps.zip vs:=by
 induction h with
 | nil=>exact⟨rfl,λx v h=>by cases h⟩
 | cons _ ih=>exact⟨congrArg (· + 1) ih.1,λx v h=>by cases h with | z=>exact .head _ | s h=>exact .tail _ (ih.2 _ _ h)⟩
 | none _ ih=>exact⟨rfl,λx v h=>by cases h with | s h=>exact ih.2 _ _ h⟩
theorem Cal.start {X:Cx}{n:Nat}{G:Gh}{Q:QE}{f:Addr}{ps:List Str}{scope:Scope}{body:List Stmt}{vs:List Val}{os:List (Option Val)}(D:Zi X f ps scope body)(hi:Init scope.names ps vs os)(h:SnB X n scope body (L scope os) G (Back Q)):Cal X (n+1) f vs G Q:=
 .def_ D hi.ok.1 _ hi.ok.2 h
theorem zJA {α:Type}{a:α}{l:List α}:a∈a::l:=.head _
theorem zIz {α:Type}{a b:α}{l:List α}(h:a∈l):a∈b::l:=.tail _ h
theorem Ze.mk {sc:Scope}{x:Str}(h:(x,NameKind.globalImplicit)∈sc.names):Ze sc x:=h
noncomputable def rk (b:Bool):Str:=if b then "r" else "k"
noncomputable abbrev Opd:=Bool×Int
noncomputable def opdV (o:Opd):Val:=.tup [.str (rk o.1),.int o.2]
theorem Rd.opdC {X:Cx}{n:Nat}{sc:Scope}{m:M}{G:Gh}{x:Str}{e:Expr}{b:Bool}{i:Int}{k kk:Nat}{p1 pos:Pos}(h:x=rk b)(he:Rd X n sc e m G (.int i))(hp:∀env,starEach [e] env=(false,eval e env)::starEach [] env:=by intro _;rfl):Rd X n sc (.Tuple [.Constant (.str x) k p1,e] kk pos) m G (opdV (b,i)):=
 Rd.tup (.cons (v:=.str (rk b)) (h▸.str) (.cons he .nil hp))
end
local macro_rules | `(tactic| walk_at "r") => `(tactic| first
 | (with_reducible first | exact zJA | exact Rds.nil | exact Init.nil | exact Rd.int | exact Rd.str | exact Rd.tru | exact Rd.noneC)
 | ((with_reducible first | refine' Rd.var ?h | refine' zIz ?h | refine' Init.cons ?h | refine' Init.none ?h | refine' Ze.mk ?h | refine' Rd.neg ?h);case h=>walk_at"r")
 | ((with_reducible first | apply Rd.attr | apply Rds.cons | apply Rd.tup | apply Rd.opdC | constructor)<;>first | rfl | (intro _;rfl) | (intro _ _;rfl) | walk_at"r" | assumption | exact Tops.cls (by assumption)))
noncomputable section
noncomputable def opL:List Str:=(["load","store","move","call","callreg","div","divu","rem","remu","slot","copy","const","name","add","sub","mul","and","or","xor","shl","shr","sar","lt","ltu","eq","ne","neg","not","sx8","sx16","zx8","zx16","jump","branch","table","give"]:List String).map Str.ofString
noncomputable def opS (k:Nat):Str:=opL.getD k Str.empty
noncomputable def yV (k:Nat):Bool:=Nat.ble k 8
noncomputable def zAg (k:Nat):Bool:=Nat.ble 1 k&&Nat.ble k 4
noncomputable def wH (k:Nat):Bool:=Nat.ble 5 k&&Nat.ble k 8
noncomputable def yO (k:Nat):Bool:=Nat.beq k 3||Nat.beq k 4
theorem zEY:∀k<36,(["load","store","move","call","callreg","div","divu","rem","remu"]:List Str).contains (opS k)=yV k:=by decide +kernel
theorem zIm:∀k<36,(["store","move","call","callreg"]:List Str).contains (opS k)=zAg k:=by decide +kernel
theorem zIn:∀k<36,(["div","divu","rem","remu"]:List Str).contains (opS k)=wH k:=by decide +kernel
theorem zH9:∀k<36,(["call","callreg"]:List Str).contains (opS k)=yO k:=by decide +kernel
theorem zEZ:∀k<36,(opS k == Str.ofString "load")=Nat.beq k 0:=by decide +kernel
theorem zCo:∀k<36,(opS k == Str.ofString "store")=Nat.beq k 1:=by decide +kernel
theorem zH7:∀k<36,(opS k == Str.ofString "slot")=Nat.beq k 9:=by decide +kernel
theorem zCJ:∀k<36,(opS k == Str.ofString "copy")=Nat.beq k 10:=by decide +kernel
theorem zH8:∀k<36,(opS k == Str.ofString "jump")=Nat.beq k 32:=by decide +kernel
theorem zE1:∀k<36,(opS k == Str.ofString "branch")=Nat.beq k 33:=by decide +kernel
theorem zGC:∀k<36,(opS k == Str.ofString "table")=Nat.beq k 34:=by decide +kernel
theorem rk_r:∀b,(rk b == Str.ofString "r")=b:=by decide +kernel
theorem rk_k:∀b,(rk b == Str.ofString "k")=!b:=by decide +kernel
structure PS where
 op:Nat
 dst:Int
 args:List (Bool×Int)
 more:Val
 vol:Bool
structure Zw (fs:Fld->Option Val)(p:PS)(la:Addr):Prop where
 op:fs .op=some (.str (opS p.op))
 dst:fs .dst=some (.int p.dst)
 args:fs .args=some (.ref la)
 more:fs .more=some p.more
 vol:fs .is_volatile=some (.bool p.vol)
 line:∃i,fs .line=some (.int i)
inductive Y0 (G:Gh)(a:Addr)(p:PS):Prop where
 | mk (fs:Fld->Option Val) (la:Addr) (h1:G a=some (.inst .step fs)) (h2:Zw fs p la) (h3:G la=some (.list (p.args.map opdV)))
structure Zh (G:Gh)(a:Addr)(p:PS):Prop where
 ok:Y0 G a p
 op:p.op<36
noncomputable def wz (p:PS):Bool:=if Nat.beq p.op 0||p.vol then true else if !wH p.op then false else match p.args[1]? with
 | some o=>o.1||Int.fmod o.2 4294967296 == 0
 | none=>true
noncomputable def j5 (p:PS):Bool:=!(zAg p.op||p.vol)&&!wz p
variable {X:Cx}{n:Nat}{G:Gh}
theorem zp {j:Int}{k:Nat}(h:0<=j)(h':j.toNat<k):j.natAbs<k:=by obtain⟨n,rfl⟩:=Int.eq_ofNat_of_zero_le h;exact h'
theorem zAY {a:Addr}{p:PS}{Q:QE}(T:Tops X)(h:Zh G a p)(k:Q (.bool (zAg p.op||p.vol)) G):Cal X (n+1) wV [.ref a] G Q:=by
 obtain⟨⟨fs,la,h1,⟨f1,f2,f3,f4,f5,_⟩,h2⟩,ho⟩:=h
 refine' Cal.start (os:=?os) T.d_has_effect ?q ?b;case q=>walk_at"r"
 case b=>
 refine SnB.retB (Rd.to (v:=.bool (zAg p.op||p.vol)) ?_ k)
 rw[<-zIm p.op ho]
 refine Rd.or (Rd.inG T.g_EFFECTS ?_ ?_) λ_=>Rd.or1 ?_<;>walk_at"r"
noncomputable def yw:Val->Int
 | .int i=>i
 | _=>0
noncomputable def zD2:Val->Int
 | .tup (.int i::_)=>i
 | _=>0
structure Zn (p:PS):Prop where
 div:wH p.op=true->2<=p.args.length
 load:p.op=0->1<=p.args.length/\∃w b,p.more=.tup [.int w,b]
 copy:p.op=10->1<=p.args.length
 store:p.op=1->1<=p.args.length/\∃w,p.more=.int w
 few:p.args.length<=8
 regs:∀o∈p.args,o.1=true->0<=o.2/\o.2<32
theorem zBI {a:Addr}{p:PS}{Q:QE}(T:Tops X)(h:Zh G a p)(w:Zn p)(k:Q (.bool (wz p)) G):Cal X (n+1) wj [.ref a] G Q:=by
 obtain⟨⟨fs,la,h1,⟨f1,f2,f3,f4,f5,_⟩,h2⟩,ho⟩:=h
 refine' Cal.start (os:=?os) T.d_can_fault ?q ?b;case q=>walk_at"r"
 case b=>
 have e0:=zEZ p.op ho
 refine SnB.ifs (r:=Nat.beq p.op 0||p.vol) ?_ (λe=>.retT (Rd.to Rd.tru ?_)) λe=>.nilT ?_
 ·rw[<-e0]
  refine RdT.or (RdT.cmp ?_ ?_ (.eqS ⟨rfl,rfl⟩)) λ_=>RdT.or1 (RdT.val ?_ (.bool _))<;>walk_at"r"
 ·have:wz p=true:=if_pos e
  rw[<-this];exact k
 refine SnB.ifs (r:=!wH p.op) ?_ (λe'=>.retT (Rd.to Rd.tru ?_)) λe'=>.nilT ?_
 ·rw[<-zIn p.op ho]
  refine RdT.notinG T.g_DIVISIONS ?_ ?_<;>walk_at"r"
 ·have:wz p=false:=(if_neg (by rw[e];decide)).trans (if_pos e')
  rw[<-this];exact k
 have hd:wH p.op=true:=by rw[<-Bool.not_eq_false'];exact e'
 obtain⟨o,h3⟩:∃o,p.args[1]?=some o:=⟨_,List.getElem?_eq_getElem (w.div hd)⟩
 refine' SnB.assign2 (v:=.str (rk o.1)) (w:=.int o.2) (Rd.idxL ?h1 h2 .int (by decide) ?h2) ?h3 ?h4 ?h5
 case h1=>walk_at"r"
 case h2=>unfold wW;rw[if_pos (by decide)];show (p.args.map opdV)[1]?=_;rw[List.getElem?_map,h3];rfl
 case h3=>walk_at"r"
 case h4=>walk_at"r"
 have hc:wz p=(!(rk o.1 == Str.ofString "k")||Int.fmod o.2 4294967296 == 0):=by rw[rk_k,Bool.not_not];unfold wz;rw[if_neg (by rw[e];decide),if_neg (by rw[e'];decide),h3]
 refine SnB.retB (Rd.to ?_ (hc▸k))
 refine Rd.or (Rd.cmp ?_ ?_ (.neS ⟨rfl,rfl⟩)) λ_=>Rd.or1 (Rd.cmp (Rd.bin ?_ (Rd.glob T.g_ROUND ?_) (.mod (by decide) ⟨rfl,rfl⟩)) ?_ (.eqI ⟨rfl,rfl⟩))<;>walk_at"r"
theorem zBp {a:Addr}{p:PS}{Q:QE}(T:Tops X)(h:Zh G a p)(w:Zn p)(k:Q (.bool (j5 p)) G):Cal X (n+2) yM [.ref a] G Q:=by
 refine' Cal.start (os:=?os) T.d_is_plain ?q ?b;case q=>walk_at"r"
 case b=>
 refine SnB.retB (Rd.to (v:=.bool (j5 p)) ?_ k)
 refine Rd.and (Rd.not (v:=.bool (zAg p.op||p.vol)) (.ref T.f_has_effect ?_ ?_ (vs:=[.ref a]) ?_ (zAY T h ⟨rfl,rfl⟩)) (.bool _)) λ_=>Rd.and1 (Rd.not (v:=.bool (wz p)) (.ref T.f_can_fault ?_ ?_ (vs:=[.ref a]) ?_ (zBI T h w ⟨rfl,rfl⟩)) (.bool _))
 all_goals first | (intro _ _;rfl) | walk_at"r" | walk_at"r"
noncomputable abbrev Zg:=List (Int×Int)
noncomputable def zFi (s:Int×Int):Val:=.tup [.int s.1,.int s.2]
noncomputable def zk (sl:Zg)(k:Int):Int:=((sl[k.toNat]?).map (·.1)).getD 0
noncomputable abbrev Za:=List (Int×Int)
noncomputable def vg (ad:Za)(k:Int):Option Int:=(ad.find? λe=>decide (e.1=k)).map (·.2)
noncomputable def adE (ad:Za):List (Int×Val):=ad.map λe=>(e.1,.int e.2)
theorem vG (ad:Za)(k:Int):zq (adE ad) k=(vg ad k).map .int:=by
 unfold zq vg adE
 rw[List.find?_map,Option.map_map,Option.map_map];rfl
structure AdOK (ad:Za)(sl:Zg):Prop where
 lo:∀k s,vg ad k=some s->0<=s/\s.toNat<sl.length
 few:sl.length<=16
structure Yn (fs:Fld->Option Val)(p s b:Addr):Prop where
 params:fs .params=some (.ref p)
 slots:fs .slots=some (.ref s)
 blocks:fs .blocks=some (.ref b)
inductive Zk (G:Gh)(f:Addr)(ps:List Int)(sl:Zg)(bls:List Addr):Prop where
 | mk (fs:Fld->Option Val) (p s b:Addr) (h1:G f=some (.inst .func fs)) (h2:Yn fs p s b) (h3:G p=some (.list (ps.map .int))) (h4:G s=some (.list (sl.map zFi))) (h5:G b=some (.list (bls.map .ref)))
noncomputable def zY (sl:Zg)(ad:Za)(p:PS):Bool:=if !yV p.op then true else if !(Nat.beq p.op 0)||p.vol then j5 p else match p.args[0]? with
 | some o=>o.1&&(match vg ad o.2 with | some s=>decide (zD2 p.more<=zk sl s) | none=>false)
 | none=>false
theorem zV {α:Type}{f:α->Val}{l:List α}{i:Nat}{x:α}(h:l[i]?=some x):wW (l.map f) (i:Int)=some (f x):=by
 unfold wW;rw[if_pos (Int.natCast_nonneg i),Int.toNat_natCast,List.getElem?_map,h];rfl
theorem zGe (b:Bool)(o:Option Int)(f:Int->Bool):(b&&(o.isSome&&(match o with | some s=>f s | none=>false)))=(b&&(match o with | some s=>f s | none=>false)):=by cases o<;>simp
theorem vr {f ad a:Addr}{ps:List Int}{sl:Zg}{bls:List Addr}{am:Za}{p:PS}{Q:QE}(T:Tops X)(hf:Zk G f ps sl bls)(ha:G ad=some (.dict (adE am)))(hok:AdOK am sl)(h:Zh G a p)(w:Zn p)
  (k:Q (.bool (zY sl am p)) G):Cal X (n+3) yn [.ref f,.ref ad,.ref a] G Q:=by
 obtain⟨⟨fs,la,h1,⟨f1,f2,f3,f4,f5,_⟩,h2⟩,ho⟩:=id h
 obtain⟨ff,pa,sa,ba,h3,⟨g1,g2,g3⟩,h4,h5,h6⟩:=hf
 refine' Cal.start (os:=?os) T.d_is_free ?q ?b;case q=>walk_at"r"
 case b=>
 refine SnB.ifs (r:=!yV p.op) ?_ (λe=>.retT (Rd.to Rd.tru ?_)) λe=>.nilT ?_
 ·rw[<-zEY p.op ho]
  refine RdT.notinG T.g_SELDOM_FREE ?_ ?_<;>walk_at"r"
 ·have:zY sl am p=true:=if_pos e
  rw[<-this];exact k
 refine SnB.ifs (r:=!(Nat.beq p.op 0)||p.vol) ?_ (λe'=>.retT (.ref T.f_is_plain ?_ ?_ (vs:=[.ref a]) ?_ (zBp T h w ?_))) λe'=>.nilT ?_
 ·rw[<-zEZ p.op ho]
  refine RdT.or (RdT.cmp ?_ ?_ (.neS ⟨rfl,rfl⟩)) λ_=>RdT.or1 (RdT.val ?_ (.bool _))<;>walk_at"r"
 ·walk_at"r"
 ·intro _ _;rfl
 ·walk_at"r"
 ·have:zY sl am p=j5 p:=(if_neg (by rw[e];decide)).trans (if_pos e')
  rw[<-this];exact k
 have hl:p.op=0:=by
  have:=(Bool.or_eq_false_iff.mp e').1
  rw[Bool.not_eq_false'] at this
  exact Nat.eq_of_beq_eq_true this
 obtain⟨hlen,wd,bb,hm⟩:=w.load hl
 obtain⟨o,ho'⟩:∃o,p.args[0]?=some o:=⟨_,List.getElem?_eq_getElem hlen⟩
 rw[hm] at f4
 refine' SnB.assign2 (v:=.str (rk o.1)) (w:=.int o.2) (Rd.idxL ?h1 h2 .int (by decide) (zV ho')) ?h3 ?h4 ?h5
 case h1=>walk_at"r"
 case h3=>walk_at"r"
 case h4=>walk_at"r"
 have hc:zY sl am p=(rk o.1 == Str.ofString "r"&&((zq (adE am) o.2).isSome&&(match vg am o.2 with | some s=>decide (wd<=zk sl s) | none=>false))):=by
  unfold zY
  rw[if_neg (by rw[e];decide),if_neg (by rw[e'];decide),ho',rk_r,hm,vG,Option.isSome_map,zGe];rfl
 refine SnB.retB (Rd.to ?_ (hc▸k))
 refine Rd.and (Rd.cmp ?_ ?_ (.eqS ⟨rfl,rfl⟩)) λ_=>Rd.and (Rd.cmp ?_ ?_ (.inDict ha ⟨rfl,rfl⟩)) λhs=>Rd.and1 ?_
 ·walk_at"r"
 ·walk_at"r"
 ·walk_at"r"
 ·walk_at"r"
 rw[vG,Option.isSome_map] at hs
 obtain⟨sv,hsv⟩:=Option.isSome_iff_exists.mp hs
 obtain⟨s0,s1⟩:=hok.lo _ _ hsv
 have hslt:=hok.few
 obtain⟨sz,hsz⟩:∃z,sl[sv.toNat]?=some z:=⟨_,List.getElem?_eq_getElem s1⟩
 rw[hsv]
 show Rd _ _ _ _ _ _ (.bool (decide (wd<=zk sl sv)))
 have hss:zk sl sv=sz.1:=by unfold zk;rw[hsz];rfl
 rw[hss]
 have hsv':((sv.toNat:Nat):Int)=sv:=Int.toNat_of_nonneg s0
 refine Rd.cmp (Rd.idxT (vs:=[.int wd,bb]) ?_ .int (by decide) rfl) (Rd.idxT (vs:=[.int sz.1,.int sz.2]) (Rd.idxL (j:=sv) ?_ h5 (Rd.idxD ?_ ha ?_ ((vG am o.2).trans (by rw[hsv];rfl))) (zp s0 (Nat.lt_of_lt_of_le s1 (Nat.le_trans hslt (by decide)))) (by rw[<-hsv'];exact zV hsz)) .int (by decide) rfl) (.le ⟨rfl,rfl⟩)<;>walk_at"r"
end
noncomputable section
noncomputable def zF (m:Nat):Int->Bool:=λj=>decide (0<=j)&&m.testBit j.toNat
noncomputable def setb (m:Nat)(k:Int):Nat:=m ||| 2 ^ k.toNat
noncomputable def clrb (m:Nat)(k:Int):Nat:=m ^^^ 2 ^ k.toNat
theorem jO {m:Nat}{k:Int}(hk:0<=k):(λj=>zF m j||decide (j=k))=zF (setb m k):=by
 funext j
 unfold zF setb
 rw[Nat.testBit_or,Nat.testBit_two_pow]
 by_cases h:0<=j
 ·have:(k.toNat=j.toNat)↔j=k:=⟨λe=>by rw[<-Int.toNat_of_nonneg h,<-e,Int.toNat_of_nonneg hk],λe=>by rw[e]⟩
  simp [h,this]
 ·have:j≠k:=λe=>h (e▸hk)
  simp [h,this]
theorem zBW {m:Nat}{k:Int}(hk:0<=k)(hb:zF m k=true):(λj=>zF m j&&!decide (j=k))=zF (clrb m k):=by
 funext j
 unfold zF at hb
 unfold zF clrb
 rw[Nat.testBit_xor,Nat.testBit_two_pow]
 simp only [Bool.and_eq_true,decide_eq_true_eq] at hb
 by_cases h:0<=j
 ·by_cases q:j=k
  ·subst q;simp [h,hb.2]
  ·have:k.toNat≠j.toNat:=λe=>q (by rw[<-Int.toNat_of_nonneg h,<-e,Int.toNat_of_nonneg hk])
   simp [h,q,this]
 ·simp [h]
noncomputable def Zf (G:Gh)(a:Addr)(m:Nat):Prop:=∃f,G a=some (.set (zF m) f)
noncomputable def Ext (G G':Gh):Prop:=∀x o,G x=some o->G' x=some o
theorem Ext.refl {G:Gh}:Ext G G:=λ_ _ e=>e
theorem Ext.trans {G G' G'':Gh}(a:Ext G G')(b:Ext G' G''):Ext G G'':=λx o e=>b x o (a x o e)
theorem Ext.new {G:Gh}{a:Addr}{o:GObj}(h:G a=none):Ext G (G.upd a o):=λx q e=>(Gh.upd_ne _ _ λz=>by rw[z,h] at e;cases e).trans e
noncomputable def Ext1 (h:Addr)(G G':Gh):Prop:=∀x o,x≠h->G x=some o->G' x=some o
theorem Ext1.refl {h:Addr}{G:Gh}:Ext1 h G G:=λ_ _ _ e=>e
theorem Ext1.trans {h:Addr}{G G' G'':Gh}(a:Ext1 h G G')(b:Ext1 h G' G''):Ext1 h G G'':=λx o n e=>b x o n (a x o n e)
theorem Ext1.upd {h:Addr}{G:Gh}{o:GObj}:Ext1 h G (G.upd h o):=λx q n e=>(Gh.upd_ne _ _ n).trans e
theorem Ext.one {h:Addr}{G G':Gh}(a:Ext G G'):Ext1 h G G':=λx o _ e=>a x o e
noncomputable def GObj.isSet:GObj->Bool | .set ..=>true | _=>false
theorem yj {G G':Gh}{h a:Addr}{k:Nat}{o:GObj}(hs:Zf G h k)(x:Ext1 h G G')(e:G a=some o)(n:o.isSet=false):G' a=some o:=x a o (λq=>by obtain⟨f,hs⟩:=hs;rw[q,hs] at e;cases e;cases n) e
theorem Zh.ext {G G':Gh}{a:Addr}{p:PS}(h:Zh G a p)(x:Ext G G'):Zh G' a p:=by
 obtain⟨⟨fs,la,h1,h2,h3⟩,o⟩:=h
 exact⟨⟨fs,la,x _ _ h1,h2,x _ _ h3⟩,o⟩
theorem Zh.k1 {G G':Gh}{a s:Addr}{p:PS}{k:Nat}(h:Zh G a p)(hs:Zf G s k)(x:Ext1 s G G'):Zh G' a p:=by
 obtain⟨⟨fs,la,h1,h2,h3⟩,o⟩:=h
 exact⟨⟨fs,la,yj hs x h1 rfl,h2,yj hs x h3 rfl⟩,o⟩
theorem Zk.ext {G G':Gh}{f:Addr}{ps:List Int}{sl:Zg}{bls:List Addr}(h:Zk G f ps sl bls)(x:Ext G G'):Zk G' f ps sl bls:=by
 obtain⟨fs,p,s,b,h1,h2,h3,h4,h5⟩:=h
 exact⟨fs,p,s,b,x _ _ h1,h2,x _ _ h3,x _ _ h4,x _ _ h5⟩
theorem Zk.k1 {G G':Gh}{f z:Addr}{ps:List Int}{sl:Zg}{bls:List Addr}{k:Nat}(h:Zk G f ps sl bls)(hs:Zf G z k)(x:Ext1 z G G'):Zk G' f ps sl bls:=by
 obtain⟨fs,p,s,b,h1,h2,h3,h4,h5⟩:=h
 exact⟨fs,p,s,b,yj hs x h1 rfl,h2,yj hs x h3 rfl,yj hs x h4 rfl,yj hs x h5 rfl⟩
inductive Zb (G:Gh):List Addr->List PS->Prop where
 | nil:Zb G [] []
 | cons {a:Addr} {p:PS} {as:List Addr} {ps:List PS}:Zh G a p->Zb G as ps->Zb G (a::as) (p::ps)
theorem Zb.map {G G':Gh}(f:∀a p,Zh G a p->Zh G' a p){as:List Addr}{ps:List PS}(h:Zb G as ps):Zb G' as ps:=by
 induction h with
 | nil=>exact .nil
 | cons a _ ih=>exact .cons (f _ _ a) ih
theorem Zb.ext {G G':Gh}(x:Ext G G'){as:List Addr}{ps:List PS}(h:Zb G as ps):Zb G' as ps:=h.map λa p s=>s.ext x
theorem Zb.length {G:Gh}{as:List Addr}{ps:List PS}(h:Zb G as ps):as.length=ps.length:=by
 induction h with
 | nil=>rfl
 | cons _ _ ih=>exact congrArg (· + 1) ih
theorem Zb.append {G:Gh}{as bs:List Addr}{ps qs:List PS}(h:Zb G as ps)(h':Zb G bs qs):Zb G (as++bs) (ps++qs):=by
 induction h with
 | nil=>exact h'
 | cons a _ ih=>exact .cons a ih
theorem Zb.reverse {G:Gh}{as:List Addr}{ps:List PS}(h:Zb G as ps):Zb G as.reverse ps.reverse:=by
 induction h with
 | nil=>exact .nil
 | cons a _ ih=>rw[List.reverse_cons,List.reverse_cons];exact ih.append (.cons a .nil)
variable {X:Cx}{n:Nat}{G:Gh}{sc:Scope}{os:List (Option Val)}
theorem SnB.forL {Q:QS}{m:M}{e tgt:Expr}{body sts:List Stmt}{pos:Pos}{a:Addr}{xs:List Val}(h:Rd X n sc e m G (.ref a))(e1:G a=some (.list xs))(I:List Val->M->Gh->Prop)(ok:Yk X n sc tgt body (λG=>G a=some (.list xs)) (Then X n sc sts Q) I)(h0:I xs m G)
  (hs:∀env x,foldedSetIterable e env x=pure x:=by intro _ _;rfl):SnB X n sc (.For tgt e body [] pos::sts) m G Q:=.cons (.fors (.seq (h.to ⟨xs,_,.list e1,I,ok,h0⟩)) hs)
noncomputable def addA (m:Nat)(args:List Opd):Nat:=args.foldl (λm o=>if o.1 then setb m o.2 else m) m
noncomputable def OpOK (args:List Opd):Prop:=∀o∈args,o.1=true->0<=o.2/\o.2<32
theorem uj {Q:QS}{e:Expr}{k1 k2:Nat}{p1 p2 p3 p4 p5 p6 p7 p8 p9 p10 p11 p12 p13:Pos}{sts:List Stmt}{G:Gh}{la h:Addr}{args:List Opd}{k:Nat}(F:Option Val->Option Val->List (Option Val)){a b:Option Val}
  (hl:(p8.endLine == p10.line)=true) (u1:∀a b v,Upd false sc.names (F a b) "kind" v (F (some v) b)) (u2:∀a b v,Upd false sc.names (F a b) "value" v (F a (some v))) (l1:∀v b,Loc sc.names (F (some v) b) "kind" v) (l2:∀a v,Loc sc.names (F a (some v)) "value" v) (l3:∀a b,Loc sc.names (F a b) "here" (.ref h))
  (he:Rd X n sc e (L sc (F a b)) G (.ref la)) (hla:G la=some (.list (args.map opdV))) (hs:Zf G h k) (ho:OpOK args)
  (kk:∀a b G',Zf G' h (addA k args)->Ext1 h G G'->SnB X n sc sts (L sc (F a b)) G' Q) (hfs:∀env x,foldedSetIterable e env x=pure x:=by intro _ _;rfl) :
  SnB X n sc (.For (.Tuple [.Name "kind" p1,.Name "value" p2] k1 p3) e [.If (.Compare (.Name "kind" p4) [.Eq] [.Constant (.str "r") k2 p5] p6) [.Expr (.Call (.Attribute (.Name "here" p7) "add" p8) [.Name "value" p9] [] p10) p11] [] p12] [] p13::sts) (L sc (F a b)) G Q:=by
 refine SnB.forL he hla (λxs m G'=>∃a b r k',xs=r.map opdV/\m=L sc (F a b)/\Zf G' h k'/\Ext1 h G G'/\OpOK r/\addA k' r=addA k args) ⟨?_,?_⟩ ⟨a,b,args,k,rfl,rfl,hs,.refl,ho,rfl⟩ hfs
 ·rintro x xs m G' ⟨a,b,r,k',hx,rfl,hs',x1,ho',ha⟩
  cases r with
  | nil=>cases hx
  | cons o r=>
   obtain⟨rfl,rfl⟩:=List.cons.inj hx
   refine⟨yj hs x1 hla rfl,_,.tup (.two (u1 a b _) (u2 _ b _)),?_⟩
   refine SnB.ifs (r:=o.1) ?_ (λe1=>?_) λe1=>.nil (.next (.nil (.next ⟨_,_,r,k',rfl,rfl,hs',x1,λo ho=>ho' o (.tail _ ho),?_⟩)))
   ·have:=RdT.cmp (X:=X) (n:=n) (sc:=sc) (m:=L sc (F (some (.str (rk o.1))) (some (.int o.2)))) (G:=G') (op:=.Eq) (pos:=p6) (.var (pos:=p4) (l1 _ _)) (.str (x:="r") (k:=k2) (pos:=p5)) (.eqS ⟨rfl,rfl⟩)
    rw[rk_r] at this;exact this
   ·obtain⟨f,hs'⟩:=hs'
    obtain⟨q1,q2⟩:=ho' o (.head _) e1
    refine SnB.expr (Sn.meth .add (λ_ _=>rfl) (Rd.to (.var (l3 _ _)) ⟨.set hs',(Rds.cons (.var (l2 _ _)) .nil).to (Meth.add hs' ⟨q1,q2⟩ ?_)⟩) (hline:=hl))
    refine .nil (.next (.nil (.next ⟨_,_,r,setb k' o.2,rfl,rfl,⟨false,?_⟩,x1.trans .upd,λo ho=>ho' o (.tail _ ho),?_⟩)))
    ·rw[Gh.upd_same,jO q1]
    ·rw[<-ha];unfold addA;rw[List.foldl_cons,if_pos e1]
   ·rw[<-ha];unfold addA;rw[List.foldl_cons,if_neg (by rw[e1];decide)]
 ·rintro m G' ⟨a,b,r,k',hx,rfl,hs',x1,ho',ha⟩
  cases r with
  | nil=>exact⟨yj hs x1 hla rfl,.next (kk a b G' (by rw[<-ha];exact hs') x1)⟩
  | cons o r=>cases hx
end
noncomputable section
variable {X:Cx}{n:Nat}{G:Gh}{sc:Scope}{os:List (Option Val)}
inductive Yl (X:Cx)(n:Nat)(sc:Scope)(tgt:Expr)(body sts:List Stmt)(m:M)(Q:QS)(v:Val)(G':Gh):Prop where
 | mk (a:Addr) (xs:List Val) (I:List Val->M->Gh->Prop) (e:v=.ref a) (e1:G' a=some (.list xs)) (ok:Yk X n sc tgt body (λG=>G a=some (.list xs)) (Then X n sc sts Q) I) (h0:I xs m G')
theorem SnB.forQ {Q:QS}{m:M}{e tgt:Expr}{body sts:List Stmt}{pos:Pos}(h:Sn X n sc e m G (Yl X n sc tgt body sts m Q))
  (hs:∀env x,foldedSetIterable e env x=pure x:=by intro _ _;rfl):SnB X n sc (.For tgt e body [] pos::sts) m G Q:=.cons (.fors (.seq (h.mono λv G' q=>by obtain⟨a,xs,I,rfl,e1,ok,h0⟩:=q;exact⟨xs,_,.list e1,I,ok,h0⟩)) hs)
theorem OutS.mono {env:Env}{b:Bs}{s:Shared}{Q Q':QS}{fl:Flow}{s':Shared}(o:OutS X env b s Q fl s')(k:∀fl m G,Q fl m G->Q' fl m G):OutS X env b s Q' fl s':=by
 cases o with | mk mf m' G' b' h1 h2 h3 h4 h5 h6 h7=>exact .mk mf m' G' b' h1 h2 h3 h4 h5 h6 (k _ _ _ h7)
theorem SnB.mono {Q Q':QS}{m:M}{sts:List Stmt}(h:SnB X n sc sts m G Q)(k:∀fl m G,Q fl m G->Q' fl m G):SnB X n sc sts m G Q':=⟨λhs=>zA (h.go hs) λ_ _ o=>o.mono k⟩
inductive Join (P:Gh->Prop)(Q:QS)(m:M):Fl->M->Gh->Prop where
 | next {G:Gh} (h:P G):Join P Q m .next m G
 | cont {m':M} {G:Gh} (h:Q .cont m' G):Join P Q m .cont m' G
 | ret {v:Val} {m':M} {G:Gh} (h:Q (.ret v) m' G):Join P Q m (.ret v) m' G
theorem SnB.ifsJ {Q:QS}{m:M}{t:Expr}{a c sts:List Stmt}{pos:Pos}{r:Bool}(P:Gh->Prop)(h:RdT X n sc t m G r)(ha:r=true->SnB X n sc a m G (Join P Q m))(hb:r=false->SnB X n sc c m G (Join P Q m))(hr:∀G',P G'->SnB X n sc sts m G' Q):SnB X n sc (.If t a c pos::sts) m G Q:=by
 have key:∀fl m' G',Join P Q m fl m' G'->Then X n sc sts Q fl m' G':=λfl m' G' q=>by
  cases q with
  | next h=>exact .next (hr _ h)
  | cont h=>exact .cont h
  | ret h=>exact .ret h
 exact .ifs h (λe=>(ha e).mono key) λe=>(hb e).mono key
structure Yt (fs:Fld->Option Val)(num:Int)(st eo:Addr):Prop where
 number:fs .number=some (.int num)
 steps:fs .steps=some (.ref st)
 end_ : fs .end_ = some (.ref eo)
inductive Zo (G:Gh)(b:Addr)(num:Int)(sts:List Addr)(eo:Addr):Prop where
 | mk (fs:Fld->Option Val) (st:Addr) (h1:G b=some (.inst .block fs)) (h2:Yt fs num st eo) (h3:G st=some (.list (sts.map .ref)))
theorem Zo.ext {G G':Gh}{b:Addr}{num:Int}{sts:List Addr}{eo:Addr}(h:Zo G b num sts eo)(x:Ext G G'):Zo G' b num sts eo:=by
 obtain⟨fs,st,h1,h2,h3⟩:=h
 exact⟨fs,st,x _ _ h1,h2,x _ _ h3⟩
noncomputable def needStep (sl:Zg)(ad:Za)(m:Nat)(p:PS):Nat:=if zF m p.dst then addA (clrb m p.dst) p.args else if zY sl ad p then m else addA m p.args
noncomputable def needP (sl:Zg)(ad:Za)(steps:List PS)(ends:List Opd)(m:Nat):Nat:=steps.reverse.foldl (needStep sl ad) (addA m ends)
theorem yx {m:Nat}{k:Int}(h:zF m k=true):0<=k:=of_decide_eq_true (Bool.and_eq_true_iff.mp h).1
noncomputable abbrev naL (f ad b h:Addr)(x y z:Option Val):M:=L yC [some (.ref f),some (.ref ad),some (.ref b),some (.ref h),x,y,z,none]
inductive Yv (G:Gh)(f ad b h c:Addr)(sl:Zg)(am:Za)(rs:List Val)(goal:Nat):List Val->M->Gh->Prop where
 | mk {x y z:Option Val} {as:List Addr} {qs:List PS} {k:Nat} {G':Gh} (hs:Zb G as qs) (hw:∀p∈qs,Zn p) (hh:Zf G' h k) (x1:Ext1 h G G') (hc:G' c=some (.list rs)) (hk:qs.foldl (needStep sl am) k=goal):Yv G f ad b h c sl am rs goal (as.map .ref) (naL f ad b h x y z) G'
theorem zAU {f ad b h eo:Addr}{pr:List Int}{sl:Zg}{bls:List Addr}{am:Za}{num:Int}{sts:List Addr}{ps:List PS}{pe:PS}{k:Nat}{Q:QE}(T:Tops X)(hf:Zk G f pr sl bls)(ha:G ad=some (.dict (adE am)))(hok:AdOK am sl)
  (hb:Zo G b num sts eo) (hst:Zb G sts ps) (hwf:∀p∈ps,Zn p) (hend:Zh G eo pe) (hew:OpOK pe.args) (hs:Zf G h k)
  (kk:∀G',Zf G' h (needP sl am ps pe.args k)->Ext1 h G G'->Q (.ref h) G'):Cal X (n+4) wR [.ref f,.ref ad,.ref b,.ref h] G Q:=by
 obtain⟨fs,st,h1,⟨b1,b2,b3⟩,h2⟩:=id hb
 obtain⟨⟨es,la,h3,⟨e1,e2,e3,e4,e5,_⟩,h4⟩,ho⟩:=id hend
 refine' Cal.start (os:=?os) T.d_need_ahead ?q ?b;case q=>walk_at"r"
 case b=>
 refine uj (λx y=>[some (.ref f),some (.ref ad),some (.ref b),some (.ref h),x,y,none,none]) rfl (λ_ _ _=>by walk_at"r") (λ_ _ _=>by walk_at"r") (λ_ _=>by walk_at"r") (λ_ _=>by walk_at"r") (λ_ _=>by walk_at"r") (by walk_at"r") h4 hs hew λx y G1 hs1 x1=>?_
 have h1':=yj hs x1 h1 rfl
 have h2':=yj hs x1 h2 rfl
 refine SnB.forQ (Sn.rev (Rd.to (v:=.ref st) (by walk_at"r") ⟨st,sts.map .ref,rfl,h2',λc hc=>?_⟩))
 have hs2:Zf (G1.upd c (.list (sts.map .ref).reverse)) h (addA k pe.args):=by obtain⟨f,q⟩:=hs1;exact⟨f,Ext.new hc _ _ q⟩
 have hch:c≠h:=λq=>by obtain⟨f,e⟩:=hs1;rw[<-q,hc] at e;cases e
 have x2:=x1.trans (Ext.new (o:=.list (sts.map .ref).reverse) hc).one
 generalize hrs:(sts.map Val.ref).reverse=rs at *
 have hrs':rs=sts.reverse.map .ref:=by rw[<-hrs,List.map_reverse]
 refine⟨c,rs,Yv G f ad b h c sl am rs (needP sl am ps pe.args k),rfl,Gh.upd_same ..,⟨?_,?_⟩,?_⟩
 ·intro v xs m G' hI
  generalize hvx:v::xs=vx at hI
  cases hI with | @mk x y z as qs k' _ hsa hw hs' x' hc' hk=>
  cases hsa with
  | nil=>cases hvx
  | @cons a p as qs hp hsa=>
  obtain⟨rfl,rfl⟩:=List.cons.inj hvx
  refine⟨hc',_,.name (Upd.put (os':=[some (.ref f),some (.ref ad),some (.ref b),some (.ref h),x,y,some (.ref a),none]) (by walk_at"r")),?_⟩
  have hp':=hp.k1 hs x'
  obtain⟨⟨fp,lp,p1,⟨q1,q2,q3,q4,q5,_⟩,p2⟩,po⟩:=id hp'
  have hwp:=hw p (.head _)
  obtain⟨fl,hs''⟩:=id hs'
  refine SnB.ifsJ (r:=zF k' p.dst) (λGb=>∃kb,Zf Gb h kb/\Ext1 h G' Gb/\needStep sl am k' p=addA kb p.args) (.cmp (by walk_at"r") (by walk_at"r") (.inSet hs'' ⟨rfl,rfl⟩)) (λe=>?_) (λe=>?_) λGb ⟨kb,s1,s2,s3⟩=>?_
  ·refine SnB.expr (Sn.meth .discard (λ_ _=>rfl) (Rd.to (v:=.ref h) (by walk_at"r") ⟨.set hs'',Rds.to (vs:=[.int p.dst]) (by walk_at"r") (Meth.discard hs'' ?_)⟩))
   exact .nil (.next ⟨clrb k' p.dst,⟨false,by rw[Gh.upd_same,zBW (yx e) e]⟩,.upd,if_pos e⟩)
  ·refine SnB.ifs (r:=zY sl am p) (.val (.ref T.f_is_free ?_ ?_ (vs:=[.ref f,.ref ad,.ref a]) ?_ (vr T (hf.k1 hs x') (yj hs x' ha rfl) hok hp' hwp ⟨rfl,rfl⟩)) (.bool _)) (λe'=>SnB.cont (.cont (.cont (.cont (.mk hsa (λp hp=>hw p (.tail _ hp)) hs' x' hc' ?_))))) λe'=>.nil (.next (.nil (.next ⟨k',hs',.refl,?_⟩)))
   ·walk_at"r"
   ·intro _ _;rfl
   ·walk_at"r"
   ·rw[<-hk,List.foldl_cons,needStep,if_neg (by rw[e];decide),if_pos e']
   ·rw[needStep,if_neg (by rw[e];decide),if_neg (by rw[e'];decide)]
  ·have p1':=yj hs' s2 p1 rfl
   have p2':=yj hs' s2 p2 rfl
   refine uj (λx y=>[some (.ref f),some (.ref ad),some (.ref b),some (.ref h),x,y,some (.ref a),none]) rfl (λ_ _ _=>by walk_at"r") (λ_ _ _=>by walk_at"r") (λ_ _=>by walk_at"r") (λ_ _=>by walk_at"r") (λ_ _=>by walk_at"r") (by walk_at"r") p2' s1 hwp.regs λx y G2 hs3 x3=>?_
   exact .nil (.next (.mk hsa (λp hp=>hw p (.tail _ hp)) hs3 ((x'.trans s2).trans x3) (x3 _ _ hch (s2 _ _ hch hc')) (by rw[<-s3];exact hk)))
 ·intro m G' hI
  generalize hvx:([]:List Val)=vx at hI
  cases hI with | @mk x y z as qs k' _ hsa hw hs' x' hc' hk=>
  cases hsa with
  | cons _ _=>cases hvx
  | nil=>exact⟨hc',.next (SnB.retB (Rd.to (v:=.ref h) (by walk_at"r") (kk G' (by rw[<-hk];exact hs') x')))⟩
 ·subst hrs'
  exact .mk hst.reverse (λp hp=>hwf p (List.mem_reverse.mp hp)) hs2 x2 (Gh.upd_same ..) rfl
end
noncomputable section
variable {X:Cx}{n:Nat}{G:Gh}{sc:Scope}{os:List (Option Val)}{m:M}
theorem Gh.upd_upd {a:Addr}{x y:GObj}:(G.upd a x).upd a y=G.upd a y:=by
 funext z
 by_cases q:z=a
 ·rw[q,Gh.upd_same,Gh.upd_same]
 ·rw[Gh.upd_ne _ _ q,Gh.upd_ne _ _ q,Gh.upd_ne _ _ q]
noncomputable def fput (fs:Fld->Option Val)(f:Fld)(v:Val):Fld->Option Val:=λg=>if g=f then some v else fs g
theorem SnB.setA {Q:QS}{o e:Expr}{attr:Str}{f:Fld}{p pos:Pos}{sts:List Stmt}{c:Cls}{fs:Fld->Option Val}{a:Addr}{v:Val}(hc:Z5 X)(ha:Zs attr f)(h:Rd X n sc e m (G.upd a (.inst c fs)) v)(ho:Rd X n sc o m (G.upd a (.inst c fs)) (.ref a))
  (k:SnB X n sc sts m (G.upd a (.inst c (fput fs f v))) Q) (hsw:∀env,swapsWith e (some (.Attribute o attr p)) pos.line env=pure false:=by intro _;rfl):SnB X n sc (.Assign [.Attribute o attr p] e pos::sts) m (G.upd a (.inst c fs)) Q:=
 .cons (.setAttr hc f ha.eq (h.to (ho.to ⟨a,c,fs,rfl,Gh.upd_same ..,.next (by rw[Gh.upd_upd];exact k)⟩)) hsw)
theorem zEB {a la:Addr}{p:PS}{Q:QE}(T:Tops X)(k:∀fs,Zw fs ⟨p.op,p.dst,p.args,p.more,false⟩ la->Q .none (G.upd a (.inst .step fs))):Cal X (n+1) vS [.ref a,.str (opS p.op),.int p.dst,.ref la,p.more] (G.upd a (.inst .step λ_=>none)) Q:=by
 refine' Cal.start (os:=?os) T.d_Step ?q ?b;case q=>walk_at"r"
 case b=>
 refine SnB.setA (f:=.op) T.cls (by walk_at"r") (by walk_at"r") (by walk_at"r") ?_
 refine SnB.setA (f:=.dst) T.cls (by walk_at"r") (by walk_at"r") (by walk_at"r") ?_
 refine SnB.setA (f:=.args) T.cls (by walk_at"r") (by walk_at"r") (by walk_at"r") ?_
 refine SnB.setA (f:=.more) T.cls (by walk_at"r") (by walk_at"r") (by walk_at"r") ?_
 refine SnB.setA (f:=.is_volatile) (v:=.bool false) T.cls (by walk_at"r") (by walk_at"r") (by walk_at"r") ?_
 refine SnB.setA (f:=.line) (v:=.int 0) T.cls (by walk_at"r") (by walk_at"r") (by walk_at"r") ?_
 exact .nil (.next (k _ ⟨rfl,rfl,rfl,rfl,rfl,_,rfl⟩))
theorem Sn.newStep {Q:QE}{es:List Expr}{p pos:Pos}{s:PS}{la:Addr}(T:Tops X)(hk:Ze sc "Step")(hn:Zj es)(h:Rds X (n+1) sc es m G [.str (opS s.op),.int s.dst,.ref la,s.more])(k:∀a fs,G a=Option.none->Zw fs ⟨s.op,s.dst,s.args,s.more,false⟩ la->Q (.ref a) (G.upd a (.inst .step fs))) :
  Sn X (n+1) sc (.Call (.Name "Step" p) es [] pos) m G Q:=Sn.new T.f_Step T.cls hk hn (h.to λa ha=>zEB T λfs hfs=>⟨rfl,k a fs ha hfs⟩)
theorem Zw.line_ {fs:Fld->Option Val}{p:PS}{la:Addr}{i:Int}(h:Zw fs p la):Zw (fput fs .line (.int i)) p la:=⟨h.op,h.dst,h.args,h.more,h.vol,i,rfl⟩
theorem zBq {a la:Addr}{p s:PS}{Q:QE}(T:Tops X)(h:Zh G a p)
  (kk:∀c fs,G c=none->Zw fs ⟨s.op,s.dst,s.args,s.more,false⟩ la->Q (.ref c) (G.upd c (.inst .step fs))):Cal X (n+2) wF [.ref a,.str (opS s.op),.int s.dst,.ref la,s.more] G Q:=by
 obtain⟨⟨fs,lg,h1,⟨f1,f2,f3,f4,f5,li,f6⟩,h2⟩,ho⟩:=id h
 refine' Cal.start (os:=?os) T.d_in_place_of ?q ?b;case q=>walk_at"r"
 case b=>
 refine SnB.assignQ (Sn.newStep (s:=s) (la:=la) T (by walk_at"r") (λ_ _=>rfl) (by walk_at"r") λc gs hc hg=>⟨_,by walk_at"r",?_⟩)
 have h1':(G.upd c (.inst .step gs)) a=some (.inst .step fs):=Ext.new hc _ _ h1
 refine SnB.setA (f:=.line) (v:=.int li) T.cls (by walk_at"r") (by walk_at"r") (by walk_at"r") ?_
 exact SnB.retB (Rd.to (v:=.ref c) (by walk_at"r") (kk c _ hc hg.line_))
theorem zDR {a la:Addr}{p:PS}{fs:Fld->Option Val}{Q:QE}(T:Tops X)(h1:G a=some (.inst .step fs))(h2:Zw fs p la)(h3:G la=some (.list (p.args.map opdV)))(ho:p.op<36)
  (kk:∀c fs,G c=none->Zw fs ⟨p.op,-1,p.args,p.more,false⟩ la->Q (.ref c) (G.upd c (.inst .step fs))):Cal X (n+3) zP [.ref a] G Q:=by
 obtain⟨f1,f2,f3,f4,f5,li,f6⟩:=id h2
 refine' Cal.start (os:=?os) T.d_without_register ?q ?b;case q=>walk_at"r"
 case b=>
 refine SnB.retB (Sn.ref T.f_in_place_of (by walk_at"r") (λ_ _=>rfl) (vs:=[.ref a,.str (opS p.op),.int (-1),.ref la,p.more]) (by walk_at"r") (zBq (s:=⟨p.op,-1,p.args,p.more,false⟩) T ⟨⟨fs,la,h1,h2,h3⟩,ho⟩ kk))
inductive Zv (G:Gh)(p:PS):List Int->Prop where
 | jump {i:Int} (h:Nat.beq p.op 32=true) (e:p.more=.int i):Zv G p [i]
 | branch {i j:Int} (h:Nat.beq p.op 33=true) (e:p.more=.tup [.int i,.int j]):Zv G p [i,j]
 | table {v:Val} {l:Addr} {js:List Int} {d:Int} (h:Nat.beq p.op 34=true) (e:p.more=.tup [v,.ref l,.int d]) (hl:G l=some (.list (js.map .int))) (hj:js.length<1000):Zv G p (js++[d])
 | other (h1:Nat.beq p.op 32=false) (h2:Nat.beq p.op 33=false) (h3:Nat.beq p.op 34=false):Zv G p []
theorem Zv.ext {G':Gh}{p:PS}{js:List Int}(h:Zv G p js)(x:Ext G G'):Zv G' p js:=by
 cases h with
 | jump h e=>exact .jump h e
 | branch h e=>exact .branch h e
 | table h e hl hj=>exact .table h e (x _ _ hl) hj
 | other a b c=>exact .other a b c
theorem yQ {b eo:Addr}{num:Int}{sts:List Addr}{pe:PS}{js:List Int}{Q:QE}(T:Tops X)(hb:Zo G b num sts eo)(he:Zh G eo pe)(hj:Zv G pe js)
  (k:∀c G',G c=none->Ext G G'->G' c=some (.list (js.map .int))->Q (.ref c) G'):Cal X (n+1) wi [.ref b] G Q:=by
 obtain⟨fs,st,h1,⟨b1,b2,b3⟩,h2⟩:=id hb
 obtain⟨⟨es,la,h3,⟨e1,e2,e3,e4,e5,_⟩,h4⟩,ho⟩:=id he
 refine' Cal.start (os:=?os) T.d_followers ?q ?b;case q=>walk_at"r"
 case b=>
 refine SnB.assign (v:=.ref eo) (by walk_at"r") (by walk_at"r") ?_
 have fin:∀vs,vs=js.map Val.int->newList vs G Q:=λvs e c hc=>k c _ hc (Ext.new hc) (by rw[Gh.upd_same,e])
 refine SnB.ifs (r:=Nat.beq pe.op 32) ?_ (λe=>?_) λe=>.nilT ?_
 ·rw[<-zH8 pe.op ho];exact .cmp (by walk_at"r") (by walk_at"r") (.eqS ⟨rfl,rfl⟩)
 ·cases hj with
  | @jump i _ e'=>
   rw[e'] at e4
   exact SnB.retT (Sn.listR (vs:=[.int i]) (by walk_at"r") (fin _ rfl))
  | branch h _=>rw[Nat.eq_of_beq_eq_true e] at h;cases h
  | table h _ _ _=>rw[Nat.eq_of_beq_eq_true e] at h;cases h
  | other h _ _=>rw[e] at h;cases h
 refine SnB.ifs (r:=Nat.beq pe.op 33) ?_ (λe'=>?_) λe'=>.nilT ?_
 ·rw[<-zE1 pe.op ho];exact .cmp (by walk_at"r") (by walk_at"r") (.eqS ⟨rfl,rfl⟩)
 ·cases hj with
  | jump h _=>rw[e] at h;cases h
  | @branch i j _ e0=>
   rw[e0] at e4
   exact SnB.retT (Sn.listR (vs:=[.int i,.int j]) (.cons (.idxT (vs:=[.int i,.int j]) (by walk_at"r") .int (by decide) rfl) (.cons (.idxT (vs:=[.int i,.int j]) (by walk_at"r") .int (by decide) rfl) .nil)) (fin _ rfl))
  | table h _ _ _=>rw[Nat.eq_of_beq_eq_true e'] at h;cases h
  | other _ h _=>rw[e'] at h;cases h
 refine SnB.ifs (r:=Nat.beq pe.op 34) ?_ (λe''=>?_) λe''=>.nilT ?_
 ·rw[<-zGC pe.op ho];exact .cmp (by walk_at"r") (by walk_at"r") (.eqS ⟨rfl,rfl⟩)
 ·cases hj with
  | jump h _=>rw[e] at h;cases h
  | branch h _=>rw[e'] at h;cases h
  | @table v l js d _ e0 hl hlen=>
   rw[e0] at e4
   refine SnB.retT (Sn.bin (Sn.ty (id:="list") T.blt (by decide) (by decide) (by walk_at"r") (λ_ _=>rfl) (Rds.to (vs:=[.ref l]) (.cons (.idxT (vs:=[v,.ref l,.int d]) (by walk_at"r") .int (by decide) rfl) .nil) (Blt.listL hl (by rw[List.length_map];unfold cap;lia) λc hc=>?_))))
   have x1:=Ext.new (o:=.list (js.map .int)) hc
   have e4':=x1 _ _ h1
   have e5':=x1 _ _ h3
   refine Sn.listR (vs:=[.int d]) (.cons (.idxT (vs:=[v,.ref l,.int d]) (by walk_at"r") .int (by decide) rfl) .nil) λc2 hc2=>?_
   have x2:=Ext.new (o:=.list [.int d]) hc2
   refine Op2.addL (x2 _ _ (Gh.upd_same ..)) (Gh.upd_same ..) (by rw[List.length_map];show js.length+1<cap;unfold cap;lia) λc3 hc3=>?_
   have x3:=(x1.trans x2).trans (Ext.new (o:=.list (js.map .int++[.int d])) hc3)
   refine k c3 _ ?_ x3 ?_
   ·cases q:G c3 with
    | none=>rfl
    | some o=>rw[(x1.trans x2) _ _ q] at hc3;cases hc3
   ·rw[Gh.upd_same,List.map_append];rfl
  | other _ _ h=>rw[e''] at h;cases h
 cases hj with
 | jump h _=>rw[e] at h;cases h
 | branch h _=>rw[e'] at h;cases h
 | table h _ _ _=>rw[e''] at h;cases h
 | other _ _ _=>exact SnB.retB (Sn.listR .nil (fin _ rfl))
end
noncomputable section
variable {X:Cx}{n:Nat}{G:Gh}{sc:Scope}{os:List (Option Val)}{m:M}
theorem SnB.aug {Q:QS}{x:Str}{v w:Val}{e:Expr}{op:Operator}{p pos:Pos}{sts:List Stmt}(hx:Loc sc.names os x v)(h:Rd X n sc e (L sc os) G w)(k:Op2 X n (inplaceOp op) v w G (AssP X n sc os x sts Q)):SnB X n sc (.AugAssign (.Name x p) op e pos::sts) (L sc os) G Q:=
 .cons (.aug hx (h.to ⟨λa b c d e=>zA (k.go a b c d e) λx s o=>o.elim λv' G' hv hr f q=>by obtain⟨os',u,q⟩:=q;exact .mk _ _ hv hr f ⟨_,u.put,.next q⟩⟩))
theorem zCu (a b:Nat):(λj=>zF a j||zF b j)=zF (a ||| b):=by
 funext j
 unfold zF
 rw[Nat.testBit_or]
 cases decide (0<=j)<;>simp
theorem uO:(λ_:Int=>false)=zF 0:=by
 funext j
 unfold zF
 rw[Nat.zero_testBit,Bool.and_false]
theorem Zf.new {c:Addr}{f:Bool}:Zf (G.upd c (.set (λ_=>false) f)) c 0:=⟨f,by rw[Gh.upd_same,uO]⟩
noncomputable abbrev AhL:=List (Int×Addr×Nat)
noncomputable def ahE (l:AhL):List (Int×Val):=l.map λe=>(e.1,.ref e.2.1)
noncomputable def ahM (l:AhL):List (Int×Nat):=l.map λe=>(e.1,e.2.2)
noncomputable def zb (l:List (Int×Nat))(k:Int):Nat:=((l.find? λe=>decide (e.1=k)).map (·.2)).getD 0
structure AhAt (G:Gh)(d:Addr)(l:AhL):Prop where
 d:G d=some (.dict (ahE l))
 s:∀e∈l,Zf G e.2.1 e.2.2
theorem AhAt.look {d:Addr}{l:AhL}(h:AhAt G d l){k:Int}(hk:k∈(ahM l).map (·.1)):∃a,zq (ahE l) k=some (.ref a)/\Zf G a (zb (ahM l) k):=by
 unfold zq zb
 unfold ahM ahE at *
 rw[List.find?_map,List.find?_map]
 cases q:l.find? ((λe:Int×Val=>decide (e.1=k)) ∘ λe=>(e.1,Val.ref e.2.1)) with
 | none=>
  exfalso
  rw[List.find?_eq_none] at q
  rw[List.map_map] at hk
  obtain⟨e,he,rfl⟩:=List.mem_map.mp hk
  exact q e he (decide_eq_true rfl)
 | some e=>
  have hm:=List.mem_of_find?_eq_some q
  have q':l.find? ((λe:Int×Nat=>decide (e.1=k)) ∘ λe=>(e.1,e.2.2))=some e:=q
  rw[q']
  exact⟨e.2.1,rfl,h.s e hm⟩
noncomputable def zL (l:List (Int×Nat))(js:List Int):Nat:=js.foldl (λm j=>m ||| zb l j) 0
noncomputable abbrev nbL (b d c:Addr)(x:Option Val):M:=L wq [some (.ref b),some (.ref d),some (.ref c),x,none,none]
inductive BehI (G0 G1:Gh)(b d c la:Addr)(l:AhL)(rs:List Val)(goal:Nat):List Val->M->Gh->Prop where
 | mk {x:Option Val} {js:List Int} {k:Nat} {f:Bool} {G':Gh} (hj:∀j∈js,j∈(ahM l).map (·.1)) (hc:G' c=some (.set (zF k) f)) (hf:f=true\/∃i,zF k i=true) (x1:Ext1 c G1 G') (hl:G' la=some (.list rs)) (hk:js.foldl (λm j=>m ||| zb (ahM l) j) k=goal):BehI G0 G1 b d c la l rs goal (js.map .int) (nbL b d c x) G'
theorem j8 {b eo d:Addr}{num:Int}{sts:List Addr}{pe:PS}{js:List Int}{l:AhL}{Q:QE}(T:Tops X)(hb:Zo G b num sts eo)(he:Zh G eo pe)(hj:Zv G pe js)(hd:AhAt G d l)(hin:∀j∈js,j∈(ahM l).map (·.1))
  (k:∀c G',G c=none->Ext G G'->Zf G' c (zL (ahM l) js)->Q (.ref c) G'):Cal X (n+2) zy [.ref b,.ref d] G Q:=by
 refine' Cal.start (os:=?os) T.d_need_behind ?q ?b;case q=>walk_at"r"
 case b=>
 refine SnB.assignQ (Sn.ty (id:="set") T.blt (by decide) (by decide) (by walk_at"r") (λ_ _=>rfl) (Rds.nil.to (Blt.set0 λc hc=>⟨_,by walk_at"r",?_⟩)))
 have x0:=Ext.new (o:=.set (λ_=>false) true) hc
 generalize hG1:G.upd c (.set (λ_=>false) true)=G1 at x0
 have hc1:G1 c=some (.set (zF 0) true):=by rw[<-hG1,Gh.upd_same,uO]
 refine SnB.forQ (Sn.ref T.f_followers (by walk_at"r") (λ_ _=>rfl) (vs:=[.ref b]) (by walk_at"r") (yQ T (hb.ext x0) (he.ext x0) (hj.ext x0) λla G2 hla x1 h2=>?_))
 have hlc:la≠c:=λq=>by rw[q,hc1] at hla;cases hla
 refine⟨la,_,BehI G G2 b d c la l (js.map .int) (zL (ahM l) js),rfl,h2,⟨?_,?_⟩,.mk hin (x1 _ _ hc1) (.inl rfl) .refl h2 rfl⟩
 ·intro v xs m G' hI
  generalize hvx:v::xs=vx at hI
  cases hI with | @mk x js' k' f _ hj' hc' hf' x' hl' hk=>
  cases js' with
  | nil=>cases hvx
  | cons j js'=>
  obtain⟨rfl,rfl⟩:=List.cons.inj hvx
  refine⟨hl',_,.name (Upd.put (os':=[some (.ref b),some (.ref d),some (.ref c),some (.int j),none,none]) (by walk_at"r")),?_⟩
  obtain⟨a,ha,hs0⟩:=hd.look (hj' j (.head _))
  have ne:∀{z:Addr} {o:GObj},G z=some o->z≠c:=λe q=>by rw[q,hc] at e;cases e
  obtain⟨fa,hs0⟩:=hs0
  have hs1:=x' _ _ (ne hs0) (x1 _ _ (x0 _ _ hs0))
  have hd1:=x' _ _ (ne hd.d) (x1 _ _ (x0 _ _ hd.d))
  refine SnB.aug (v:=.ref c) (w:=.ref a) (by walk_at"r") (.idxD (by walk_at"r") hd1 (by walk_at"r") ha) (Op2.ior hc' hs1 (Ne.symm (ne hs0)) hf' λf' hf2=>⟨_,by walk_at"r",.nil (.next ?_)⟩)
  refine .mk (λj h=>hj' j (.tail _ h)) (by rw[Gh.upd_same,zCu]) (hf2.imp id λ⟨i,hi⟩=>⟨i,?_⟩) (x'.trans .upd) ((Gh.upd_ne _ _ hlc).trans hl') hk
  rw[<-zCu]
  exact Bool.or_eq_true_iff.mpr hi
 ·intro m G' hI
  generalize hvx:([]:List Val)=vx at hI
  cases hI with | @mk x js' k' f _ hj' hc' hf' x' hl' hk=>
  cases js' with
  | cons _ _=>cases hvx
  | nil=>
   refine⟨hl',.next (SnB.retB (Rd.to (v:=.ref c) (by walk_at"r") (k c G' hc (λz o e=>x' _ _ (λq=>by rw[q,hc] at e;cases e) (x1 _ _ (x0 _ _ e))) ⟨f,?_⟩)))⟩
   rw[<-hk];exact hc'
end
noncomputable section
variable {X:Cx}{n:Nat}{G:Gh}{sc:Scope}{os:List (Option Val)}{m:M}
theorem wO {α:Type}{f:α->Val}{r:List α}(h:[]=r.map f):r=[]:=List.map_eq_nil_iff.mp h.symm
theorem zr {α:Type}{f:α->Val}{r:List α}{v:Val}{xs:List Val}(h:v::xs=r.map f):∃a r',r=a::r'/\v=f a/\xs=r'.map f:=by
 cases r with
 | nil=>cases h
 | cons a r=>exact⟨a,r,rfl,(List.cons.inj h).1,(List.cons.inj h).2⟩
theorem Zb.uc {a:Addr}{as:List Addr}{ps:List PS}{C:List PS->Prop}(h:Zb G (a::as) ps)(k:∀p ps',Zh G a p->Zb G as ps'->C (p::ps')):C ps:=by cases h with | cons h1 h2=>exact k _ _ h1 h2
theorem Zb.un {ps:List PS}(h:Zb G [] ps):ps=[]:=by cases h;rfl
theorem zCw {a b k:Nat}(h:a+b<=k)(q:k<=2000):a<cap:=Nat.lt_of_le_of_lt (Nat.le_trans (Nat.le_add_right a b) (Nat.le_trans h q)) (by decide)
theorem zAC {a b k:Nat}(h:a+b<=k)(q:k<=1900):a<=2000:=Nat.le_trans (Nat.le_add_right a b) (Nat.le_trans h (Nat.le_trans q (by decide)))
theorem SnB.ifsM {Q:QS}{t:Expr}{a c sts:List Stmt}{pos:Pos}{r:Bool}(P:M->Gh->Prop)(h:RdT X n sc t m G r)(hr:∀m' G',P m' G'->SnB X n sc sts m' G' Q)
  (hj:∀QJ:QS,(∀{m G},P m G->QJ .next m G)->(∀{m G},Q .cont m G->QJ .cont m G)->(r=true->SnB X n sc a m G QJ)/\(r=false->SnB X n sc c m G QJ)):SnB X n sc (.If t a c pos::sts) m G Q:=
 .ifs h (hj _ (λq=>.next (hr _ _ q)) .cont).1 (hj _ (λq=>.next (hr _ _ q)) .cont).2
noncomputable def zT (p:PS):Bool:=Nat.beq p.op 10&&(match p.args[0]? with | some o=>o.1&&(o.2 == p.dst) | none=>false)
noncomputable def zM (sl:Zg)(ad:Za)(s:Nat×List (PS×Bool))(p:PS):Nat×List (PS×Bool):=
 if zF s.1 p.dst then(if zT p then s else(addA (clrb s.1 p.dst) p.args,(p,false)::s.2))
 else if zY sl ad p then s
 else if decide (p.dst >= 0)&&yO p.op then(addA s.1 p.args,(⟨p.op,-1,p.args,p.more,false⟩,true)::s.2)
 else(addA s.1 p.args,(p,false)::s.2)
noncomputable def jn (sl:Zg)(ad:Za)(steps:List PS)(ends:List Opd)(m:Nat):List (PS×Bool):=(steps.reverse.foldl (zM sl ad) (addA m ends,[])).2
inductive RelK (G0:Gh):List Addr->List Addr->List (PS×Bool)->Prop where
 | nil:RelK G0 [] [] []
 | skip {a:Addr} {as ks:List Addr} {qs:List (PS×Bool)}:RelK G0 as ks qs->RelK G0 (a::as) ks qs
 | same {a:Addr} {as ks:List Addr} {p:PS} {qs:List (PS×Bool)}:RelK G0 as ks qs->RelK G0 (a::as) (a::ks) ((p,false)::qs)
 | new {a c:Addr} {as ks:List Addr} {p:PS} {qs:List (PS×Bool)}:G0 c=none->RelK G0 as ks qs->RelK G0 (a::as) (c::ks) ((p,true)::qs)
inductive KO (G0 G:Gh)(a:Addr)(p:PS):Prop where
 | mk (fs:Fld->Option Val) (la:Addr) (h1:G a=some (.inst .step fs)) (h2:Zw fs p la) (h3:G0 la=some (.list (p.args.map opdV)))
structure KAt (G0 G:Gh)(a:Addr)(p:PS):Prop where
 ok:KO G0 G a p
 op:p.op<36
inductive KsAt (G0 G:Gh):List Addr->List (PS×Bool)->Prop where
 | nil:KsAt G0 G [] []
 | cons {a:Addr} {q:PS×Bool} {as:List Addr} {qs:List (PS×Bool)}:KAt G0 G a q.1->KsAt G0 G as qs->KsAt G0 G (a::as) (q::qs)
noncomputable def Z4 (G G':Gh):Prop:=∀x c fs,G x=some (.inst c fs)->G' x=some (.inst c fs)
theorem Z4.trans {G' G'':Gh}(a:Z4 G G')(b:Z4 G' G''):Z4 G G'':=λx c fs e=>b x c fs (a x c fs e)
theorem Ext.inst {G':Gh}(x:Ext G G'):Z4 G G':=λa c fs e=>x _ _ e
theorem Z4.upd {h:Addr}{o o':GObj}(e:G h=some o)(n:o.isInst=false):Z4 G (G.upd h o'):=λa c fs e'=>(Gh.upd_ne _ _ λq=>by rw[q,e] at e';cases e';cases n).trans e'
theorem Ext1.inst {h:Addr}{G':Gh}{k:Nat}(hs:Zf G h k)(x:Ext1 h G G'):Z4 G G':=λa c fs e=>yj hs x e rfl
theorem KsAt.keep {G0 G':Gh}{as:List Addr}{qs:List (PS×Bool)}(h:KsAt G0 G as qs)(x:Z4 G G'):KsAt G0 G' as qs:=by
 induction h with
 | nil=>exact .nil
 | cons a _ ih=>
  obtain⟨⟨fs,la,h1,h2,h3⟩,o⟩:=a
  exact .cons ⟨⟨fs,la,x _ _ _ h1,h2,h3⟩,o⟩ ih
noncomputable abbrev ssL (f ad b h ko:Addr)(x y z:Option Val):M:=L wn [some (.ref f),some (.ref ad),some (.ref b),some (.ref h),x,y,some (.ref ko),z,none,none,none]
noncomputable def SwI (G0:Gh)(f ad b h ko c:Addr)(sl:Zg)(am:Za)(sts:List Addr)(rs:List Val)(goal:List (PS×Bool))(as:List Addr)(m:M)(G':Gh):Prop:=
 ∀C:M->Prop,(∀(x y z:Option Val) (done ks:List Addr) (qs:List PS) (k:Nat) (kq:List (PS×Bool)),Zb G0 as qs->(∀p∈qs,Zn p)->Zf G' h k->Ext1 h G0 G'->G' c=some (.list rs)->as.reverse++done=sts->G' ko=some (.list (ks.reverse.map .ref))->RelK G0 done ks kq->KsAt G0 G' ks kq->ks.length<=done.length->(qs.foldl (zM sl am) (k,kq)).2=goal->C (ssL f ad b h ko x y z))->C m
theorem SwI.mk {G0:Gh}{f ad b h ko c:Addr}{sl:Zg}{am:Za}{sts:List Addr}{rs:List Val}{goal:List (PS×Bool)}{x y z:Option Val}{as done ks:List Addr}{qs:List PS}{k:Nat}{kq:List (PS×Bool)}{G':Gh}(hs:Zb G0 as qs)(hw:∀p∈qs,Zn p)(hh:Zf G' h k)(x1:Ext1 h G0 G')(hc:G' c=some (.list rs))(hd:as.reverse++done=sts)
   (hko:G' ko=some (.list (ks.reverse.map .ref))) (hr:RelK G0 done ks kq) (hk:KsAt G0 G' ks kq) (hl:ks.length<=done.length) (hg:(qs.foldl (zM sl am) (k,kq)).2=goal):SwI G0 f ad b h ko c sl am sts rs goal as (ssL f ad b h ko x y z) G':=λ_ q=>q x y z done ks qs k kq hs hw hh x1 hc hd hko hr hk hl hg
noncomputable def SwJ (G0 G':Gh)(h a:Addr)(F:Option Val->M)(rel:PS->Nat->List (PS×Bool)->Prop)(args:List Opd)(done ks:List Addr)(kq:List (PS×Bool))(m:M)(Gb:Gh):Prop:=
 ∀C:M->Prop,(∀(a':Addr) (p':PS) (nw:Bool) (kb:Nat),KAt G0 Gb a' p'->p'.args=args->Zf Gb h kb->Ext1 h G' Gb->Z4 G' Gb->RelK G0 (a::done) (a'::ks) ((p',nw)::kq)->rel p' kb ((p',nw)::kq)->C (F (some (.ref a'))))->C m
theorem SwJ.mk {G0 G' Gb:Gh}{h a a':Addr}{F:Option Val->M}{rel:PS->Nat->List (PS×Bool)->Prop}{args:List Opd}{done ks:List Addr}{kq:List (PS×Bool)}{p':PS}{nw:Bool}{kb:Nat}(hk:KAt G0 Gb a' p')(hp:p'.args=args)(hs:Zf Gb h kb)(x1:Ext1 h G' Gb)(ik:Z4 G' Gb)(hr:RelK G0 (a::done) (a'::ks) ((p',nw)::kq))(hg:rel p' kb ((p',nw)::kq)):SwJ G0 G' h a F rel args done ks kq (F (some (.ref a'))) Gb:=λ_ q=>q a' p' nw kb hk hp hs x1 ik hr hg
theorem Ext1.none {G':Gh}{h z:Addr}{k:Nat}(x:Ext1 h G G')(hs:Zf G' h k)(e:G' z=Option.none):G z=Option.none:=by
 cases q:G z with
 | none=>rfl
 | some o=>
  have ne:z≠h:=λw=>by obtain⟨_,e'⟩:=hs;rw[w,e'] at e;cases e
  rw[x _ _ ne q] at e;cases e
theorem Yl.mapC {α:Type}{f:α->Val}{Q:QS}{tgt:Expr}{body sts:List Stmt}{v:Val}{G':Gh}{a:Addr}{as:List α}(e1:G' a=some (.list (as.map f)))(e:v=.ref a)(I:List α->M->Gh->Prop)(h0:I as m G')(gd:∀r m G',I r m G'->G' a=some (.list (as.map f)))
  (t:∀x r m G (QT:QS),I (x::r) m G->(∀{m G},I r m G->QT .next m G)->(∀{m G},I r m G->QT .cont m G)->BT X n sc tgt (f x) m body G QT) (z:∀m G,I [] m G->SnB X n sc sts m G Q):Yl X n sc tgt body sts m Q v G':=
 ⟨a,as.map f,λxs m G=>∃r,xs=r.map f/\I r m G,e,e1,⟨λv xs m G q=>by
  obtain⟨r,e,hI⟩:=q
  have g:=gd _ _ _ hI
  obtain⟨x,r,rfl,rfl,rfl⟩:=zr e
  exact⟨g,t x r m G _ hI (λh=>.next ⟨r,rfl,h⟩) λh=>.cont ⟨r,rfl,h⟩⟩,λm G q=>by
  obtain⟨r,e,hI⟩:=q
  obtain rfl:=wO e
  exact⟨gd _ _ _ hI,.next (z m G hI)⟩⟩,⟨as,rfl,h0⟩⟩
theorem zJB {k a d s:Nat}(h:a+(d+1)=s)(hk:k<=d)(hs:s<1000):k+(a+1)<=999:=Nat.le_trans (Nat.add_le_add_right hk _) (Nat.le_trans (Nat.le_of_eq (show d+(a+1)=s from by rw[<-h,Nat.add_comm d,Nat.add_assoc,Nat.add_comm 1])) (Nat.le_of_lt_succ hs))
theorem vX {f ad b h eo:Addr}{pr:List Int}{sl:Zg}{bls:List Addr}{am:Za}{num:Int}{sts:List Addr}{ps:List PS}{pe:PS}{k:Nat}{Q:QE}(T:Tops X)(hf:Zk G f pr sl bls)(ha:G ad=some (.dict (adE am)))(hok:AdOK am sl)
  (hb:Zo G b num sts eo) (hst:Zb G sts ps) (hwf:∀p∈ps,Zn p) (hlen:sts.length<1000) (hend:Zh G eo pe) (hew:OpOK pe.args) (hs:Zf G h k)
  (kk:∀c ks G',G c=none->Ext1 h G G'->G' c=some (.list (ks.map .ref))->RelK G sts ks (jn sl am ps pe.args k)->KsAt G G' ks (jn sl am ps pe.args k)->ks.length<=sts.length->Q (.ref c) G'):Cal X (n+4) zv [.ref f,.ref ad,.ref b,.ref h] G Q:=by
 obtain⟨fs,st,h1,⟨b1,b2,b3⟩,h2⟩:=id hb
 obtain⟨⟨es,la,h3,⟨e1,e2,e3,e4,e5,_⟩,h4⟩,ho⟩:=id hend
 refine' Cal.start (os:=?os) T.d_swept_steps ?q ?b;case q=>walk_at"r"
 case b=>
 refine uj (λx y=>[some (.ref f),some (.ref ad),some (.ref b),some (.ref h),x,y,none,none,none,none,none]) rfl (λ_ _ _=>by walk_at"r") (λ_ _ _=>by walk_at"r") (λ_ _=>by walk_at"r") (λ_ _=>by walk_at"r") (λ_ _=>by walk_at"r") (by walk_at"r") h4 hs hew λx y G1 hs1 x1=>?_
 refine SnB.assignQ (Sn.listR .nil λko hko=>⟨_,by walk_at"r",?_⟩)
 have y1:=Ext.new (o:=.list []) hko
 have nk:∀{z:Addr} {o:GObj},G1 z=some o->z≠ko:=λe q=>by rw[q,hko] at e;cases e
 have nh:∀{z:Addr},G1 z=none->z≠h:=λe q=>by obtain⟨_,q'⟩:=hs1;rw[q,q'] at e;cases e
 have kh:=nh hko
 have hk2:=Gh.upd_same G1 ko (.list [])
 generalize G1.upd ko (.list [])=G2 at *
 have h1':=y1 _ _ (yj hs x1 h1 rfl)
 have h2':=y1 _ _ (yj hs x1 h2 rfl)
 refine SnB.forQ (Sn.rev (Rd.to (v:=.ref st) (by walk_at"r") ⟨st,sts.map .ref,rfl,h2',λc hc=>?_⟩))
 have y2:=Ext.new (o:=.list (sts.map .ref).reverse) hc
 have hcc:=Gh.upd_same G2 c (.list (sts.map .ref).reverse)
 generalize hrs:(sts.map Val.ref).reverse=rs at *
 have hrs':rs=sts.reverse.map .ref:=by rw[<-hrs,List.map_reverse]
 have ckn:c≠ko:=λq=>by rw[<-q,hc] at hk2;cases hk2
 have ch:c≠h:=λq=>by obtain⟨_,q'⟩:=hs1;rw[q,y1 _ _ q'] at hc;cases hc
 have hko':=y2 _ _ hk2
 generalize G2.upd c (.list rs)=G3 at *
 have x3:Ext1 h G G3:=x1.trans (y1.trans y2).one
 have hs3:Zf G3 h (addA k pe.args):=by obtain⟨f,q⟩:=hs1;exact⟨f,y2 _ _ (y1 _ _ q)⟩
 have gk:∀{z:Addr} {o:GObj},G z=some o->z≠ko:=λ{z o} e q=>by
  by_cases zh:z=h
  ·exact kh (q.symm.trans zh)
  ·exact nk (x1 _ _ zh e) q
 refine .mapC (f:=.ref) (hrs'▸hcc) rfl (SwI G f ad b h ko c sl am sts rs (jn sl am ps pe.args k)) (.mk (done:=[]) (ks:=[]) hst.reverse (λp hp=>hwf p (List.mem_reverse.mp hp)) hs3 x3 hcc (by rw[List.reverse_reverse,List.append_nil]) hko' .nil .nil (Nat.le_refl _) rfl) (λr m G' hI=>hrs'▸hI (λ_=>_) λ_ _ _ _ _ _ _ _ _ _ _ _ e _ _ _ _ _ _=>e) (λa as m G' QT hI hN hN'=>?_) λm G' hI=>?_
 ·clear hcc hs3 x3 hs1 x1 hk2 hko' y1 y2 h1' h2' nk nh hc
  apply hI
  intro x y z done ks qs k' kq hsa hw hs' x' hc' hd hko' hrel hka hlk hg
  revert hw hg
  apply hsa.uc
  intro p qs hp hsa hw hg
  have hp':=hp.k1 hs x'
  obtain⟨⟨fp,lp,p1,pis,p2⟩,po⟩:=id hp'
  obtain⟨⟨fp0,lp0,p10,pis0,p20⟩,_⟩:=id hp
  obtain⟨q1,q2,q3,q4,q5,_⟩:=id pis
  have hwp:=hw p (.head _)
  have hw':∀p∈qs,Zn p:=λp hp=>hw p (.tail _ hp)
  have hd':as.reverse++(a::done)=sts:=by rw[<-hd,List.reverse_cons,List.append_assoc];rfl
  obtain⟨fl,hs''⟩:=id hs'
  have skip:zM sl am (k',kq) p=(k',kq)->QT .cont (ssL f ad b h ko x y (some (.ref a))) G':=λe=>
   hN' (.mk hsa hw' hs' x' hc' hd' hko' (.skip hrel) hka (Nat.le_succ_of_le hlk) (by rw[<-hg,List.foldl_cons,e]))
  refine⟨_,.name (Upd.put (os':=[some (.ref f),some (.ref ad),some (.ref b),some (.ref h),x,y,some (.ref ko),some (.ref a),none,none,none]) (by walk_at"r")),SnB.ifsM (r:=zF k' p.dst) (SwJ G G' h a (ssL f ad b h ko x y) (λp' kb q=>zM sl am (k',kq) p=(addA kb p.args,q)) p.args done ks kq) (.cmp (by walk_at"r") (by walk_at"r") (.inSet hs'' ⟨rfl,rfl⟩)) (λmb Gb hJ=>?_) λQJ hM hC=>?_⟩
  ·apply hJ
   intro a' p' nw kb hk1 hp1 s1 s2 s3 s4 s5
   obtain⟨⟨fk,lk,k1,⟨m1,m2,m3,m4,m5,_⟩,k2⟩,k3⟩:=id hk1
   rw[hp1] at k2
   have k2':=yj hs (x'.trans s2) k2 rfl
   refine uj (λx y=>[some (.ref f),some (.ref ad),some (.ref b),some (.ref h),x,y,some (.ref ko),some (.ref a'),none,none,none]) rfl (λ_ _ _=>by walk_at"r") (λ_ _ _=>by walk_at"r") (λ_ _=>by walk_at"r") (λ_ _=>by walk_at"r") (λ_ _=>by walk_at"r") (by walk_at"r") k2' s1 hwp.regs λx y G4 hs4 x4=>?_
   have hko4:=x4 _ _ kh (s2 _ _ kh hko')
   have hc4:=x4 _ _ ch (s2 _ _ ch hc')
   have lens:ks.length+(as.length+1)<=999:=zJB (by rw[<-List.length_cons (a:=a) (as:=done),<-List.length_reverse (as:=as),<-List.length_append,hd']) hlk hlen
   refine SnB.expr (Sn.meth .append (λ_ _=>rfl) (Rd.to (v:=.ref ko) (by walk_at"r") ⟨.list hko4,Rds.to (vs:=[.ref a']) (by walk_at"r") (Meth.append hko4 (by rw[List.length_map,List.length_reverse];exact zCw lens (by decide)) (.nil (hN ?_)))⟩))
   have iu:Z4 G4 (G4.upd ko (.list (ks.reverse.map .ref++[.ref a']))):=.upd hko4 rfl
   have i4:=x4.inst s1
   have hall:KsAt G (G4.upd ko (.list (ks.reverse.map .ref++[.ref a']))) (a'::ks) ((p',nw)::kq):=KsAt.keep (.cons hk1 (hka.keep s3)) (i4.trans iu)
   exact .mk hsa hw' (by obtain⟨f,q⟩:=hs4;exact⟨f,(Gh.upd_ne _ _ (Ne.symm kh)).trans q⟩) (λz o zh e=>(Gh.upd_ne _ _ (gk e)).trans (x4 _ _ zh (s2 _ _ zh (x' _ _ zh e)))) ((Gh.upd_ne _ _ ckn).trans hc4) hd' (by rw[Gh.upd_same,List.reverse_cons,List.map_append];rfl) s4 hall (Nat.succ_le_succ hlk) (by rw[<-hg,List.foldl_cons,s5])
  have same:∀{Gb:Gh} {kb:Nat},Zf Gb h kb->Ext1 h G' Gb->zM sl am (k',kq) p=(addA kb p.args,(p,false)::kq)->QJ .next (ssL f ad b h ko x y (some (.ref a))) Gb:=λs1 s2 s3=>
   hM (.mk ⟨⟨fp0,lp0,yj hs (x'.trans s2) p10 rfl,pis0,p20⟩,po⟩ rfl s1 s2 (s2.inst hs') (.same hrel) s3)
  have skip:=λe=>hC (skip e)
  refine⟨λe=>?_,λe=>?_⟩
  ·-- it is needed
   refine SnB.ifs (r:=zT p) ?_ (λe2=>SnB.cont (.cont (skip ((if_pos e).trans (if_pos e2))))) λe2=>.nil (.next ?_)
   ·cases hop:Nat.beq p.op 10 with
    | false=>
     have e0:zT p=(Nat.beq p.op 10&&false):=by unfold zT;rw[hop];rfl
     rw[e0,<-zCJ p.op po]
     exact .and (.cmp (by walk_at"r") (by walk_at"r") (.eqS ⟨rfl,rfl⟩)) λq=>by rw[zCJ p.op po,hop] at q;cases q
    | true=>
     obtain⟨o,ho'⟩:∃o,p.args[0]?=some o:=⟨_,List.getElem?_eq_getElem (hwp.copy (Nat.eq_of_beq_eq_true hop))⟩
     have e0:zT p=(Nat.beq p.op 10&&(rk o.1 == Str.ofString "r"&&(o.2 == p.dst&&true))):=by unfold zT;rw[ho',rk_r,Bool.and_true]
     rw[e0,<-zCJ p.op po]
     refine .and (.cmp (by walk_at"r") (by walk_at"r") (.eqS ⟨rfl,rfl⟩)) λq=>.and1 (.cmp (v:=opdV o) (w:=.tup [.str "r",.int p.dst]) (.idxL (by walk_at"r") p2 .int (by decide) (zV ho')) (by walk_at"r") (Op2.eq (.tup' (.cons (.str (by cases o.1<;>decide +kernel)) (.cons (.int _) .nil))) (.tup' (.cons (.str (by decide +kernel)) (.cons (.int _) .nil))) ⟨rfl,rfl⟩))
   ·exact SnB.expr (Sn.meth .discard (λ_ _=>rfl) (Rd.to (v:=.ref h) (by walk_at"r") ⟨.set hs'',Rds.to (vs:=[.int p.dst]) (by walk_at"r") (Meth.discard hs'' (.nil (same ⟨false,by rw[Gh.upd_same,zBW (yx e) e]⟩ .upd ((if_pos e).trans (if_neg (by rw[e2];decide))))))⟩))
  ·have eN:zM sl am (k',kq) p=if zY sl am p then(k',kq) else if decide (p.dst >= 0)&&yO p.op then(addA k' p.args,(⟨p.op,-1,p.args,p.more,false⟩,true)::kq) else(addA k' p.args,(p,false)::kq):=if_neg (by rw[e];decide)
   refine SnB.ifs (r:=zY sl am p) (.val (.ref T.f_is_free ?_ ?_ (vs:=[.ref f,.ref ad,.ref a]) ?_ (vr T (hf.k1 hs x') (yj hs x' ha rfl) hok hp' hwp ⟨rfl,rfl⟩)) (.bool _)) (λe'=>SnB.cont (.cont (skip (eN.trans (if_pos e'))))) λe'=>?_
   ·walk_at"r"
   ·intro _ _;rfl
   ·walk_at"r"
   rw[if_neg (by rw[e'];decide)] at eN
   refine SnB.ifs (r:=decide (p.dst >= 0)&&yO p.op) (zH9 p.op po▸.and (.cmp (by walk_at"r") (by walk_at"r") (.ge ⟨rfl,rfl⟩)) λ_=>.and1 (.inG T.g_CALLS (by walk_at"r") (by walk_at"r"))) (λe2=>?_) λe2=>.nil (.next (.nil (.next (.nil (same hs' .refl (by rw[eN,if_neg (by rw[e2];decide)]))))))
   refine SnB.assignQ (Sn.ref T.f_without_register (by walk_at"r") (λ_ _=>rfl) (vs:=[.ref a]) (by walk_at"r") (zDR T p1 pis p2 po λc' gs hc' hg'=>⟨_,by walk_at"r",.nil (.next (.nil (.next (.nil (hM ?_)))))⟩))
   have lpe:lp=lp0:=by
    have:=yj hs x' p10 rfl
    rw[p1] at this;cases this
    have q:=pis0.args;rw[q3] at q;cases q;rfl
   subst lpe
   exact .mk ⟨⟨gs,lp,Gh.upd_same ..,hg',p20⟩,po⟩ rfl (by obtain⟨f,q⟩:=hs';exact⟨f,Ext.new hc' _ _ q⟩) (Ext.new hc').one (Ext.new hc').inst (.new (x'.none hs' hc') hrel) (by rw[eN,if_pos e2])
 ·apply hI
  intro x y z done ks qs k' kq hsa hw hs' x' hc' hd hko' hrel hka hlk hg
  cases hsa.un
  have hd2:done=sts:=hd
  subst hd2
  have hg2:kq=jn sl am ps pe.args k:=hg
  subst hg2
  refine SnB.retB (Sn.rev (Rd.to (v:=.ref ko) (by walk_at"r") ⟨ko,ks.reverse.map .ref,rfl,hko',λc' hc''=>?_⟩))
  have y:=Ext.new (o:=.list (ks.reverse.map Val.ref).reverse) hc''
  refine kk c' ks _ (x'.none hs' hc'') (x'.trans y.one) ?_ hrel (hka.keep y.inst) hlk
  rw[Gh.upd_same,List.map_reverse,List.reverse_reverse]
end
noncomputable section
variable {X:Cx}{n:Nat}{G:Gh}{sc:Scope}{os:List (Option Val)}{m:M}
theorem Bnd.weak {loc:Bool}{tgt:Expr}{v:Val}{m1 m2 m':M}(h:Bnd X loc sc tgt v m1 m')(k:∀x v,m1 x v->m2 x v):Bnd X loc sc tgt v m2 m':=⟨λhe hh hl hr hf hv=>h.go he hh hl hr (hf.weak k) hv⟩
section
variable {P:Str->Val->Prop}{p:Str×NameKind}{ns:List (Str×NameKind)}{x:Str}{k:NameKind}{v:Val}
theorem cap0:∀y w,Loc ns [] y w->P y w:=λy w h=>by cases h
theorem capn (h:∀y w,Loc ns os y w->P y w):∀y w,Loc (p::ns) (none::os) y w->P y w:=λy w q=>by cases q with | s q=>exact h y w q
theorem capv (hv:P x v)(h:∀y w,Loc ns os y w->P y w):∀y w,Loc ((x,k)::ns) (some v::os) y w->P y w:=λy w q=>by cases q with | z=>exact hv | s q=>exact h y w q
end
theorem Ext.none {G':Gh}(x:Ext G G'){z:Addr}(h:G' z=none):G z=none:=by
 cases e:G z with
 | none=>rfl
 | some o=>rw[x _ _ e] at h;cases h
theorem SnB.abs {J:M->Gh->Prop}{Q:QS}{body:List Stmt}(h:∀QT:QS,(∀{m G},J m G->QT .next m G)->(∀{v m G},Q (.ret v) m G->QT (.ret v) m G)->SnB X n sc body m G QT):SnB X n sc body m G (Turn J Q):=h _ .next .ret
theorem Yb.cap {sc' scope:Scope}{tgt elt:Expr}{ifs:List Expr}{gd:Gh->Prop}{Q:QE}{I:List Val->List Val->Gh->Prop}(os0:List (Option Val))(h:Yb X n sc' tgt elt ifs (L sc' os0) gd Q I)(hm:∀y w,Loc sc'.names os0 y w->capM sc scope m y w)(e:relS sc scope=sc':=by rfl):Yb X n (relS sc scope) tgt elt ifs (capM sc scope m) gd Q I:=
 ⟨λx xs acc G hI=>by
  obtain⟨h1,m',h2,h3⟩:=h.turn x xs acc G hI
  rw[e]
  exact⟨h1,m',h2.weak hm,h3⟩,h.stop⟩
theorem SnB.forN {Q:QS}{e tgt:Expr}{body sts:List Stmt}{pos:Pos}{a:Addr}{xs:List Val}(h:Rd X n sc e m G (.ref a))(e1:G a=some (.list xs))(I:List Val->M->Gh->Prop)(h0:I xs m G)
  (t:∀x xs m G,I (x::xs) m G->BT X n sc tgt x m body G (Turn (I xs) (Then X n sc sts Q))) (z:∀m G,I [] m G->SnB X n sc sts m G Q) (gd:∀xs' m G',I xs' m G'->G' a=some (.list xs))
  (hs:∀env x,foldedSetIterable e env x=pure x:=by intro _ _;rfl):SnB X n sc (.For tgt e body [] pos::sts) m G Q:=
 .forL h e1 I ⟨λx xs m G i=>⟨gd _ _ _ i,t x xs m G i⟩,λm G i=>⟨gd _ _ _ i,.next (z m G i)⟩⟩ h0 hs
theorem SnB.forC {α:Type}{Q:QS}{e tgt:Expr}{body sts:List Stmt}{pos:Pos}{a:Addr}{as:List α}(f:α->Val)(h:Rd X n sc e m G (.ref a))(e1:G a=some (.list (as.map f)))(I:List α->M->Gh->Prop)(h0:I as m G)(gd:∀r m G',I r m G'->G' a=some (.list (as.map f)))
  (t:∀x r m G (QT:QS),I (x::r) m G->(∀{m G},I r m G->QT .next m G/\QT .cont m G)->(∀{v m G},Q (.ret v) m G->QT (.ret v) m G)->BT X n sc tgt (f x) m body G QT) (z:∀m G,I [] m G->SnB X n sc sts m G Q) (hs:∀env x,foldedSetIterable e env x=pure x:=by intro _ _;rfl):SnB X n sc (.For tgt e body [] pos::sts) m G Q:=
 .forN h e1 (λxs m G=>∃r,xs=r.map f/\I r m G) ⟨as,rfl,h0⟩ (λv xs m G q=>by
  obtain⟨r,e,hI⟩:=q
  obtain⟨x,r,rfl,rfl,rfl⟩:=zr e
  exact t x r m G _ hI (λh=>⟨.next ⟨r,rfl,h⟩,.cont ⟨r,rfl,h⟩⟩) λq=>.ret (.ret q)) (λm G q=>by
  obtain⟨r,e,hI⟩:=q
  obtain rfl:=wO e
  exact z m G hI) (λxs m G q=>by
  obtain⟨r,e,hI⟩:=q
  exact gd r m G hI) hs
theorem SnB.forM {α:Type}{Q:QS}{e tgt:Expr}{body sts:List Stmt}{pos:Pos}{a:Addr}{as:List α}(f:α->Val)(h:Rd X n sc e m G (.ref a))(e1:G a=some (.list (as.map f)))(I:List α->M->Gh->Prop)(h0:I as m G)(gd:∀r m G',I r m G'->G' a=some (.list (as.map f)))
  (t:∀x r m G (QT:QS),I (x::r) m G->(∀{m G},I r m G->QT .next m G)->(∀{v m G},Q (.ret v) m G->QT (.ret v) m G)->BT X n sc tgt (f x) m body G QT) (z:∀m G,I [] m G->SnB X n sc sts m G Q) (hs:∀env x,foldedSetIterable e env x=pure x:=by intro _ _;rfl):SnB X n sc (.For tgt e body [] pos::sts) m G Q:=
 .forC f h e1 I h0 gd (λx r m G QT hI k=>t x r m G QT hI λh=>(k h).1) z hs
theorem Yl.mapM {α:Type}{f:α->Val}{Q:QS}{tgt:Expr}{body sts:List Stmt}{v:Val}{G':Gh}{a:Addr}{as:List α}(e1:G' a=some (.list (as.map f)))(e:v=.ref a)(I:List α->M->Gh->Prop)(h0:I as m G')(gd:∀r m G',I r m G'->G' a=some (.list (as.map f)))
  (t:∀x r m G (QT:QS),I (x::r) m G->(∀{m G},I r m G->QT .next m G)->(∀{v m G},Q (.ret v) m G->QT (.ret v) m G)->BT X n sc tgt (f x) m body G QT) (z:∀m G,I [] m G->SnB X n sc sts m G Q):Yl X n sc tgt body sts m Q v G':=
 ⟨a,as.map f,λxs m G=>∃r,xs=r.map f/\I r m G,e,e1,⟨λv xs m G q=>by
  obtain⟨r,e,hI⟩:=q
  have g:=gd _ _ _ hI
  obtain⟨x,r,rfl,rfl,rfl⟩:=zr e
  exact⟨g,t x r m G _ hI (λh=>.next ⟨r,rfl,h⟩) λq=>.ret (.ret q)⟩,λm G q=>by
  obtain⟨r,e,hI⟩:=q
  obtain rfl:=wO e
  exact⟨gd _ _ _ hI,.next (z m G hI)⟩⟩,⟨as,rfl,h0⟩⟩
theorem Yb.mapM {α β:Type}{tgt elt:Expr}{ifs:List Expr}{m0:M}{gd:Gh->Prop}{Q:QE}(f:α->Val)(g:β->Val)(I:List α->List β->Gh->Prop)
  (turn:∀x r acc G (P1:Val->Gh->Prop) (P2:Gh->Prop),I (x::r) acc G->(∀{b G'},I r (acc++[b]) G'->P1 (g b) G')->(∀{G'},I r acc G'->P2 G')->gd G/\∃m',Bnd X true sc tgt (f x) m0 m'/\SnC X n sc ifs m' G λt G1=>Two (Sn X n sc elt m' G1 P1) (P2 G1) t)
  (stop:∀acc G,I [] acc G->gd G/\newList (acc.map g) G Q):Yb X n sc tgt elt ifs m0 gd Q (λxs acc G=>∃r ks,xs=r.map f/\acc=ks.map g/\I r ks G):=
 ⟨λv xs acc G q=>by
  obtain⟨r,ks,e1,rfl,hI⟩:=q
  obtain⟨x,r,rfl,rfl,rfl⟩:=zr e1
  exact turn x r ks G _ _ hI (λ{b G'} h=>⟨r,ks++[b],rfl,by rw[List.map_append];rfl,h⟩) λh=>⟨r,ks,rfl,rfl,h⟩,λacc G q=>by
  obtain⟨r,ks,e1,rfl,hI⟩:=q
  obtain rfl:=wO e1
  exact stop ks G hI⟩
theorem SnB.forSt {Q:QS}{e tgt:Expr}{body sts:List Stmt}{pos:Pos}{a:Addr}{as:List Addr}{ps:List PS}{G0:Gh}(h:Rd X n sc e m G (.ref a))(e1:G a=some (.list (as.map .ref)))(hs:Zb G0 as ps)(I:List PS->M->Gh->Prop)(h0:I ps m G)(gd:∀r m G',I r m G'->G' a=some (.list (as.map .ref)))
  (t:∀x p r m G (QT:QS),Zh G0 x p->I (p::r) m G->(∀{m G},I r m G->QT .next m G)->(∀{v m G},Q (.ret v) m G->QT (.ret v) m G)->BT X n sc tgt (.ref x) m body G QT) (z:∀m G,I [] m G->SnB X n sc sts m G Q) (hfs:∀env x,foldedSetIterable e env x=pure x:=by intro _ _;rfl):SnB X n sc (.For tgt e body [] pos::sts) m G Q:=
 .forM .ref h e1 (λas m G=>∃ps,Zb G0 as ps/\I ps m G) ⟨ps,hs,h0⟩ (λr m G' q=>q.elim λ_ q=>gd _ _ _ q.2) (λx r m G QT q k1 k2=>q.elim λps q=>(Zb.uc (C:=λps=>I ps m G->_) q.1 λp ps' s1 s2 hI=>t x p ps' m G QT s1 hI (λh=>k1 ⟨ps',s2,h⟩) k2) q.2) (λm G q=>q.elim λps q=>z m G (q.1.un▸q.2)) hfs
theorem Yb.stM {β:Type}{tgt elt:Expr}{ifs:List Expr}{m0:M}{gd:Gh->Prop}{Q:QE}(G0:Gh)(g:β->Val)(I:List PS->List β->Gh->Prop)
  (turn:∀x p r acc G (P1:Val->Gh->Prop) (P2:Gh->Prop),Zh G0 x p->I (p::r) acc G->(∀{b G'},I r (acc++[b]) G'->P1 (g b) G')->(∀{G'},I r acc G'->P2 G')->gd G/\∃m',Bnd X true sc tgt (.ref x) m0 m'/\SnC X n sc ifs m' G λt G1=>Two (Sn X n sc elt m' G1 P1) (P2 G1) t)
  (stop:∀acc G,I [] acc G->gd G/\newList (acc.map g) G Q):Yb X n sc tgt elt ifs m0 gd Q (λxs acc G=>∃as ks,xs=as.map .ref/\acc=ks.map g/\∃ps,Zb G0 as ps/\I ps ks G):=
 .mapM .ref g (λas ks G=>∃ps,Zb G0 as ps/\I ps ks G) (λx r acc G P1 P2 q k1 k2=>q.elim λps q=>(Zb.uc (C:=λps=>I ps acc G->_) q.1 λp ps' s1 s2 hI=>turn x p ps' acc G P1 P2 s1 hI (λh=>k1 ⟨ps',s2,h⟩) λh=>k2 ⟨ps',s2,h⟩) q.2) λacc G q=>q.elim λps q=>stop acc G (q.1.un▸q.2)
theorem zFP {a b:Nat}:decide ((a:Int)<(b:Int))=Nat.blt a b:=by
 rw[Bool.eq_iff_iff,decide_eq_true_iff,Int.ofNat_lt,Nat.blt_eq]
structure PB where
 steps:List PS
 fin:PS
 ways:List Int
inductive Zd (G:Gh):Int->List Addr->List PB->Prop where
 | nil {n:Int}:Zd G n [] []
 | cons {n:Int} {b eo:Addr} {sts bs:List Addr} {B:PB} {Bs:List PB}:Zo G b n sts eo->Zb G sts B.steps->Zh G eo B.fin->Zv G B.fin B.ways->Zd G (n+1) bs Bs->Zd G n (b::bs) (B::Bs)
theorem Zd.ext {G':Gh}(x:Ext G G'){n:Int}{bs:List Addr}{Bs:List PB}(h:Zd G n bs Bs):Zd G' n bs Bs:=by
 induction h with
 | nil=>exact .nil
 | cons a b c d _ ih=>exact .cons (a.ext x) (b.ext x) (c.ext x) (d.ext x) ih
theorem Zd.length {n:Int}{bs:List Addr}{Bs:List PB}(h:Zd G n bs Bs):bs.length=Bs.length:=by
 induction h with
 | nil=>rfl
 | cons _ _ _ _ _ ih=>exact congrArg (· + 1) ih
inductive Ym (G:Gh)(b:Addr)(i:Int)(B:PB):Prop where
 | mk (sts:List Addr) (eo:Addr) (h1:Zo G b i sts eo) (h2:Zb G sts B.steps) (h3:Zh G eo B.fin) (h4:Zv G B.fin B.ways)
theorem Zd.get {n:Int}{bs:List Addr}{Bs:List PB}(h:Zd G n bs Bs):∀{j:Nat} {B:PB},Bs[j]?=some B->∃b,bs[j]?=some b/\Ym G b (n+j) B:=by
 induction h with
 | nil=>intro j B e;cases e
 | @cons n _ _ _ _ _ _ a b c d _ ih=>
  intro j B e
  cases j with
  | zero=>cases e;exact⟨_,rfl,⟨_,_,(Int.add_zero n).symm▸a,b,c,d⟩⟩
  | succ j=>
   obtain⟨x,h1,h2⟩:=ih (j:=j) e
   exact⟨x,h1,by rw[show n+((j+1:Nat):Int)=n+1+(j:Int) from by rw[Int.add_assoc,Int.add_comm 1];rfl];exact h2⟩
structure BOK (N:Nat)(B:PB):Prop where
 len:B.steps.length<=900
 wf:∀p∈B.steps,Zn p
 ends : OpOK B.fin.args
 ways:B.ways.length<=4
 goals:∀j∈B.ways,0<=j/\j.toNat<N
structure FnOK (Bs:List PB):Prop where
 one:0<Bs.length
 few:Bs.length<=16
 blks:∀B∈Bs,BOK Bs.length B
inductive LsAt (G0 G:Gh):List Addr->List (List Int)->Prop where
 | nil:LsAt G0 G [] []
 | cons {a:Addr} {l:List Int} {as:List Addr} {L:List (List Int)}:a∉as->G0 a=none->G a=some (.list (l.map .int))->LsAt G0 G as L->LsAt G0 G (a::as) (l::L)
section
variable {G0 G':Gh}{as:List Addr}{L:List (List Int)}
theorem LsAt.ext (h:LsAt G0 G as L)(x:Ext G G'):LsAt G0 G' as L:=by
 induction h with
 | nil=>exact .nil
 | cons a b c _ ih=>exact .cons a b (x _ _ c) ih
theorem LsAt.off {z:Addr}(h:LsAt G0 G as L)(x:Ext1 z G G'):z∉as->LsAt G0 G' as L:=by
 induction h with
 | nil=>exact λ_=>.nil
 | cons a b c _ ih=>exact λhz=>.cons a b (x _ _ (λq=>hz (q▸.head _)) c) (ih λq=>hz (.tail _ q))
theorem LsAt.length (h:LsAt G0 G as L):as.length=L.length:=by
 induction h with
 | nil=>rfl
 | cons _ _ _ _ ih=>exact congrArg (· + 1) ih
theorem LsAt.get (h:LsAt G0 G as L):∀{j:Nat} {l:List Int},L[j]?=some l->∃a,as[j]?=some a/\G a=some (.list (l.map .int))/\a∈as:=by
 induction h with
 | nil=>intro j l e;cases e
 | cons a b c _ ih=>
  intro j l e
  cases j with
  | zero=>cases e;exact⟨_,rfl,c,.head _⟩
  | succ j=>
   obtain⟨x,h1,h2,h3⟩:=ih (j:=j) e
   exact⟨x,h1,h2,.tail _ h3⟩
theorem LsAt.set {a:Addr}{l:List Int}(h:LsAt G0 G as L):∀{j:Nat},as[j]?=some a->LsAt G0 (G.upd a (.list (l.map .int))) as (L.set j l):=by
 induction h with
 | nil=>intro j e;cases e
 | cons n b c r ih=>
  intro j e
  cases j with
  | zero=>cases e;exact .cons n b (Gh.upd_same ..) (r.off .upd n)
  | succ j=>
   have e':=List.mem_of_getElem? (show _=some a from e)
   exact .cons n b ((Gh.upd_ne _ _ λq=>n (by rw[q];exact List.mem_of_getElem? (i:=j) e)).trans c) (ih (j:=j) e)
theorem LsAt.mem (h:LsAt G0 G as L){a:Addr}(m:a∈as):(G a).isSome=true/\G0 a=none:=by
 induction h with
 | nil=>cases m
 | cons n b c _ ih=>
  rcases List.mem_cons.mp m with q | q
  ·rw[q,c];exact⟨rfl,b⟩
  ·exact ih q
theorem LsAt.new {a:Addr}(h:LsAt G0 G as L)(e:G a=none):a∉as:=λq=>by have:=(h.mem q).1;rw[e] at this;cases this
theorem LsAt.snoc {c:Addr}{l:List Int}(h:LsAt G0 G as L)(h0:G0 c=none)(hc:G c=some (.list (l.map .int))):c∉as->LsAt G0 G (as++[c]) (L++[l]):=by
 induction h with
 | nil=>exact λ_=>.cons (by intro q;cases q) h0 hc .nil
 | cons n a b _ ih=>exact λhn=>.cons (λq=>by
   rcases List.mem_append.mp q with q | q
   ·exact n q
   ·rw[List.mem_singleton] at q;exact hn (q▸.head _)) a b (ih λq=>hn (.tail _ q))
end
theorem zGq (k:Nat)(i:Int):RD G k (.int i) (.int i):=.int i
theorem zGc (i:Int)(ns:List Int):((ns.map PyData.int).any λe=>e.eqv (.int i))=ns.any (· == i):=by rw[List.any_map];rfl
theorem Op2.notinL {a:Addr}{ns:List Int}{i:Int}(h:G a=some (.list (ns.map .int))):O2 X n (compareOp .NotIn) (.int i) (.ref a) G (.bool (!ns.any (· == i))):=
 zGc i ns▸Op2.notinD (zGq _ _) (.inr (.list' h (.map _ _ _ λx _=>zGq _ x))) ⟨rfl,rfl⟩
noncomputable def zt (i:Int)(L:List (List Int))(j:Int):List (List Int):=if (L.getD j.toNat []).any (· == i) then L else L.set j.toNat (L.getD j.toNat []++[i])
noncomputable def jM (i:Int):List PB->List (List Int)->List (List Int)
 | [],L=>L
 | B::Bs,L=>jM (i+1) Bs (B.ways.foldl (zt i) L)
noncomputable def zo (Bs:List PB):List (List Int):=jM 0 Bs (Bs.map λ_=>[])
theorem zAa {i j:Int}{L:List (List Int)}{k K:Nat}(hj:L[j.toNat]?=some (L.getD j.toNat []))(h:∀l∈L,l.length+k<K):∀l∈zt i L j,l.length+k<=K:=by
 intro l hl
 unfold zt at hl
 split at hl
 ·exact Nat.le_of_lt (h l hl)
 ·rcases List.mem_or_eq_of_mem_set hl with q | q
  ·exact Nat.le_of_lt (h l q)
  ·rw[q,List.length_append,List.length_singleton,Nat.add_right_comm]
   exact h _ (List.mem_of_getElem? hj)
theorem zJj {a b w:Nat}(h:a+4 * (b+1)<=100)(hw:w<=4):a+w<=100 - 4 * b:=Nat.le_sub_of_add_le (Nat.le_trans (show a+w+4 * b<=a+(4 * b+4) by rw[Nat.add_assoc,Nat.add_comm w];exact Nat.add_le_add_left (Nat.add_le_add_left hw _) _) h)
theorem zIi {a b:Nat}(h:a<=100 - 4 * b)(hb:b<=16):a+4 * b<=100:=Nat.add_le_of_le_sub (Nat.le_trans (Nat.mul_le_mul_left 4 hb) (by decide)) h
theorem zIh {b:Nat}(h:b<=16):([]:List Int).length+4 * b<=100:=Nat.le_trans (Nat.le_of_eq (Nat.zero_add _)) (Nat.le_trans (Nat.mul_le_mul_left 4 h) (by decide))
theorem zIg {a b c:Nat}(h:a+b<100 - c):a<cap:=Nat.lt_of_le_of_lt (Nat.le_add_right a b) (Nat.lt_of_lt_of_le h (Nat.le_trans (Nat.sub_le ..) (by decide)))
theorem up4 {m:Int}(h:0<=m/\m<4):0<=1+m/\1+m<5:=⟨Int.add_nonneg (by decide) h.1,by rw[Int.add_comm];exact Int.add_lt_add_right h.2 1⟩
theorem zJ8 {i:Int}(h:0<=i/\i<3):i=0\/i=1\/i=2:=by lia
theorem zHH {i:Int}(h:0<=i/\i<2):i=0\/i=1:=by lia
theorem zDM {i:Int}{k:Nat}(h0:0<=i)(h:i<k):i.toNat<k:=(Int.toNat_lt h0).mpr h
theorem lt3:∀i<3,i=0\/i=1\/i=2:=by decide
theorem noB {C:Prop}(e:false=true):C:=absurd e Bool.false_ne_true
theorem noN {C:Prop}{a b:Nat}(e:a=b)(h:Nat.beq a b=false):C:=absurd e (Nat.ne_of_beq_eq_false h)
theorem zB4 {α:Type}{L:List (List α)}{i:Nat}(h:i<L.length):L[i]?=some (L.getD i []):=by rw[List.getD_eq_getElem?_getD,List.getElem?_eq_getElem h];rfl
theorem zIb {a b k:Nat}(h:a+(b+1)<=k):a+b<=k:=Nat.le_of_succ_le h
theorem zHS {a b k:Nat}(h:a+(b+1)<=k):a+1+b<=k:=by rw[Nat.add_right_comm];exact h
theorem uq {a b c k:Nat}(h:a<=b+1)(q:b+(c+1)<=k):a+c<=k:=Nat.le_trans (Nat.add_le_add_right h c) (by rw[Nat.add_assoc,Nat.add_comm 1 c];exact q)
noncomputable abbrev prL (f pr:Addr)(b i:Option Val):M:=L ud [some (.ref f),b,some (.ref pr),i,none]
noncomputable def Pr1 (G0:Gh)(f pr b la:Addr)(las:List Addr)(i:Int)(rs:List Val)(K:Nat)(goal:List (List Int))(js:List Int)(m:M)(G':Gh):Prop:=
 ∀C:M->Prop,(∀(x:Option Val) (L:List (List Int)),LsAt G0 G' las L->G' pr=some (.list (las.map .ref))->G' la=some (.list rs)->Ext G0 G'->(∀j∈js,0<=j/\j.toNat<las.length)->(∀l∈L,l.length+js.length<=K)->js.foldl (zt i) L=goal->C (prL f pr (some (.ref b)) x))->C m
theorem Pr1.mk {G0 G':Gh}{f pr b la:Addr}{las:List Addr}{i:Int}{rs:List Val}{K:Nat}{goal:List (List Int)}{js:List Int}{x:Option Val}{L:List (List Int)}(hL:LsAt G0 G' las L)(hp:G' pr=some (.list (las.map .ref)))(hl:G' la=some (.list rs))(x0:Ext G0 G')(hj:∀j∈js,0<=j/\j.toNat<las.length)(hc:∀l∈L,l.length+js.length<=K)(hg:js.foldl (zt i) L=goal):Pr1 G0 f pr b la las i rs K goal js (prL f pr (some (.ref b)) x) G':=λ_ k=>k x L hL hp hl x0 hj hc hg
noncomputable def Pr2 (G0:Gh)(f pr:Addr)(las:List Addr)(N:Nat)(goal:List (List Int))(bs:List Addr)(m:M)(G':Gh):Prop:=
 ∀C:M->Prop,(∀(x y:Option Val) (i:Int) (Bs:List PB) (L:List (List Int)),Zd G0 i bs Bs->(∀B∈Bs,BOK N B)->Bs.length<=16->LsAt G0 G' las L->G' pr=some (.list (las.map .ref))->Ext G0 G'->(∀l∈L,l.length+4 * Bs.length<=100)->jM i Bs L=goal->C (prL f pr x y))->C m
theorem Pr2.mk {G0 G':Gh}{f pr:Addr}{las:List Addr}{N:Nat}{goal:List (List Int)}{x y:Option Val}{i:Int}{bs:List Addr}{Bs:List PB}{L:List (List Int)}(hB:Zd G0 i bs Bs)(hw:∀B∈Bs,BOK N B)(hs:Bs.length<=16)(hL:LsAt G0 G' las L)(hp:G' pr=some (.list (las.map .ref)))(x0:Ext G0 G')(hc:∀l∈L,l.length+4 * Bs.length<=100)(hg:jM i Bs L=goal):Pr2 G0 f pr las N goal bs (prL f pr x y) G':=λ_ k=>k x y i Bs L hB hw hs hL hp x0 hc hg
structure Pr3 (G0:Gh)(N:Nat)(r ks:List Addr)(G':Gh):Prop where
 h:LsAt G0 G' ks (List.replicate ks.length [])
 x:Ext G0 G'
 e:ks.length+r.length=N
theorem Zd.uc {i:Int}{b:Addr}{bs:List Addr}{Bs:List PB}{C:List PB->Prop}(h:Zd G i (b::bs) Bs)(k:∀eo sts B Bs',Zo G b i sts eo->Zb G sts B.steps->Zh G eo B.fin->Zv G B.fin B.ways->Zd G (i+1) bs Bs'->C (B::Bs')):C Bs:=by
 cases h with | cons a b c d e=>exact k _ _ _ _ a b c d e
theorem Zd.un {i:Int}{Bs:List PB}(h:Zd G i [] Bs):Bs=[]:=by cases h;rfl
theorem zHd {α:Type}(l:List α):(l.map λ_=>([]:List Int))=List.replicate l.length []:=List.map_const' ..
theorem zFh {f:Addr}{pa:List Int}{sl:Zg}{bls:List Addr}{Bs:List PB}{Q:QE}(T:Tops X)(hf:Zk G f pa sl bls)(hB:Zd G 0 bls Bs)(ok:FnOK Bs)
  (kk:∀r las G',Ext G G'->LsAt G G' las (zo Bs)->G' r=some (.list (las.map .ref))->r∉las->G r=none->Q (.ref r) G'):Cal X (n+2) uS [.ref f] G Q:=by
 obtain⟨ff,p,s,b,h1,⟨g1,g2,g3⟩,h2,h3,h4⟩:=id hf
 have hlen:=hB.length
 have hfew:=ok.few
 refine' Cal.start (os:=?os) T.d_preds ?q ?b;case q=>walk_at"r"
 case b=>
 refine .cons (SnS.assignComp (by decide +kernel) (.seq (Rd.to (v:=.ref b) (by walk_at"r") ⟨_,_,.list h4,by rw[List.length_map,hlen];exact Nat.lt_of_le_of_lt hfew (by decide),_,.cap (sc':=zBy) [none,none] (.mapM .ref .ref (Pr3 G Bs.length) (λb' bs las G' P1 P2 hI k1 _=>?_) (λlas G' hI=>?_)) (capn (capn (cap0))),⟨bls,[],rfl,rfl,.nil,.refl,(Nat.zero_add _).trans hlen⟩⟩)))
 ·refine⟨hI.x _ _ h4,_,Upd.bnd (os:=[none,none]) (os':=[none,some (.ref b')]) (by walk_at"r"),.nil ⟨λ_=>Sn.listR .nil λc hc=>k1 ?_,λq=>nomatch q⟩⟩
  have y:=Ext.new (o:=.list []) hc
  exact⟨by rw[List.length_append,List.length_singleton,List.replicate_succ'];exact(hI.h.ext y).snoc (hI.x.none hc) (Gh.upd_same ..) (hI.h.new hc),hI.x.trans y,by rw[List.length_append,List.length_singleton,Nat.add_assoc,Nat.add_comm 1];exact hI.e⟩
 ·refine⟨hI.x _ _ h4,λpr hpr=>⟨_,Upd.put (os':=[some (.ref f),none,some (.ref pr),none,none]) (by walk_at"r"),.next ?_⟩⟩
  have y:=Ext.new (o:=.list (las.map .ref)) hpr
  have hp:=Gh.upd_same G' pr (.list (las.map .ref))
  have hpl:=hI.h.new hpr
  have hll:las.length=Bs.length:=hI.e
  have hL':=hll▸hI.h.ext y
  have h0:G pr=none:=hI.x.none hpr
  have x1:=hI.x.trans y
  generalize G'.upd pr (.list (las.map .ref))=G1 at *
  have hlf:las.length<=cap:=by rw[hll];exact Nat.le_trans hfew (by decide)
  have h1':=x1 _ _ h1
  clear y hI hpr
  refine SnB.forM .ref (by walk_at"r") (x1 _ _ h4) (Pr2 G f pr las Bs.length (zo Bs)) (.mk hB ok.blks hfew hL' hp x1 (λl hl=>by rw[List.eq_of_mem_replicate hl];exact zIh hfew) (by rw[<-zHd];rfl)) (λbs m G' hI=>hI (λ_=>_) λx y i Bs L _ _ _ _ _ x _ _=>x _ _ h4) (λb' bs m G2 QT hI hN hR=>?_) λm G2 hI=>?_
  ·apply hI
   intro x y i Bs0 L hB hw hs hL2 hp x2 hc hg
   revert hw hs hc hg
   apply hB.uc
   intro eo sts B Bs' ha _ he hj hB hw hs hc hg
   have hwB:=hw B (.head _)
   refine⟨_,.name (Upd.put (os':=[some (.ref f),some (.ref b'),some (.ref pr),y,none]) (by walk_at"r")),SnB.forQ (Sn.ref T.f_followers (by walk_at"r") (λ_ _=>rfl) (vs:=[.ref b']) (by walk_at"r") (yQ T (ha.ext x2) (he.ext x2) (hj.ext x2) λla G3 hla x3 h5=>?_))⟩
   have hln:=hL2.new hla
   refine .mapM (f:=.int) h5 rfl (Pr1 G f pr b' la las i (B.ways.map .int) (100 - 4 * Bs'.length) (B.ways.foldl (zt i) L)) (.mk (hL2.ext x3) (x3 _ _ hp) h5 (x2.trans x3) (by rw[hll];exact hwB.goals) (λl hl=>zJj (hc l hl) hwB.ways) rfl) (λbs m G' hI=>hI (λ_=>_) λ_ _ _ _ e _ _ _ _=>e) (λj js m G4 QU hI hM hS=>?_) λm G4 hI=>?_
   ·apply hI
    intro x L' hL4 hp4 hl4 x4 hj4 hc4 hg4
    obtain⟨j0,j1⟩:=hj4 j (.head _)
    have hj4:=λk hk=>hj4 k (.tail _ hk)
    have gd:=zB4 (L:=L') (hL4.length▸j1)
    obtain⟨a,a1,a2,a3⟩:=hL4.get gd
    have hsq:wW (las.map Val.ref) j=some (.ref a):=by unfold wW;rw[if_pos j0,List.getElem?_map,a1];rfl
    have hjc:j.natAbs<cap:=zp j0 (Nat.lt_of_lt_of_le j1 hlf)
    obtain⟨fb,st,b1,⟨b2,b3,b4⟩,b5⟩:=(ha.ext x4)
    have hcc:=zAa (i:=i) gd hc4
    refine⟨_,.name (Upd.put (os':=[some (.ref f),some (.ref b'),some (.ref pr),some (.int j),none]) (by walk_at"r")),SnB.ifs (r:=!(L'.getD j.toNat []).any (· == i)) (.cmp (by walk_at"r") (.idxL (by walk_at"r") hp4 (by walk_at"r") hjc hsq) (.notinL a2)) (λe=>?_) λe=>.nil (.next (.nil (hM (.mk hL4 hp4 hl4 x4 hj4 ?_ ?_))))⟩
    ·refine SnB.expr (Sn.meth .append (λ_ _=>rfl) (Rd.to (v:=.ref a) (.idxL (by walk_at"r") hp4 (by walk_at"r") hjc hsq) ⟨.list a2,Rds.to (vs:=[.int i]) (by walk_at"r") (Meth.append a2 (by rw[List.length_map];exact zIg (hc4 _ (List.mem_of_getElem? gd))) (.nil (.next (.nil (hM ?_)))))⟩))
     have eu:zt i L' j=L'.set j.toNat (L'.getD j.toNat []++[i]):=if_neg (by rw[Bool.not_eq_true'] at e;rw[e];decide)
     have hnew:=hL4.mem a3
     exact .mk (L:=zt i L' j) (by rw[eu,show (L'.getD j.toNat []).map Val.int++[Val.int i]=(L'.getD j.toNat []++[i]).map .int by rw[List.map_append];rfl];exact hL4.set a1) ((Gh.upd_ne _ _ λq=>hpl (by rw[q];exact a3)).trans hp4) ((Gh.upd_ne _ _ λq=>hln (by rw[q];exact a3)).trans hl4) (λz o e=>(Gh.upd_ne _ _ λq=>by rw[q,hnew.2] at e;cases e).trans (x4 _ _ e)) hj4 hcc hg4
    ·rw[show zt i L' j=L' from if_pos (by rw[Bool.not_eq_false'] at e;exact e)] at hcc;exact hcc
    ·rw[List.foldl_cons,show zt i L' j=L' from if_pos (by rw[Bool.not_eq_false'] at e;exact e)] at hg4;exact hg4
   ·apply hI
    intro x L' hL4 hp4 hl4 x4 _ hc4 hg4
    cases hg4
    exact .nil (hN (.mk hB (λB h=>hw B (.tail _ h)) (Nat.le_of_succ_le hs) hL4 hp4 x4 (λl hl=>zIi (hc4 l hl) (Nat.le_of_succ_le hs)) hg))
  ·apply hI
   intro x y i Bs0 L hB _ _ hL2 hp x2 _ hg
   cases hB.un
   cases hg
   exact SnB.retB (Rd.to (v:=.ref pr) (by walk_at"r") (kk pr las G2 x2 hL2 hp hpl h0))
end
noncomputable section
variable {X:Cx}{n:Nat}{G:Gh}{sc:Scope}{os:List (Option Val)}{m:M}
noncomputable abbrev NewL (vs:List Val)(G:Gh)(Q:QE):Prop:=∀c G',G c=none->Ext G G'->G' c=some (.list vs)->Q (.ref c) G'
theorem NewL.nl {vs:List Val}{Q:QE}(h:NewL vs G Q):newList vs G Q:=λc hc=>h c _ hc (.new hc) (Gh.upd_same ..)
theorem Sn.listN {es:List Expr}{vs:List Val}{Q:QE}{pos:Pos}(h:Rds X n sc es m G vs)(q:NewL vs G Q)(hl:Nat.ble vs.length 1000=true:=by rfl):Sn X n sc (.List es pos) m G Q:=Sn.listR h q.nl hl
theorem Sn.listE {es:List Expr}{Q:QE}{pos:Pos}(h:SnEs X n sc es m G λvs G'=>Nat.ble vs.length 1000=true/\NewL vs G' Q):Sn X n sc (.List es pos) m G Q:=Sn.list ⟨λhy=>h.use hy λys s₁ vs G1 hv hy1 f1 h1=>.mk vs G1 hv hy1.hr f1 ⟨zEg h1.1,h1.2.nl⟩⟩
theorem Sn.set1N {Q:QE}{i:Int}{k:Nat}{p pos:Pos}(hi:0<=i/\i<32)(h:∀a G',G a=none->Ext G G'->Zf G' a (setb 0 i)->Q (.ref a) G'):Sn X n sc (.Set [.Constant (.int i) k p] 0 pos) m G Q:=
 Sn.set1 hi λa ha=>h a _ ha (.new ha) ⟨false,by
  rw[Gh.upd_same]
  have:=jO (m:=0) hi.1
  rw[<-uO] at this
  simp only [Bool.false_or] at this
  rw[this]⟩
theorem Meth.appN {a:Addr}{xs:List Val}{v:Val}{Q:QE}(e:G a=some (.list xs))(hc:xs.length<=2000)(q:∀G',Ext1 a G G'->G' a=some (.list (xs++[v]))->Q .none G'):Blt X n (.builtin "list.append") [.ref a,v] G Q:=
 Meth.append e (by unfold cap;omega) (q _ .upd (Gh.upd_same ..))
theorem Meth.popN {a:Addr}{xs:List Val}{v:Val}{Q:QE}(e:G a=some (.list (xs++[v])))(hc:xs.length<=2000)(q:∀G',Ext1 a G G'->G' a=some (.list xs)->Q v G'):Blt X n (.builtin "list.pop") [.ref a] G Q:=
 Meth.pop e (by unfold cap;lia) (q _ .upd (Gh.upd_same ..))
theorem Meth.addN {a:Addr}{k:Nat}{j:Int}{Q:QE}(e:Zf G a k)(hj:0<=j/\j<32)(q:∀G',Ext1 a G G'->Zf G' a (setb k j)->Q .none G'):Blt X n (.builtin "set.add") [.ref a,.int j] G Q:=by
 obtain⟨f,e⟩:=e
 exact Meth.add e hj (q _ .upd ⟨false,by rw[Gh.upd_same,jO hj.1]⟩)
theorem Zf.has {a:Addr}{k:Nat}(h:Zf G a k):HasT G (.ref a) "set":=by obtain⟨f,e⟩:=h;exact .set e
theorem Zf.ext {G':Gh}{a:Addr}{k:Nat}(h:Zf G a k)(x:Ext G G'):Zf G' a k:=by obtain⟨f,e⟩:=h;exact⟨f,x _ _ e⟩
theorem Zf.off {G':Gh}{a z:Addr}{k:Nat}(h:Zf G a k)(x:Ext1 z G G')(ne:a≠z):Zf G' a k:=by obtain⟨f,e⟩:=h;exact⟨f,x _ _ ne e⟩
theorem Zf.offL {G':Gh}{a z:Addr}{k:Nat}{xs:List Val}(h:Zf G a k)(x:Ext1 z G G')(e:G z=some (.list xs)):Zf G' a k:=h.off x λq=>by obtain⟨f,h⟩:=h;rw[q,e] at h;cases h
theorem ne_new {a c:Addr}{o:GObj}(e:G a=some o)(h:G c=none):a≠c:=λq=>by rw[q,h] at e;cases e
theorem Zf.ne_new {a c:Addr}{k:Nat}(e:Zf G a k)(h:G c=none):a≠c:=by obtain⟨f,e⟩:=e;exact Mine.Internal.ne_new e h
theorem Zf.neL {a c:Addr}{k:Nat}{xs:List Val}(e:Zf G a k)(h:G c=some (.list xs)):c≠a:=λq=>by obtain⟨f,e⟩:=e;rw[<-q,h] at e;cases e
theorem Ext.fresh {G0 G':Gh}{z:Addr}(x:Ext G0 G)(h:G0 z=Option.none)(y:Ext1 z G G'):Ext G0 G':=λw o e=>y w o (λq=>by rw[q,h] at e;cases e) (x w o e)
theorem Op2.notinM {a:Addr}{k:Nat}{j:Int}(e:Zf G a k):O2 X n (compareOp .NotIn) (.int j) (.ref a) G (.bool (!zF k j)):=by obtain⟨f,e⟩:=e;exact .notinSet e ⟨rfl,rfl⟩
theorem SnB.augIdxN {Q:QS}{o i e:Expr}{p pos:Pos}{sts:List Stmt}{a:Addr}{xs:List Val}{k j d:Int}(h1:Rd X n sc o m G (.ref a))(h2:Rd X n sc i m G (.int k))(e1:G a=some (.list xs))(hk:0<=k/\k<2000)(hj:xs[k.toNat]?=some (.int j))(h3:Rd X n sc e m G (.int d))
  (q:∀G',Ext1 a G G'->G' a=some (.list (xs.set k.toNat (.int (j+d))))->SnB X n sc sts m G' Q) (ha:∀ov iv new,augStore i ov iv new=(do holding [new,ov,iv] (setItem ov iv new);release [new,ov,iv] [];pure .next):=by intro _ _ _;rfl):SnB X n sc (.AugAssign (.Subscript o i p) .Add e pos::sts) m G Q:=
 .cons (.augIdx (h1.to (h2.to ⟨a,xs,k,j,rfl,rfl,e1,⟨hk.1,by have:=hk.2;unfold cap;omega⟩,hj,h3.to ⟨d,rfl,e1,.next (q _ .upd (Gh.upd_same ..))⟩⟩)) ha)
structure Fr where
 num:Int
 fols:List Int
 idx:Nat
theorem zB {α:Type}{P:α->Prop}{a:α}{l:List α}(h:P a)(k:∀z∈l,P z):∀z∈a::l,P z:=λz q=>by
 rcases List.mem_cons.mp q with q | q
 ·exact q▸h
 ·exact k z q
theorem zD {α:Type}{P:α->Prop}:∀z∈([]:List α),P z:=λz q=>nomatch q
theorem zH {α:Type}{P:α->Prop}{a:α}{l:List α}(h:∀z∈a::l,P z):∀z∈l,P z:=λz q=>h z (.tail _ q)
theorem zQ {α:Type}{x a:α}{l:List α}(h:x≠a)(k:x∉l):x∉a::l:=λq=>(List.mem_cons.mp q).elim h k
theorem zE6 {α:Type}{x a:α}{l:List α}(h:x∉a::l):x≠a:=λq=>h (q▸.head _)
theorem vE {α:Type}{x a:α}{l:List α}(h:x∉a::l):x∉l:=λq=>h (.tail _ q)
theorem yh {α:Type}{x:α}:x∉([]:List α):=λq=>nomatch q
theorem yv {α:Type}{a:α}{l:List α}(h:a∉l)(k:l.Nodup):(a::l).Nodup:=List.nodup_cons.mpr ⟨h,k⟩
inductive Zt (G:Gh):List (Addr×Addr)->List Fr->Prop where
 | nil:Zt G [] []
 | cons {a l:Addr} {r:Fr} {as:List (Addr×Addr)} {rs:List Fr}:G a=some (.list [.int r.num,.ref l,.int r.idx])->G l=some (.list (r.fols.map .int))->Zt G as rs->Zt G ((a,l)::as) (r::rs)
noncomputable def vk (l:List (Addr×Addr)):List Addr:=l.flatMap λx=>[x.1,x.2]
theorem zDb (x:Addr×Addr)(l:List (Addr×Addr)):vk (x::l)=x.1::x.2::vk l:=rfl
theorem Zt.keep {G':Gh}{as:List (Addr×Addr)}{rs:List Fr}(h:Zt G as rs):(∀a∈vk as,∀xs,G a=some (.list xs)->G' a=some (.list xs))->Zt G' as rs:=by
 induction h with
 | nil=>exact λ_=>.nil
 | cons a b _ ih=>exact λk=>.cons (k _ (.head _) _ a) (k _ (.tail _ (.head _)) _ b) (ih λa h=>k a (.tail _ (.tail _ h)))
theorem Zt.ext {G':Gh}{as:List (Addr×Addr)}{rs:List Fr}(h:Zt G as rs)(x:Ext G G'):Zt G' as rs:=h.keep λ_ _ _ e=>x _ _ e
theorem Zt.off {G':Gh}{z:Addr}{as:List (Addr×Addr)}{rs:List Fr}(h:Zt G as rs)(x:Ext1 z G G')(hz:z∉vk as):Zt G' as rs:=h.keep λa ha _ e=>x _ _ (λq=>hz (q▸ha)) e
theorem Zt.mem {as:List (Addr×Addr)}{rs:List Fr}(h:Zt G as rs):∀a∈vk as,∃xs,G a=some (.list xs):=by
 induction h with
 | nil=>intro a h;cases h
 | cons a b _ ih=>
  intro z h
  rcases List.mem_cons.mp h with q | h
  ·subst q;exact⟨_,a⟩
  ·rcases List.mem_cons.mp h with q | h
   ·subst q;exact⟨_,b⟩
   ·exact ih z h
noncomputable def folN (Bs:List PB)(j:Int):List Int:=match Bs[j.toNat]? with | some B=>B.ways | none=>[]
noncomputable def vD (Bs:List PB)(k:Nat):List Int->Nat->List Fr->Option (List Int):=
 Nat.rec (motive:=λ_=>List Int->Nat->List Fr->Option (List Int)) (λ_ _ _=>none) (λ_ go found seen stk=>match stk with
  | []=>some found
  | r::rest=>match r.fols[r.idx]? with
   | none=>go (found++[r.num]) seen rest
   | some j=>if zF seen j then go found seen (⟨r.num,r.fols,r.idx+1⟩::rest) else go found (setb seen j) (⟨j,folN Bs j,0⟩::⟨r.num,r.fols,r.idx+1⟩::rest)) k
noncomputable def zDZ (Bs:List PB):Option (List Int):=vD Bs 100 [] 1 [⟨0,folN Bs 0,0⟩]
theorem zIt {l:List Addr}{a b:Addr}(h:(a::b::l).Nodup):a≠b/\a∉l/\b∉l/\l.Nodup:=by
 obtain⟨h1,h2⟩:=List.nodup_cons.mp h
 obtain⟨h3,h4⟩:=List.nodup_cons.mp h2
 exact⟨λq=>h1 (q▸.head _),λq=>h1 (.tail _ q),h3,h4⟩
theorem zDW {α:Type}{xs:List α}{x:α}:wW (xs++[x]) (-1)=some x:=by
 unfold wW
 rw[if_neg (by decide),List.length_append]
 have e:(-1:Int)+((xs.length+[x].length:Nat):Int)=xs.length:=by rw[List.length_singleton];lia
 rw[e,if_pos (Int.natCast_nonneg _),Int.toNat_natCast,List.getElem?_append_right (Nat.le_refl _),Nat.sub_self];rfl
theorem SnB.while_ {Q:QS}{t:Expr}{body sts:List Stmt}{pos:Pos}(I:Nat->M->Gh->Prop)(k:Nat)(h0:I k m G)
  (h:∀k m G,I k m G->SnT X n sc t m G λr G'=>Two (SnB X n sc body m G' (Turn (λm G=>∃j,j<k/\I j m G) (Then X n sc sts Q))) (SnB X n sc sts m G' Q) r):SnB X n sc (.While t body [] pos::sts) m G Q:=
 .cons (.whil I k h0 λk m G i=>(h k m G i).mono λr G' q=>⟨q.1,λe=>.next (q.2 e)⟩)
theorem zA3 {α:Type}{f:α->Val}{l:List α}{i:Int}{a:α}(i0:0<=i)(h:l[i.toNat]?=some a):wW (l.map f) i=some (f a):=by have:=zV (f:=f) h;rw[Int.toNat_of_nonneg i0] at this;exact this
noncomputable abbrev poL (f fo se st:Addr)(x y:Option Val):M:=L yT [some (.ref f),some (.ref fo),some (.ref se),some (.ref st),x,y,none,none]
structure PoS (G0:Gh)(f fo se st:Addr)(Bs:List PB)(r:List Int)(k:Nat)(G:Gh)(found:List Int)(seen:Nat)(as:List (Addr×Addr))(stk:List Fr):Prop where
 ho:G fo=some (.list (found.map .int))
 hs:Zf G se seen
 ht:G st=some (.list ((as.reverse.map (·.1)).map .ref))
 hk:Zt G as stk
 n1:fo≠st
 n2:fo∉vk as
 n3:st∉vk as
 nd:(vk as).Nodup
 q1:G0 fo=none
 q2:G0 se=none
 q3:G0 st=none
 q4:∀a∈vk as,G0 a=none
 x:Ext G0 G
 js:∀r∈stk,(∀j∈r.fols,0<=j/\j.toNat<Bs.length)/\r.fols.length<=4/\r.idx<=r.fols.length
 l1:found.length+k<=1000
 l2:as.length+k<=1000
 go:vD Bs k found seen stk=some r
noncomputable def PoI (G0:Gh)(f fo se st:Addr)(Bs:List PB)(r:List Int)(k:Nat)(m:M)(G:Gh):Prop:=
 ∀C:M->Prop,(∀(x y:Option Val) (found:List Int) (seen:Nat) (as:List (Addr×Addr)) (stk:List Fr),PoS G0 f fo se st Bs r k G found seen as stk->C (poL f fo se st x y))->C m
theorem PoI.mk {G0:Gh}{f fo se st:Addr}{Bs:List PB}{r:List Int}{k:Nat}{x y:Option Val}{found:List Int}{seen:Nat}{as:List (Addr×Addr)}{stk:List Fr}(h:PoS G0 f fo se st Bs r k G found seen as stk):PoI G0 f fo se st Bs r k (poL f fo se st x y) G:=λ_ q=>q x y found seen as stk h
theorem Zt.uc {as:List (Addr×Addr)}{stk:List Fr}{C:List (Addr×Addr)->List Fr->Prop}(h:Zt G as stk)(h0:C [] [])(h1:∀a l r as rs,G a=some (.list [.int r.num,.ref l,.int r.idx])->G l=some (.list (r.fols.map .int))->Zt G as rs->C ((a,l)::as) (r::rs)):C as stk:=by
 cases h with
 | nil=>exact h0
 | cons a b c=>exact h1 _ _ _ _ _ a b c
theorem zCG {Bs:List PB}{k seen:Nat}{found:List Int}{r0:Fr}{rs:List Fr}(hi:r0.fols[r0.idx]?=none):vD Bs (k+1) found seen (r0::rs)=vD Bs k (found++[r0.num]) seen rs:=by
 show (match r0.fols[r0.idx]? with | none=>_ | some j=>_)=_;rw[hi];rfl
theorem zCF {Bs:List PB}{k seen:Nat}{found:List Int}{r0:Fr}{rs:List Fr}{j:Int}(q:r0.fols[r0.idx]?=some j):vD Bs (k+1) found seen (r0::rs)=if zF seen j then vD Bs k found seen (⟨r0.num,r0.fols,r0.idx+1⟩::rs) else vD Bs k found (setb seen j) (⟨j,folN Bs j,0⟩::⟨r0.num,r0.fols,r0.idx+1⟩::rs):=by
 show (match r0.fols[r0.idx]? with | none=>_ | some j=>_)=_;rw[q];rfl
theorem SnB.whileC {Q:QS}{t:Expr}{body sts:List Stmt}{pos:Pos}(I:Nat->M->Gh->Prop)(k:Nat)(h0:I k m G)
  (h:∀k m G (QT:QS),I k m G->(∀{j m G},j<k->I j m G->QT .next m G/\QT .cont m G)->SnT X n sc t m G λr G'=>Two (SnB X n sc body m G' QT) (SnB X n sc sts m G' Q) r):SnB X n sc (.While t body [] pos::sts) m G Q:=
 .while_ I k h0 λk m G i=>h k m G _ i λl h=>⟨.next ⟨_,l,h⟩,.cont ⟨_,l,h⟩⟩
theorem zBE {f:Addr}{pr:List Int}{sl:Zg}{bls:List Addr}{Bs:List PB}{r:List Int}{Q:QE}(T:Tops X)(hf:Zk G f pr sl bls)(hB:Zd G 0 bls Bs)(ok:FnOK Bs)(hp:zDZ Bs=some r)
  (kk:∀c G',G' c=some (.list (r.map .int))->Ext G G'->G c=none->Q (.ref c) G'):Cal X (n+2) we [.ref f] G Q:=by
 refine' Cal.start (os:=?os) T.d_postorder ?q ?b;case q=>walk_at"r"
 case b=>
 refine SnB.assignQ (Sn.listN .nil λfo G1 hfo x1 o1=>⟨_,by walk_at"r",?_⟩)
 refine SnB.assignQ (Sn.set1N ⟨by decide,by decide⟩ λse G2 hse x2 s2=>⟨_,by walk_at"r",?_⟩)
 have o2:=x2 _ _ o1
 have x02:=x1.trans x2
 obtain⟨B,hB0⟩:∃B,Bs[0]?=some B:=⟨_,List.getElem?_eq_getElem ok.one⟩
 obtain⟨b,hb0,⟨sts,eo,hb1,hb2,hb3,hb4⟩⟩:=hB.get hB0
 obtain⟨ff,fp,fl,fb,f1,⟨g1,g2,g3⟩,f2,f3,f4⟩:=hf.ext x02
 have hBm:=ok.blks B (List.mem_of_getElem? hB0)
 have eF:folN Bs 0=B.ways:=by unfold folN;rw[show (0:Int).toNat=0 from rfl,hB0]
 refine SnB.assignQ (Sn.listE (SnEs.cons (Sn.listE (SnEs.cons (Rd.int.to (SnEs.cons (Sn.ref T.f_followers (by walk_at"r") (λ_ _=>rfl) (vs:=[.ref b]) (.cons (.idxL (by walk_at"r") f4 .int (by decide) (zV hb0)) .nil) (yQ T (hb1.ext x02) (hb3.ext x02) (hb4.ext x02) λd G3 hd x3 d3=>SnEs.cons (Rd.int.to (SnEs.nil ⟨rfl,λa G4 ha x4 a4=>SnEs.nil ⟨rfl,λst G5 hst x5 t5=>⟨_,by walk_at"r",?_⟩⟩⟩))))))))))
 have x25:=(x3.trans x4).trans x5
 have fst:=ne_new ((x3.trans x4) _ _ o2) hst
 have dst:=ne_new (x4 _ _ d3) hst
 have ast:=ne_new a4 hst
 have da:=ne_new d3 ha
 have fa:=ne_new (x3 _ _ o2) ha
 have fd:=ne_new o2 hd
 refine SnB.whileC (PoI G f fo se st Bs r) 100 (.mk (found:=[]) (seen:=1) (as:=[(a,d)]) (stk:=[⟨0,folN Bs 0,0⟩]) ⟨x25 _ _ o2,s2.ext x25,t5,.cons (x5 _ _ a4) ((x4.trans x5) _ _ (by rw[eF];exact d3)) .nil,fst,zQ fa (zQ fd yh),zQ (Ne.symm ast) (zQ (Ne.symm dst) yh),yv (zQ (Ne.symm da) yh) (yv yh .nil),hfo,x1.none hse,x02.none ((x3.trans x4).none hst),zB (x02.none (x3.none ha)) (zB (x02.none hd) zD),x02.trans x25,zB ⟨by rw[eF];exact hBm.goals,by rw[eF];exact hBm.ways,Nat.zero_le _⟩ zD,by decide,by show 1+100<=1000;decide,hp⟩) λk m G5' QT hI hN=>?_
 clear hB0 hb0 hb1 hb2 hb3 hb4 hBm eF fst dst ast da fa fd f1 f2 f3 f4 g1 g2 g3 d3 a4 t5 x3 x4 x5 x25 o2 o1 s2 hfo hse hd ha hst x1 x2 x02
 apply hI
 intro x y found seen as stk h
 refine SnT.mono (RdT.val (v:=.ref st) (by walk_at"r") (.list h.ht)) λt G6 ee=>?_
 obtain⟨e,e'⟩:=ee
 subst e;subst e'
 cases k with
 | zero=>exact nomatch h.go
 | succ k=>
 have hk:=h.hk
 revert h
 apply hk.uc
 ·intro h
  have go:found=r:=Option.some.inj h.go
  exact⟨λe=>Bool.noConfusion e,λ_=>SnB.retB (Rd.to (v:=.ref fo) (by walk_at"r") (kk fo _ (go▸h.ho) h.x h.q1))⟩
 intro a l r0 as rs ha hl hk h
 obtain⟨ho,hs,ht,_,n1,n2,n3,nd,q1,q2,q3,q4,xx,js,l1,l2,go⟩:=h
 have et:(((a,l)::as).reverse.map (·.1)).map Val.ref=(as.reverse.map (·.1)).map Val.ref++[.ref a]:=by rw[List.reverse_cons,List.map_append,List.map_append];rfl
 rw[et] at ht ⊢
 refine⟨λ_=>?_,λe=>by cases h:(as.reverse.map (·.1)).map Val.ref<;>rw[h] at e<;>cases e⟩
 have l2':as.length+1+(k+1)<=1000:=l2
 have n5:=nd
 rw[zDb] at n2 n3 n5 q4
 obtain⟨n6,n7,n8,n9⟩:=zIt n5
 obtain⟨sh1,sh2,sh3⟩:=js r0 (.head _)
 have js:=zH js
 have hl2:=List.length_map (f:=Val.int) (as:=r0.fols)
 have lA:as.length+1<=1000:=Nat.le_trans (Nat.le_add_right _ _) l2'
 have lS:((as.reverse.map (·.1)).map Val.ref).length=as.length:=by rw[List.length_map,List.length_map,List.length_reverse]
 refine SnB.assign (v:=.ref a) (.idxL (by walk_at"r") ht (.neg .int) (by decide) zDW) (by walk_at"r") ?_
 refine SnB.ifs (r:=(r0.idx:Int) == (r0.fols.length:Int)) (.cmp (.idxL (by walk_at"r") ha .int (by decide) rfl) (.fn (id:="len") T.blt (by decide) (by decide) (by walk_at"r") (λ_ _=>rfl) (.cons (.idxL (by walk_at"r") ha .int (by decide) rfl) .nil) (Blt.lenL hl (by rw[hl2];exact Nat.lt_of_le_of_lt sh2 (by decide)) ⟨rfl,rfl⟩)) (.eqI ⟨by rw[hl2],rfl⟩)) (λe=>?_) λe=>.nilT ?_
 ·rw[zCG (List.getElem?_eq_none (Nat.le_of_eq (Int.ofNat.inj (eq_of_beq e)).symm))] at go
  refine SnB.expr (Sn.meth .append (λ_ _=>rfl) (Rd.to (v:=.ref fo) (by walk_at"r") ⟨.list ho,Rds.to (vs:=[.int r0.num]) (.cons (.idxL (by walk_at"r") ha .int (by decide) rfl) .nil) (Meth.appN ho (by rw[List.length_map];exact zAC l1 (by decide)) λG7 x1 ho'=>?_)⟩))
  have ht7:=x1 _ _ (Ne.symm n1) ht
  refine SnB.expr (Sn.meth .pop (λ_ _=>rfl) (Rd.to (v:=.ref st) (by walk_at"r") ⟨.list ht7,Rds.nil.to (Meth.popN ht7 (by rw[lS];exact Nat.le_trans (Nat.le_of_succ_le lA) (by decide)) λG8 x2 ht8=>SnB.cont (.cont (hN (Nat.lt_succ_self k) (.mk ⟨(x2 _ _ n1 ho').trans (by rw[List.map_append];rfl),(hs.offL x1 ho).offL x2 ht7,ht8,(hk.off x1 (vE (vE n2))).off x2 (vE (vE n3)),n1,vE (vE n2),vE (vE n3),n9,q1,q2,q3,zH (zH q4),(xx.fresh q1 x1).fresh q3 x2,js,by rw[List.length_append,List.length_singleton,Nat.add_assoc,Nat.add_comm 1];exact l1,Nat.le_trans (Nat.add_le_add (Nat.le_add_right _ 1) (Nat.le_add_right _ 1)) l2',go⟩)).2))⟩))
 ·have hi:r0.idx<r0.fols.length:=Nat.lt_of_le_of_ne sh3 λq=>beq_eq_false_iff_ne.mp e (congrArg Int.ofNat q)
  obtain⟨j,q⟩:∃j,r0.fols[r0.idx]?=some j:=⟨_,List.getElem?_eq_getElem hi⟩
  obtain⟨j0,j1⟩:=sh1 j (List.mem_of_getElem? q)
  rw[zCF q] at go
  refine SnB.assign (v:=.int j) (.idxL (.idxL (by walk_at"r") ha .int (by decide) rfl) hl (.idxL (by walk_at"r") ha .int (by decide) rfl) (Nat.lt_of_lt_of_le hi (Nat.le_trans sh2 (by decide))) (zV q)) (by walk_at"r") ?_
  refine SnB.augIdxN (by walk_at"r") .int ha (by decide) rfl .int λG7 x1 a1=>?_
  have l1':=x1 _ _ (Ne.symm n6) hl
  have o1:=x1 _ _ (zE6 n2) ho
  have t1:=x1 _ _ (zE6 n3) ht
  have s1:=hs.offL x1 ha
  have xa:=xx.fresh (q4 a (.head _)) x1
  have k1:Zt G7 ((a,l)::as) (⟨r0.num,r0.fols,r0.idx+1⟩::rs):=.cons a1 l1' (hk.off x1 n7)
  have js':∀r∈(⟨r0.num,r0.fols,r0.idx+1⟩::rs:List Fr),(∀j∈r.fols,0<=j/\j.toNat<Bs.length)/\r.fols.length<=4/\r.idx<=r.fols.length:=zB ⟨sh1,sh2,hi⟩ js
  clear hs ht ho hk js sh1 sh2 sh3 ha hl a1 l1' x1 xx n5 n6 n7 n8 n9 q hi hl2
  refine SnB.ifs (r:=!zF seen j) (.cmp (by walk_at"r") (by walk_at"r") (.notinM s1)) (λe=>?_) λe=>.nil (.next (.nil (hN (Nat.lt_succ_self k) (.mk ⟨o1,s1,t1.trans (by rw[<-et]),k1,n1,n2,n3,nd,q1,q2,q3,q4,xa,js',Nat.le_of_succ_le l1,Nat.le_of_succ_le l2',(if_pos (by rw[Bool.not_eq_false'] at e;exact e)).symm.trans go⟩)).1))
  rw[if_neg (by rw[Bool.not_eq_true'] at e;rw[e];decide)] at go
  refine SnB.expr (Sn.meth .add (λ_ _=>rfl) (Rd.to (v:=.ref se) (by walk_at"r") ⟨s1.has,Rds.to (vs:=[.int j]) (by walk_at"r") (Meth.addN s1 ⟨j0,Int.lt_of_lt_of_le ((Int.toNat_lt j0).mp (Nat.lt_of_lt_of_le j1 ok.few)) (by decide)⟩ λG8 x2 s2=>?_)⟩))
  have k2:=k1.off x2 λz=>by obtain⟨xs,h⟩:=k1.mem _ z;exact s1.neL h rfl
  have o2:=x2 _ _ (s1.neL o1) o1
  have t2:=x2 _ _ (s1.neL t1) t1
  have xb:=xa.fresh q2 x2
  obtain⟨B,hBj⟩:∃B,Bs[j.toNat]?=some B:=⟨_,List.getElem?_eq_getElem j1⟩
  obtain⟨b,hb0,⟨sts,eo,hb1,hb2,hb3,hb4⟩⟩:=hB.get hBj
  have eF:folN Bs j=B.ways:=by unfold folN;rw[hBj]
  have hBm:=ok.blks B (List.mem_of_getElem? hBj)
  obtain⟨ff,fp,fl,fb,f1,⟨g1,g2,g3⟩,f2,f3,f4⟩:=hf.ext xb
  refine SnB.expr (Sn.meth .append (λ_ _=>rfl) (Rd.to (v:=.ref st) (by walk_at"r") ⟨.list t2,SnEs.cons (Sn.listE (SnEs.cons (Rd.to (v:=.int j) (by walk_at"r") (SnEs.cons (Sn.ref T.f_followers (by walk_at"r") (λ_ _=>rfl) (vs:=[.ref b]) (.cons (.idxL (by walk_at"r") f4 (by walk_at"r") (zp j0 (Nat.lt_of_lt_of_le j1 (Nat.le_trans ok.few (by decide)))) (zA3 j0 hb0)) .nil)
   (yQ T (hb1.ext xb) (hb3.ext xb) (hb4.ext xb) λd G9 hd x3 d3=>SnEs.cons (Rd.int.to (SnEs.nil ⟨rfl,λc G10 hc x4 c4=>SnEs.nil (Meth.appN ((x3.trans x4) _ _ t2) (by rw[List.length_append,lS];exact Nat.le_trans lA (by decide)) λG11 x5 t5=>?_)⟩))))))))⟩))
  have x34:=x3.trans x4
  have k4:=k2.ext x34
  have cd:=ne_new d3 hc
  have mc:∀z∈vk ((a,l)::as),z≠c/\z≠d:=λz hz=>by obtain⟨xs,h⟩:=k2.mem z hz;exact⟨ne_new (x3 _ _ h) hc,ne_new h hd⟩
  exact .nil (.next (.nil (hN (Nat.lt_succ_self k) (.mk (as:=(c,d)::(a,l)::as) ⟨x5 _ _ n1 (x34 _ _ o2),(s2.ext x34).offL x5 (x34 _ _ t2),by rw[t5,<-et,List.reverse_cons (a:=(c,d)),List.map_append,List.map_append];rfl,Zt.off (.cons c4 (by rw[eF];exact x4 _ _ d3) k4) x5 (zQ (ne_new (x3 _ _ t2) hc) (zQ (ne_new t2 hd) n3)),n1,zQ (ne_new (x3 _ _ o2) hc) (zQ (ne_new o2 hd) n2),zQ (ne_new (x3 _ _ t2) hc) (zQ (ne_new t2 hd) n3),yv (zQ (Ne.symm cd) λz=>(mc _ z).1 rfl) (yv (λz=>(mc _ z).2 rfl) nd),q1,q2,q3,zB ((xb.trans x3).none hc) (zB (xb.none hd) q4),(xb.trans x34).fresh q3 x5,zB ⟨by rw[eF];exact hBm.goals,by rw[eF];exact hBm.ways,Nat.zero_le _⟩ js',Nat.le_of_succ_le l1,by show as.length+1+1+k<=1000;rw[Nat.add_assoc,Nat.add_comm 1 k];exact l2',go⟩)).1))
end
noncomputable section
variable {X:Cx}{n:Nat}{G:Gh}{sc:Scope}{os:List (Option Val)}{m:M}
section
variable {β γ:Type}
noncomputable def st (l:List (Int×β))(k:Int)(v:β):List (Int×β):=if l.any (λe=>decide (e.1=k)) then l.map (λe=>if e.1=k then(e.1,v) else e) else l++[(k,v)]
noncomputable def lk (l:List (Int×β))(k:Int):Option β:=(l.find? λe=>decide (e.1=k)).map (·.2)
theorem zBB (f:β->γ)(l:List (Int×β))(k:Int)(v:β):(st l k v).map (λe=>(e.1,f e.2))=st (l.map λe=>(e.1,f e.2)) k (f v):=by
 unfold st
 rw[List.any_map]
 show _=if l.any (λe=>decide (e.1=k))=true then _ else _
 split
 ·rw[List.map_map,List.map_map]
  refine List.map_congr_left λe _=>?_
  show (λe:Int×β=>(e.1,f e.2)) (if e.1=k then(e.1,v) else e)=if e.1=k then(e.1,f v) else(e.1,f e.2)
  split<;>rfl
 ·rw[List.map_append];rfl
theorem zEh (f:β->γ)(l:List (Int×β))(k:Int):lk (l.map λe=>(e.1,f e.2)) k=(lk l k).map f:=by
 unfold lk
 rw[List.find?_map,Option.map_map,Option.map_map];rfl
theorem zEd {l:List (Int×β)}{k:Int}{v:β}{e:Int×β}(h:e∈st l k v):e∈l\/e.2=v:=by
 unfold st at h
 split at h
 ·obtain⟨x,hx,q⟩:=List.mem_map.mp h
  split at q
  ·exact .inr (by rw[<-q])
  ·exact .inl (q▸hx)
 ·rcases List.mem_append.mp h with q | q
  ·exact .inl q
  ·exact .inr (by rw[List.mem_singleton.mp q])
theorem ur (l:List (Int×β))(k:Int)(v:β):(st l k v).length<=l.length+1:=by
 unfold st
 split
 ·rw[List.length_map];exact Nat.le_succ _
 ·rw[List.length_append];exact Nat.le_refl _
theorem zC2 (l:List (Int×β))(k:Int):l.any (λe=>decide (e.1=k))=true↔k∈l.map (·.1):=by
 rw[List.any_eq_true,List.mem_map]
 exact⟨λ⟨e,h,q⟩=>⟨e,h,of_decide_eq_true q⟩,λ⟨e,h,q⟩=>⟨e,h,decide_eq_true q⟩⟩
theorem w5 (l:List (Int×β))(k:Int):(lk l k).isSome=true↔k∈l.map (·.1):=by
 rw[<-zC2]
 unfold lk
 rw[Option.isSome_map,List.find?_isSome,List.any_eq_true]
theorem uD {l:List (Int×β)}{k:Int}{v:β}(j:Int):j∈(st l k v).map (·.1)↔j∈l.map (·.1)\/j=k:=by
 unfold st
 by_cases h:l.any (λe=>decide (e.1=k))=true
 ·rw[if_pos h,List.map_map]
  have e:((λe:Int×β=>e.1) ∘ λe=>if e.1=k then(e.1,v) else e)=(·.1):=by funext e;show (if e.1=k then(e.1,v) else e).1=e.1;split<;>rfl
  rw[e]
  exact⟨.inl,λq=>q.elim id λq=>q▸(zC2 l k).mp h⟩
 ·rw[if_neg h,List.map_append,List.mem_append]
  show _\/j∈[k]↔_
  rw[List.mem_singleton]
theorem ua {l:List (Int×β)}{k:Int}{v:β}(h:k∈l.map (·.1)):(st l k v).length=l.length/\∀j,j∈(st l k v).map (·.1)↔j∈l.map (·.1):=
 ⟨by unfold st;rw[if_pos ((zC2 l k).mpr h),List.length_map],λj=>(uD j).trans ⟨λq=>q.elim id λq=>q▸h,.inl⟩⟩
end
theorem zAd (es:List (Int×Val))(k:Int):zq es k=lk es k:=rfl
theorem zDz (es:List (Int×Val))(k:Int)(v:Val):uX es k v=st es k v:=rfl
noncomputable def GObj.kind:GObj->Nat | .list ..=>0 | .dict ..=>1 | .set ..=>2 | .inst ..=>3
theorem jl {y z:Addr}{o o':GObj}(ey:G y=some o')(e:G z=some o)(h:Nat.beq o.kind o'.kind=false:=by rfl):z≠y:=λq=>by rw[q,ey] at e;cases e;rw[Nat.beq_refl] at h;cases h
theorem Ext1.kind {G':Gh}{y z:Addr}{o o':GObj}(x:Ext1 y G G')(ey:G y=some o')(e:G z=some o)(h:Nat.beq o.kind o'.kind=false:=by rfl):G' z=some o:=x _ _ (jl ey e h) e
theorem Zf.offD {G':Gh}{a z:Addr}{k:Nat}{xs:List (Int×Val)}(h:Zf G a k)(x:Ext1 z G G')(e:G z=some (.dict xs)):Zf G' a k:=h.off x λq=>by obtain⟨f,h⟩:=h;rw[q,e] at h;cases h
theorem Zf.kind {G':Gh}{a z:Addr}{k:Nat}{o:GObj}(h:Zf G a k)(x:Ext1 a G G')(e:G z=some o)(hk:Nat.beq o.kind 2=false:=by rfl):G' z=some o:=by obtain⟨f,h⟩:=h;exact x.kind h e hk
inductive SIP (X:Cx)(n:Nat)(sc:Scope)(o i:Expr)(sts:List Stmt)(m:M)(Q:QS)(v:Val)(G₁:Gh):Prop where
 | mk (a:Addr) (es:List (Int×Val)) (k:Int) (h1:Rd X n sc o m G₁ (.ref a)) (h2:Rd X n sc i m G₁ (.int k)) (h3:G₁ a=some (.dict es)) (h4:es.length<=2000) (q:∀G',Ext1 a G₁ G'->G' a=some (.dict (st es k v))->SnB X n sc sts m G' Q)
theorem SnB.setIdxQ {Q:QS}{e o i:Expr}{p pos:Pos}{sts:List Stmt}(h:Sn X n sc e m G (SIP X n sc o i sts m Q))
  (hsw:∀env,swapsWith e (some (.Subscript o i p)) pos.line env=pure false:=by intro _;rfl):SnB X n sc (.Assign [.Subscript o i p] e pos::sts) m G Q:=
 .cons (.setIdx (h.mono λv G1 q=>by obtain⟨a,es,k,h1,h2,h3,h4,q⟩:=q;exact h1.to (h2.to ⟨a,es,k,rfl,rfl,h3,Nat.lt_of_le_of_lt h4 (by decide),.next (q _ .upd (Gh.upd_same ..))⟩)) hsw)
theorem Sn.dictN {Q:QE}{pos:Pos}(h:∀a G',G a=none->Ext G G'->G' a=some (.dict [])->Q (.ref a) G'):Sn X n sc (.Dict [] [] pos) m G Q:=Sn.dict0 λa ha=>h a _ ha (.new ha) (Gh.upd_same ..)
theorem Blt.set0N {Q:QE}(h:∀a G',G a=none->Ext G G'->Zf G' a 0->Q (.ref a) G'):Blt X n (.type "set") [] G Q:=Blt.set0 λa ha=>h a _ ha (.new ha) .new
theorem SnB.whileA {Q:QS}{t:Expr}{body sts:List Stmt}{pos:Pos}(I:Nat->M->Gh->Prop)(k:Nat)(h0:I k m G)
  (h:∀k m G (QT:QS),I k m G->(∀{j m G},j<k->I j m G->QT .next m G)->(∀{v m G},Q (.ret v) m G->QT (.ret v) m G)->SnT X n sc t m G λr G'=>Two (SnB X n sc body m G' QT) (SnB X n sc sts m G' Q) r):SnB X n sc (.While t body [] pos::sts) m G Q:=
 .while_ I k h0 λk m G i=>h k m G _ i (λl h=>.next ⟨_,l,h⟩) λq=>.ret (.ret q)
theorem zEe {a b:Nat}:(∀k,zF a k=zF b k)↔a=b:=by
 refine⟨λh=>Nat.eq_of_testBit_eq λi=>?_,λh k=>by rw[h]⟩
 have:=h (i:Int)
 unfold zF at this
 rw[decide_eq_true (Int.natCast_nonneg i),Bool.true_and,Bool.true_and,Int.toNat_natCast] at this
 exact this
theorem Op2.neM {p q:Addr}{a b:Nat}(e1:Zf G p a)(e2:Zf G q b)(hne:p≠q):O2 X n (compareOp .NotEq) (.ref p) (.ref q) G (.bool (!Nat.beq a b)):=by
 obtain⟨f,e1⟩:=e1
 obtain⟨g,e2⟩:=e2
 refine .neSet e1 e2 hne λr hr=>⟨?_,rfl⟩
 rw[zEe] at hr
 have:r=Nat.beq a b:=by
  cases h:Nat.beq a b with
  | true=>exact hr.mpr (Nat.eq_of_beq_eq_true h)
  | false=>
   cases hr':r with
   | false=>rfl
   | true=>exact absurd (hr.mp hr') (Nat.ne_of_beq_eq_false h)
 rw[this]
noncomputable def iwE (l:List (Int×Bool)):List (Int×Val):=l.map λe=>(e.1,.bool e.2)
theorem zGz (l:AhL)(k:Int)(a:Addr)(b:Nat):st (ahE l) k (.ref a)=ahE (st l k (a,b)):=(zBB (λv:Addr×Nat=>Val.ref v.1) l k (a,b)).symm
theorem zGy (l:AhL)(k:Int)(a:Addr)(b:Nat):ahM (st l k (a,b))=st (ahM l) k b:=zBB (λv:Addr×Nat=>v.2) l k (a,b)
theorem zEo (l:List (Int×Bool))(k:Int)(b:Bool):st (iwE l) k (.bool b)=iwE (st l k b):=(zBB Val.bool l k b).symm
theorem zAs (l:AhL):(ahE l).map (·.1)=(ahM l).map (·.1):=by unfold ahE ahM;rw[List.map_map,List.map_map];rfl
theorem AhAt.keep {G':Gh}{d:Addr}{l:AhL}(h:AhAt G d l)(hd:G' d=some (.dict (ahE l)))(hs:∀a k,Zf G a k->Zf G' a k):AhAt G' d l:=⟨hd,λe he=>hs _ _ (h.s e he)⟩
theorem AhAt.ext {G':Gh}{d:Addr}{l:AhL}(h:AhAt G d l)(x:Ext G G'):AhAt G' d l:=h.keep (x _ _ h.d) λ_ _ s=>s.ext x
noncomputable def wake (AH:List (Int×Nat))(s:List Int×List (Int×Bool))(o:Int):List Int×List (Int×Bool):=
 if (lk AH o).isSome&&!((lk s.2 o).getD false) then(s.1++[o],st s.2 o true) else s
noncomputable def naGo (sl:Zg)(am:Za)(Bs:List PB)(L:List (List Int))(k:Nat):List Int->Nat->List (Int×Nat)->List (Int×Bool)->Option (List (Int×Nat)):=
 Nat.rec (motive:=λ_=>List Int->Nat->List (Int×Nat)->List (Int×Bool)->Option (List (Int×Nat))) (λ_ _ _ _=>none) (λ_ go W at_ AH IW=>match W[at_]? with
  | none=>some AH
  | some i=>match Bs[i.toNat]? with
   | none=>none
   | some B=>
    let b:=needP sl am B.steps B.fin.args (zL AH B.ways)
    if Nat.beq b (zb AH i) then go W (at_+1) AH (st IW i false)
    else
     let s:=(L.getD i.toNat []).foldl (wake (st AH i b)) (W,st IW i false)
     go s.1 (at_+1) (st AH i b) s.2) k
noncomputable def AH0 (W:List Int):List (Int×Nat):=W.foldl (λl i=>st l i 0) []
noncomputable def IW0 (W:List Int):List (Int×Bool):=W.foldl (λl i=>st l i true) []
noncomputable def PoOK (Bs:List PB)(W:List Int):Prop:=W.length<=16/\∀i∈W,0<=i/\∃B,Bs[i.toNat]?=some B/\∀j∈B.ways,j∈W
end
noncomputable section
variable {X:Cx}{n:Nat}{G:Gh}{sc:Scope}{os:List (Option Val)}{m:M}
noncomputable abbrev neL (f ad wa bf ah iw:Addr)(x i y z o:Option Val):M:=L wp [some (.ref f),some (.ref ad),some (.ref wa),some (.ref bf),some (.ref ah),some (.ref iw),x,i,y,z,o,none,none,none,none,none,none]
structure NaS (G0:Gh)(wa bf ah iw:Addr)(las:List Addr)(L:List (List Int))(G:Gh)(W:List Int)(l:AhL)(IW:List (Int×Bool)):Prop where
 hw:G wa=some (.list (W.map .int))
 hL:LsAt G0 G las L
 hb:G bf=some (.list (las.map .ref))
 ha:AhAt G ah l
 hi:G iw=some (.dict (iwE IW))
 x:Ext G0 G
 q1:G0 wa=none
 q2:G0 ah=none
 q3:G0 iw=none
 n1:wa≠bf
 n2:wa∉las
 n3:ah≠iw
section
variable {G0 G':Gh}{wa bf ah iw:Addr}{las:List Addr}{L:List (List Int)}{W:List Int}{l:AhL}{IW:List (Int×Bool)}
theorem LsAt.kind {y:Addr}{o:GObj}(h:LsAt G0 G las L)(x:Ext1 y G G')(e:G y=some o)(hk:Nat.beq 0 o.kind=false):LsAt G0 G' las L:=by
 induction h with
 | nil=>exact .nil
 | cons a b c _ ih=>exact .cons a b (x.kind e c hk) ih
theorem NaS.putI {IW':List (Int×Bool)}(h:NaS G0 wa bf ah iw las L G W l IW)(x:Ext1 iw G G')(e:G' iw=some (.dict (iwE IW'))):NaS G0 wa bf ah iw las L G' W l IW':=
 ⟨x.kind h.hi h.hw,h.hL.kind x h.hi rfl,x.kind h.hi h.hb,h.ha.keep (x _ _ h.n3 h.ha.d) λ_ _ s=>s.offD x h.hi,e,h.x.fresh h.q3 x,h.q1,h.q2,h.q3,h.n1,h.n2,h.n3⟩
theorem NaS.putA {l':AhL}(h:NaS G0 wa bf ah iw las L G W l IW)(x:Ext1 ah G G')(e:G' ah=some (.dict (ahE l')))(hs:∀e∈l',Zf G e.2.1 e.2.2):NaS G0 wa bf ah iw las L G' W l' IW:=
 ⟨x.kind h.ha.d h.hw,h.hL.kind x h.ha.d rfl,x.kind h.ha.d h.hb,⟨e,λe he=>(hs e he).offD x h.ha.d⟩,x _ _ (Ne.symm h.n3) h.hi,h.x.fresh h.q2 x,h.q1,h.q2,h.q3,h.n1,h.n2,h.n3⟩
theorem NaS.putW {W':List Int}(h:NaS G0 wa bf ah iw las L G W l IW)(x:Ext1 wa G G')(e:G' wa=some (.list (W'.map .int))):NaS G0 wa bf ah iw las L G' W' l IW:=
 ⟨e,h.hL.off x h.n2,x _ _ (Ne.symm h.n1) h.hb,h.ha.keep (x.kind h.hw h.ha.d) λ_ _ s=>s.offL x h.hw,x.kind h.hw h.hi,h.x.fresh h.q1 x,h.q1,h.q2,h.q3,h.n1,h.n2,h.n3⟩
theorem NaS.ext (h:NaS G0 wa bf ah iw las L G W l IW)(x:Ext G G'):NaS G0 wa bf ah iw las L G' W l IW:=
 ⟨x _ _ h.hw,h.hL.ext x,x _ _ h.hb,h.ha.ext x,x _ _ h.hi,h.x.trans x,h.q1,h.q2,h.q3,h.n1,h.n2,h.n3⟩
end
theorem zHA {l:AhL}{k:Nat}(h:l.length+k<=16):(ahE l).length<=2000:=by
 unfold ahE;rw[List.length_map];exact Nat.le_trans (Nat.le_add_right _ k) (Nat.le_trans h (by decide))
theorem zEp {l:List (Int×Bool)}{k:Nat}(h:l.length+k<=16):(iwE l).length<=2000:=by
 unfold iwE;rw[List.length_map];exact Nat.le_trans (Nat.le_add_right _ k) (Nat.le_trans h (by decide))
theorem zHj {a w k:Nat}(h:a+0<=w+16)(q:w+16 * (k+1)<=1900):a+16 * k<=1900:=Nat.le_trans (Nat.add_le_add_right h _) (by rw[Nat.add_assoc,Nat.add_comm 16];exact q)
section
variable {G0 G':Gh}{f ad wa bf ah iw la i a b c:Addr}{las:List Addr}{L:List (List Int)}{W W0:List Int}{l:AhL}{IW:List (Int×Bool)}
noncomputable def Na1 (G0:Gh)(f ad wa bf ah iw:Addr)(las:List Addr)(L:List (List Int))(W:List Int)(r:List Int)(m:M)(G:Gh):Prop:=
 ∀C:M->Prop,(∀(x:Option Val) (l:AhL) (IW:List (Int×Bool)),NaS G0 wa bf ah iw las L G W l IW->r.foldl (λl i=>st l i 0) (ahM l)=AH0 W->r.foldl (λl i=>st l i true) IW=IW0 W->l.length+r.length<=16->IW.length+r.length<=16->C (neL f ad wa bf ah iw x none none none none))->C m
theorem Na1.mk {r:List Int}{x:Option Val}(s:NaS G0 wa bf ah iw las L G W l IW)(a:r.foldl (λl i=>st l i 0) (ahM l)=AH0 W)(b:r.foldl (λl i=>st l i true) IW=IW0 W)(l1:l.length+r.length<=16)(l2:IW.length+r.length<=16):Na1 G0 f ad wa bf ah iw las L W r (neL f ad wa bf ah iw x none none none none) G:=λ_ k=>k x l IW s a b l1 l2
noncomputable def Na2 (G0:Gh)(f ad wa bf ah iw:Addr)(las:List Addr)(L:List (List Int))(go:Nat->List Int->Nat->List (Int×Nat)->List (Int×Bool)->Prop)(W0:List Int)(k:Nat)(m:M)(G:Gh):Prop:=
 ∀C:M->Prop,(∀(x y z o:Option Val) (W:List Int) (a:Nat) (l:AhL) (IW:List (Int×Bool)),NaS G0 wa bf ah iw las L G W l IW->go k W a (ahM l) IW->(∀j,j∈(ahM l).map (·.1)↔j∈W0)->(∀j,j∈IW.map (·.1)↔j∈W0)->(∀j∈W,j∈W0)->l.length<=16->IW.length<=16->W.length+16 * k<=1900->C (neL f ad wa bf ah iw x (some (.int a)) y z o))->C m
theorem Na2.mk {go:Nat->List Int->Nat->List (Int×Nat)->List (Int×Bool)->Prop}{k a:Nat}{x y z o:Option Val}(s:NaS G0 wa bf ah iw las L G W l IW)(g:go k W a (ahM l) IW)(ka:∀j,j∈(ahM l).map (·.1)↔j∈W0)(ki:∀j,j∈IW.map (·.1)↔j∈W0)(kw:∀j∈W,j∈W0)(l1:l.length<=16)(l2:IW.length<=16)(l3:W.length+16 * k<=1900):Na2 G0 f ad wa bf ah iw las L go W0 k (neL f ad wa bf ah iw x (some (.int a)) y z o) G:=λ_ k=>k x y z o W a l IW s g ka ki kw l1 l2 l3
noncomputable def Na3 (F:Option Val->M)(N:List Int->List (Int×Bool)->Gh->Prop)(W0:List Int)(la:Addr)(pl:List Int)(K:Nat)(wk:List Int×List (Int×Bool)->Int->List Int×List (Int×Bool))(goal:List Int×List (Int×Bool))(r:List Int)(m:M)(G:Gh):Prop:=
 ∀C:M->Prop,(∀(o:Option Val) (W:List Int) (IW:List (Int×Bool)),N W IW G->r.foldl wk (W,IW)=goal->(∀j,j∈IW.map (·.1)↔j∈W0)->(∀j∈W,j∈W0)->IW.length<=16->W.length+r.length<=K->G la=some (.list (pl.map .int))->C (F o))->C m
theorem Na3.mk {F:Option Val->M}{N:List Int->List (Int×Bool)->Gh->Prop}{pl r:List Int}{K:Nat}{wk:List Int×List (Int×Bool)->Int->List Int×List (Int×Bool)}{goal:List Int×List (Int×Bool)}{o:Option Val}(s:N W IW G)(g:r.foldl wk (W,IW)=goal)(ki:∀j,j∈IW.map (·.1)↔j∈W0)(kw:∀j∈W,j∈W0)(l2:IW.length<=16)(l3:W.length+r.length<=K)(e:G la=some (.list (pl.map .int))):Na3 F N W0 la pl K wk goal r (F o) G:=λ_ k=>k o W IW s g ki kw l2 l3 e
end
theorem zAH {β:Type}(v:β)(W:List Int):∀(l:List (Int×β)) (j:Int),j∈(W.foldl (λl i=>st l i v) l).map (·.1)↔j∈l.map (·.1)\/j∈W:=by
 induction W with
 | nil=>exact λl j=>(or_iff_left List.not_mem_nil).symm
 | cons i W ih=>intro l j;rw[List.foldl_cons,ih,uD,List.mem_cons,or_assoc]
theorem zBQ (i:Int)(L:List (List Int))(j:Int):(zt i L j).length=L.length:=by
 unfold zt
 split
 ·rfl
 ·rw[List.length_set]
theorem zA9 (i:Int)(ws:List Int):∀L:List (List Int),(ws.foldl (zt i) L).length=L.length:=by
 induction ws with
 | nil=>exact λ_=>rfl
 | cons w ws ih=>intro L;rw[List.foldl_cons,ih,zBQ]
theorem zA8 (Bs:List PB):∀(i:Int) (L:List (List Int)),(jM i Bs L).length=L.length:=by
 induction Bs with
 | nil=>exact λ_ _=>rfl
 | cons B Bs ih=>exact λi L=>(ih _ _).trans (zA9 i _ L)
theorem zDY (Bs:List PB):(zo Bs).length=Bs.length:=by unfold zo;rw[zA8,List.length_map]
theorem zJt {l:AhL}{i:Int}:i∈l.map (·.1)↔i∈(ahE l).map (·.1):=by unfold ahE;rw[List.map_map];rfl
theorem zGH {sl:Zg}{am:Za}{Bs:List PB}{L:List (List Int)}{k a:Nat}{W:List Int}{AH:List (Int×Nat)}{IW:List (Int×Bool)}(hn:W[a]?=none):naGo sl am Bs L (k+1) W a AH IW=some AH:=by
 show (match W[a]? with | none=>_ | some i=>_)=_;rw[hn]
theorem zE9 {sl:Zg}{am:Za}{Bs:List PB}{B:PB}{L:List (List Int)}{k a:Nat}{i:Int}{W:List Int}{AH:List (Int×Nat)}{IW:List (Int×Bool)}(hi:W[a]?=some i)(hB:Bs[i.toNat]?=some B)(e:(!Nat.beq (needP sl am B.steps B.fin.args (zL AH B.ways)) (zb AH i))=false):naGo sl am Bs L (k+1) W a AH IW=naGo sl am Bs L k W (a+1) AH (st IW i false):=by
 show (match W[a]? with | none=>_ | some i=>_)=_;rw[hi];show (match Bs[i.toNat]? with | none=>_ | some B=>_)=_;rw[hB];rw[Bool.not_eq_false'] at e;exact if_pos e
theorem zGG {sl:Zg}{am:Za}{Bs:List PB}{B:PB}{L:List (List Int)}{k a:Nat}{i:Int}{W:List Int}{AH:List (Int×Nat)}{IW:List (Int×Bool)}(hi:W[a]?=some i)(hB:Bs[i.toNat]?=some B)(e:(!Nat.beq (needP sl am B.steps B.fin.args (zL AH B.ways)) (zb AH i))=true):naGo sl am Bs L (k+1) W a AH IW=naGo sl am Bs L k ((L.getD i.toNat []).foldl (wake (st AH i (needP sl am B.steps B.fin.args (zL AH B.ways)))) (W,st IW i false)).1 (a+1) (st AH i (needP sl am B.steps B.fin.args (zL AH B.ways))) ((L.getD i.toNat []).foldl (wake (st AH i (needP sl am B.steps B.fin.args (zL AH B.ways)))) (W,st IW i false)).2:=by
 show (match W[a]? with | none=>_ | some i=>_)=_;rw[hi];show (match Bs[i.toNat]? with | none=>_ | some B=>_)=_;rw[hB];rw[Bool.not_eq_true'] at e;exact if_neg (by rw[e];decide)
theorem zFb {AH:List (Int×Nat)}{W:List Int}{IW:List (Int×Bool)}{j:Int}(e:((lk AH j).isSome&&!((lk IW j).getD false))=true):wake AH (W,IW) j=(W++[j],st IW j true):=by unfold wake;exact if_pos e
theorem zHF {AH:List (Int×Nat)}{W:List Int}{IW:List (Int×Bool)}{j:Int}(e:((lk AH j).isSome&&!((lk IW j).getD false))=false):wake AH (W,IW) j=(W,IW):=by unfold wake;exact if_neg (by rw[e];decide)
theorem zHu {IW:List (Int×Bool)}{W0:List Int}{j:Int}(h:∀j,j∈IW.map (·.1)↔j∈W0)(q:j∈W0):zq (iwE IW) j=some (.bool ((lk IW j).getD false)):=by
 obtain⟨bv,hbv⟩:=Option.isSome_iff_exists.mp ((w5 IW j).mpr ((h j).mpr q))
 rw[zAd];unfold iwE;rw[zEh,hbv];rfl
theorem zJ3 {l:AhL}{j:Int}:(zq (ahE l) j).isSome=(lk (ahM l) j).isSome:=by rw[zAd,Bool.eq_iff_iff,w5,w5,zAs]
theorem LsAt.exts {G0 G1 G2 G4:Gh}{as:List Addr}{L:List (List Int)}(x1:Ext G0 G1)(x:Ext G2 G4)(h:LsAt G1 G2 as L):LsAt G0 G4 as L:=by
 induction h with
 | nil=>exact .nil
 | cons a b c _ ih=>exact .cons a (x1.none b) (x _ _ c) ih
theorem LsAt.notin {G0 G':Gh}{as:List Addr}{L:List (List Int)}{z:Addr}{o:GObj}(h:LsAt G0 G' as L)(e:G0 z=some o):z∉as:=λq=>by have:=(h.mem q).2;rw[e] at this;cases this
theorem vZ {f ad:Addr}{pr:List Int}{sl:Zg}{bls:List Addr}{am:Za}{Bs:List PB}{W0:List Int}{goal:List (Int×Nat)}{Q:QE}(T:Tops X)(hf:Zk G f pr sl bls)(ha:G ad=some (.dict (adE am)))(hok:AdOK am sl)
  (hB:Zd G 0 bls Bs) (ok:FnOK Bs) (hpo:zDZ Bs=some W0) (hW:PoOK Bs W0) (hL:∀l∈zo Bs,l.length<=16) (hgo:naGo sl am Bs (zo Bs) 100 W0 0 (AH0 W0) (IW0 W0)=some goal)
  (kk:∀d l G',G d=none->Ext G G'->AhAt G' d l->ahM l=goal->(∀j,j∈goal.map (·.1)↔j∈W0)->goal.length<=16->Q (.ref d) G'):Cal X (n+5) zx [.ref f,.ref ad] G Q:=by
 refine' Cal.start (os:=?os) T.d_needs_ahead ?q ?b;case q=>walk_at"r"
 case b=>
 refine SnB.assignQ (Sn.ref T.f_postorder (by walk_at"r") (λ_ _=>rfl) (vs:=[.ref f]) (by walk_at"r") (zBE T hf hB ok hpo λwa G1 w1 x1 q1=>⟨_,by walk_at"r",?_⟩))
 refine SnB.assignQ (Sn.ref T.f_preds (by walk_at"r") (λ_ _=>rfl) (vs:=[.ref f]) (by walk_at"r") (zFh T (hf.ext x1) (hB.ext x1) ok λbf las G2 x2 l2 b2 n2 q2=>⟨_,by walk_at"r",?_⟩))
 refine SnB.assignQ (Sn.dictN λah G3 h3 x3 a3=>⟨_,by walk_at"r",SnB.assignQ (Sn.dictN λiw G4 h4 x4 i4=>⟨_,by walk_at"r",?_⟩)⟩)
 have x02:=x1.trans x2
 have x34:=x3.trans x4
 have w4:=x34 _ _ (x2 _ _ w1)
 have s0:NaS G wa bf ah iw las (zo Bs) G4 W0 [] []:=⟨w4,l2.exts x1 x34,x34 _ _ b2,⟨x4 _ _ a3,λ_ h=>nomatch h⟩,i4,x02.trans x34,q1,x02.none h3,x02.none (x3.none h4),ne_new w1 q2,l2.notin w1,ne_new a3 h4⟩
 clear x02 x34 h3 x3 a3 h4 x4 i4 x2 l2 b2 n2 q2 w1 x1 q1
 refine SnB.forM .int (by walk_at"r") w4 (Na1 G f ad wa bf ah iw las (zo Bs) W0) (.mk s0 rfl rfl (Nat.le_trans (Nat.le_of_eq (Nat.zero_add _)) hW.1) (Nat.le_trans (Nat.le_of_eq (Nat.zero_add _)) hW.1)) (λr m G' hI=>hI (λ_=>_) λx l IW s _ _ _ _=>s.hw) (λi r m G5 QT hI hN hR=>?_) λm G5 hI=>?_
 ·apply hI
  intro x l IW s ea eb l1 l2
  refine⟨_,.name (Upd.put (os':=[some (.ref f),some (.ref ad),some (.ref wa),some (.ref bf),some (.ref ah),some (.ref iw),some (.int i),none,none,none,none,none,none,none,none,none,none]) (by walk_at"r")),?_⟩
  refine SnB.setIdxQ (Sn.ty (id:="set") T.blt (by decide) (by decide) (by walk_at"r") (λ_ _=>rfl) (Rds.nil.to (Blt.set0N λc G6 hc x6 s6=>⟨ah,_,i,by walk_at"r",by walk_at"r",x6 _ _ s.ha.d,zHA l1,λG7 x7 a7=>?_⟩)))
  rw[zGz l i c 0] at a7
  have s7:=(s.ext x6).putA x7 a7 λe he=>(zEd he).elim (λq=>(s.ha.s e q).ext x6) λq=>by rw[q];exact s6
  refine SnB.setIdxQ (Rd.tru.to ⟨iw,_,i,by walk_at"r",by walk_at"r",s7.hi,zEp l2,λG8 x8 i8=>?_⟩)
  rw[zEo] at i8
  exact .nil (hN (.mk (s7.putI x8 i8) (by rw[zGy];exact ea) eb (uq (ur l i (c,0)) l1) (uq (ur IW i true) l2)))
 apply hI
 intro x l IW s ea eb l1 l2
 have ea':ahM l=AH0 W0:=ea
 have eb':IW=IW0 W0:=eb
 refine SnB.assign (v:=.int ((0:Nat):Int)) .int (by walk_at"r") ?_
 refine SnB.whileA (Na2 G f ad wa bf ah iw las (zo Bs) (λk W a AH IW=>naGo sl am Bs (zo Bs) k W a AH IW=some goal) W0) 100 (.mk s (by rw[ea',eb'];exact hgo) (λj=>by rw[ea'];exact(zAH 0 W0 [] j).trans ⟨λq=>q.elim (λq=>nomatch q) id,.inr⟩) (λj=>by rw[eb'];exact(zAH true W0 [] j).trans ⟨λq=>q.elim (λq=>nomatch q) id,.inr⟩) (λj h=>h) l1 l2 (Nat.add_le_add hW.1 (by decide:1600<=1884))) λk m G6 QT hI hN hR=>?_
 clear s0 ea eb l1 l2 ea' eb' s
 apply hI
 intro x y z o W a l IW s go ka ki kw l1 l2 l3
 have hWl:=List.length_map (f:=Val.int) (as:=W)
 refine SnT.mono (RdT.cmp (v:=.int (a:Int)) (by walk_at"r") (.fn (id:="len") T.blt (by decide) (by decide) (by walk_at"r") (λ_ _=>rfl) (vs:=[.ref wa]) (by walk_at"r") (Blt.lenL s.hw (by rw[hWl];exact zCw l3 (by decide)) ⟨rfl,rfl⟩)) (.lt ⟨rfl,rfl⟩)) λt G7 ee=>?_
 obtain⟨e,e'⟩:=ee
 subst e;subst e'
 rw[hWl]
 cases k with
 | zero=>cases go
 | succ k=>
 refine⟨λe=>?_,λe=>?_⟩
 ·have hlt:a<W.length:=Int.ofNat_lt.mp (of_decide_eq_true e)
  have hi:W[a]?=some W[a]:=List.getElem?_eq_getElem hlt
  generalize W[a]=i at hi
  have hiW:=kw i (List.mem_of_getElem? hi)
  obtain⟨i0,B,hB0,hways⟩:=hW.2 i hiW
  have hi1:=(List.getElem?_eq_some_iff.mp hB0).1
  have hBm:=ok.blks B (List.mem_of_getElem? hB0)
  have hic:i.natAbs<cap:=zp i0 (Nat.lt_of_lt_of_le hi1 (Nat.le_trans ok.few (by decide)))
  refine SnB.assign (v:=.int i) (.idxL (by walk_at"r") s.hw (by walk_at"r") (Nat.lt_trans hlt (zCw l3 (by decide))) (zV hi)) (by walk_at"r") ?_
  refine SnB.aug (v:=.int (a:Int)) (w:=.int 1) (by walk_at"r") .int (Op2.iadd ⟨_,by walk_at"r",?_⟩)
  refine SnB.setIdxQ (Rd.tru.to ⟨iw,_,i,by walk_at"r",by walk_at"r",s.hi,zEp (k:=0) l2,λG8 x8 i8=>?_⟩)
  rw[zEo] at i8
  have s8:=s.putI x8 i8
  obtain⟨k1,k2⟩:=ua (v:=false) ((ki i).mpr hiW)
  have k2:=λj=>(k2 j).trans (ki j)
  have k1:=Nat.le_trans (Nat.le_of_eq k1) l2
  obtain⟨b,hb0,⟨sts,eo,hb1,hb2,hb3,hb4⟩⟩:=hB.get hB0
  obtain⟨ff,fp,fl,fb,f1,⟨g1,g2,g3⟩,f2,f3,f4⟩:=hf.ext s8.x
  refine SnB.assign (v:=.ref b) (.idxL (by walk_at"r") f4 (by walk_at"r") hic (zA3 i0 hb0)) (by walk_at"r") ?_
  refine SnB.assignQ (Sn.call T.f_need_ahead (by walk_at"r") (λ_ _=>rfl) (SnEs.cons (Rd.to (v:=.ref f) (by walk_at"r") (SnEs.cons (Rd.to (v:=.ref ad) (by walk_at"r") (SnEs.cons (Rd.to (v:=.ref b) (by walk_at"r") (SnEs.cons (Sn.ref T.f_need_behind (by walk_at"r") (λ_ _=>rfl) (vs:=[.ref b,.ref ah]) (by walk_at"r") (j8 T (hb1.ext s8.x) (hb3.ext s8.x) (hb4.ext s8.x) s8.ha (λj hj=>(ka j).mpr (hways j hj)) λc G9 c9 x9 s9=>SnEs.nil ?_))))))))))
  have y9:=s8.x.trans x9
  refine zAU T (hf.ext y9) (y9 _ _ ha) hok (hb1.ext y9) (hb2.ext y9) hBm.wf (hb3.ext y9) hBm.ends s9 λG10 s10 x10=>⟨_,by walk_at"r",?_⟩
  have y10:Ext G8 G10:=x9.fresh c9 x10
  have t10:=s8.ext y10
  obtain⟨o1,o2,o3⟩:=s8.ha.look (k:=i) ((ka i).mpr hiW)
  have hne:=Ne.symm (o3.ne_new c9)
  have o3:=o3.ext y10
  clear y10 x10 y9 x9 c9 s9 s8 x8 i8 s f1 f2 f3 f4 g1 g2 g3 hb1 hb2 hb3 hb4 hb0
  refine SnB.ifs (r:=!Nat.beq (needP sl am B.steps B.fin.args (zL (ahM l) B.ways)) (zb (ahM l) i)) (.cmp (by walk_at"r") (.idxD (by walk_at"r") t10.ha.d (by walk_at"r") o2) (.neM s10 o3 hne)) (λe=>?_) λe=>.nil (.next (.nil (hN (Nat.lt_succ_self k) (.mk t10 ((zE9 hi hB0 e).symm.trans go) ka k2 kw l1 k1 (Nat.le_trans (Nat.le_add_right _ 16) l3)))))
  rw[zGG hi hB0 e] at go
  have hbl:=zB4 (L:=zo Bs) (i:=i.toNat) (by rw[zDY];exact hi1)
  obtain⟨la,la1,la2,la3⟩:=t10.hL.get hbl
  refine SnB.setIdxQ (Rd.to (v:=.ref c) (by walk_at"r") ⟨ah,_,i,by walk_at"r",by walk_at"r",t10.ha.d,zHA (k:=0) l1,λG11 x11 a11=>?_⟩)
  generalize needP sl am B.steps B.fin.args (zL (ahM l) B.ways)=N at *
  rw[zGz l i c N] at a11
  have s11:=t10.putA x11 a11 λe he=>(zEd he).elim (t10.ha.s e) λq=>by rw[q];exact s10
  have la11:=x11.kind t10.ha.d la2
  have hLl:=hL _ (List.mem_of_getElem? hbl)
  obtain⟨k3,k4⟩:=ua (v:=N) ((ka i).mpr hiW)
  obtain⟨k5,_⟩:=ua (l:=l) (v:=(c,N)) (by rw[<-zAs] at ka;exact zJt.mpr ((ka i).mpr hiW))
  have k5:=Nat.le_trans (Nat.le_of_eq k5) l1
  have k4:=λj=>(k4 j).trans (ka j)
  generalize (zo Bs).getD i.toNat []=pl at *
  rw[<-zGy l i c N] at go k4
  generalize st l i (c,N)=l' at *
  have hK:W.length+16<=1900:=Nat.le_trans (Nat.add_le_add_left (Nat.le_add_left 16 (16 * k)) _) l3
  clear t10 x11 a11 s10 la2 hbl k3 ka ki l1 l2 o2 o3 hne hlt e hi hways hB0 hBm y
  refine SnB.forM .int (.idxL (by walk_at"r") s11.hb (by walk_at"r") hic (zA3 i0 la1)) la11 (Na3 (λo=>neL f ad wa bf ah iw (some (.int i)) (some (.int ((a+1:Nat):Int))) (some (.ref b)) (some (.ref c)) o) (λW IW G'=>NaS G wa bf ah iw las (zo Bs) G' W l' IW) W0 la pl (W.length+16) (wake (ahM l')) (pl.foldl (wake (ahM l')) (W,st IW i false))) (.mk s11 rfl k2 kw k1 (Nat.add_le_add_left hLl _) la11) (λr m G' hI=>hI (λ_=>_) λ_ _ _ _ _ _ _ _ _ e=>e) (λj r m G12 QU hI hM hS=>?_) λm G12 hI=>?_
  ·apply hI
   intro o W' IW' s go ki kw l2 l3 hla
   refine⟨_,.name (Upd.put (os':=[some (.ref f),some (.ref ad),some (.ref wa),some (.ref bf),some (.ref ah),some (.ref iw),some (.int i),some (.int ((a+1:Nat):Int)),some (.ref b),some (.ref c),some (.int j),none,none,none,none,none,none]) (by walk_at"r")),?_⟩
   have hin:(lk (ahM l') j).isSome=true->j∈W0:=λq=>(k4 j).mp ((w5 _ _).mp q)
   refine SnB.ifs (r:=(lk (ahM l') j).isSome&&!((lk IW' j).getD false)) (RdT.and (zJ3▸RdT.cmp (by walk_at"r") (by walk_at"r") (.inDict s.ha.d ⟨rfl,rfl⟩)) λq=>RdT.and1 (RdT.not (RdT.val (v:=.bool ((lk IW' j).getD false)) (.idxD (by walk_at"r") s.hi (by walk_at"r") (zHu ki (hin q))) (.bool _)))) (λe=>?_) λe=>.nil (.next (.nil (hM (.mk s (by rw[<-go,List.foldl_cons,zHF e]) ki kw l2 (Nat.le_of_succ_le l3) hla))))
   have q:=hin (Bool.and_eq_true_iff.mp e).1
   refine SnB.setIdxQ (Rd.tru.to ⟨iw,_,j,by walk_at"r",by walk_at"r",s.hi,zEp (k:=0) l2,λG13 x13 i13=>?_⟩)
   rw[zEo] at i13
   have s13:=s.putI x13 i13
   obtain⟨k6,k7⟩:=ua (v:=true) ((ki j).mpr q)
   refine SnB.expr (Sn.meth .append (λ_ _=>rfl) (Rd.to (v:=.ref wa) (by walk_at"r") ⟨.list s13.hw,Rds.to (vs:=[.int j]) (by walk_at"r") (Meth.appN s13.hw (by rw[List.length_map];exact zAC l3 hK) λG14 x14 w14=>?_)⟩))
   exact .nil (.next (.nil (hM (.mk (W:=W'++[j]) (s13.putW x14 (w14.trans (by rw[List.map_append];rfl))) (by rw[<-go,List.foldl_cons,zFb e]) (λz=>(k7 z).trans (ki z)) (λz hz=>(List.mem_append.mp hz).elim (kw z) λhz=>by rw[List.mem_singleton.mp hz];exact q) (Nat.le_trans (Nat.le_of_eq k6) l2) (by rw[List.length_append,List.length_singleton,Nat.add_assoc,Nat.add_comm 1];exact l3) (x14 _ _ (λz=>s13.n2 (z▸la3)) (x13.kind s.hi hla))))))
  ·apply hI
   intro o W' IW' s go' ki kw l2 l3' hla
   have e3:(W',IW')=pl.foldl (wake (ahM l')) (W,st IW i false):=go'
   rw[<-e3] at go
   exact .nil (.next (.nil (hN (Nat.lt_succ_self k) (.mk s go k4 ki kw k5 l2 (zHj l3' l3)))))
 ·rw[zGH (List.getElem?_eq_none (Nat.le_of_not_lt λq=>of_decide_eq_false e (Int.ofNat_lt.mpr q)))] at go
  have go:=Option.some.inj go
  exact SnB.retB (Rd.to (v:=.ref ah) (by walk_at"r") (kk ah l _ s.q2 s.x s.ha go (by rw[<-go];exact ka) (by rw[<-go];unfold ahM;rw[List.length_map];exact l1)))
end
noncomputable section
variable {X:Cx}{n:Nat}{G:Gh}{sc:Scope}{os:List (Option Val)}{m:M}
noncomputable def ExtB (bls:List Addr)(G G':Gh):Prop:=∀x o,x∉bls->G x=some o->G' x=some o
theorem ExtB.refl {bls:List Addr}:ExtB bls G G:=λ_ _ _ e=>e
theorem ExtB.trans {bls:List Addr}{G' G'':Gh}(a:ExtB bls G G')(b:ExtB bls G' G''):ExtB bls G G'':=λx o n e=>b x o n (a x o n e)
theorem Ext.toB {bls:List Addr}{G':Gh}(a:Ext G G'):ExtB bls G G':=λx o _ e=>a x o e
theorem Ext1.toB {bls:List Addr}{G':Gh}{b:Addr}(a:Ext1 b G G')(h:b∈bls):ExtB bls G G':=λx o n e=>a x o (λq=>n (q▸h)) e
noncomputable def GObj.isBlk:GObj->Bool | .inst .block _=>true | _=>false
theorem Zd.mem {i:Int}{bls:List Addr}{Bs:List PB}(h:Zd G i bls Bs):∀b∈bls,∃fs,G b=some (.inst .block fs):=by
 induction h with
 | nil=>exact zD
 | cons a _ _ _ _ ih=>obtain⟨fs,_,h1,_⟩:=a;exact zB ⟨fs,h1⟩ ih
theorem Zd.off {i:Int}{bls:List Addr}{Bs:List PB}(h:Zd G i bls Bs){x:Addr}{o:GObj}(e:G x=some o)(hk:o.isBlk=false):x∉bls:=λq=>by
 obtain⟨fs,e'⟩:=h.mem x q
 rw[e] at e';cases e';cases hk
theorem Zk.extB {G':Gh}{f:Addr}{ps:List Int}{sl:Zg}{bls:List Addr}{i:Int}{Bs:List PB}(h:Zk G f ps sl bls)(hB:Zd G i bls Bs)(x:ExtB bls G G'):Zk G' f ps sl bls:=by
 obtain⟨fs,p,s,b,h1,h2,h3,h4,h5⟩:=h
 exact⟨fs,p,s,b,x _ _ (hB.off h1 rfl) h1,h2,x _ _ (hB.off h3 rfl) h3,x _ _ (hB.off h4 rfl) h4,x _ _ (hB.off h5 rfl) h5⟩
theorem Zh.keep {G':Gh}{a:Addr}{p:PS}(h:Zh G a p)(x:∀z o,o.isBlk=false->G z=some o->G' z=some o):Zh G' a p:=by
 obtain⟨⟨fs,la,h1,h2,h3⟩,o⟩:=h
 exact⟨⟨fs,la,x _ _ rfl h1,h2,x _ _ rfl h3⟩,o⟩
theorem Zv.keep {G':Gh}{p:PS}{js:List Int}(h:Zv G p js)(x:∀z o,o.isBlk=false->G z=some o->G' z=some o):Zv G' p js:=by
 cases h with
 | jump h e=>exact .jump h e
 | branch h e=>exact .branch h e
 | table h e hl hj=>exact .table h e (x _ _ rfl hl) hj
 | other a b c=>exact .other a b c
theorem Ext1.nb {G':Gh}{b:Addr}{fs:Fld->Option Val}(x:Ext1 b G G')(e:G b=some (.inst .block fs)):∀z o,o.isBlk=false->G z=some o->G' z=some o:=λz o h e'=>x _ _ (λq=>by rw[q,e] at e';cases e';cases h) e'
noncomputable def wv (sl:Zg)(am:Za)(AH:List (Int×Nat))(B:PB):List (PS×Bool):=jn sl am B.steps B.fin.args (zL AH B.ways)
noncomputable def chgB (kq:List (PS×Bool))(B:PB):Bool:=Nat.blt kq.length B.steps.length||kq.any (·.2)
noncomputable def withSt (B:PB)(ss:List PS):PB:=⟨ss,B.fin,B.ways⟩
noncomputable def swB (sl:Zg)(am:Za)(AH:List (Int×Nat))(B:PB):PB:=if chgB (wv sl am AH B) B then withSt B ((wv sl am AH B).map (·.1)) else B
noncomputable def zS (F:PB->PB)(p:Int->Bool):Int->List PB->List PB
 | _,[]=>[]
 | i,B::Bs=>(if p i then F B else B)::zS F p (i+1) Bs
noncomputable def zn (c:PB->Bool)(p:Int->Bool):Int->List PB->Bool
 | _,[]=>false
 | i,B::Bs=>(p i&&c B)||zn c p (i+1) Bs
noncomputable def orp (p:Int->Bool)(j:Int):Int->Bool:=λi=>p i||decide (i=j)
theorem zB3 {i:Int}{k:Nat}:i+((k+1:Nat):Int)=i+1+(k:Int):=by rw[Int.add_assoc,Int.add_comm 1];rfl
theorem zIs {i z:Int}(h:i+1<=z):z≠i:=λq=>Int.lt_irrefl i (q▸h:i+1<=i)
theorem zGt {i j:Int}{k:Nat}(h:j=i+((k+1:Nat):Int)):i≠j:=by lia
theorem zCm {p:Int->Bool}{z j:Int}(h:z≠j):orp p j z=p z:=by unfold orp;rw[decide_eq_false h,Bool.or_false]
theorem zGr {p:Int->Bool}{j:Int}:orp p j j=true:=by unfold orp;rw[decide_eq_true rfl,Bool.or_true]
theorem jW {F:PB->PB}{p:Int->Bool}{Bs:List PB}:∀{i:Int} {k:Nat} {B:PB},Bs[k]?=some B->(zS F p i Bs)[k]?=some (if p (i+k) then F B else B):=by
 induction Bs with
 | nil=>intro i k B e;cases e
 | cons C Bs ih=>
  intro i k B e
  cases k with
  | zero=>cases e;exact congrArg (λz=>some (if p z then F C else C)) (Int.add_zero i).symm
  | succ k=>exact(ih (i:=i+1) e).trans (congrArg (λz=>some (if p z then F B else B)) zB3.symm)
theorem jG {F:PB->PB}{p q:Int->Bool}{Bs:List PB}:∀{i:Int},(∀j,i<=j->p j=q j)->zS F p i Bs=zS F q i Bs:=by
 induction Bs with
 | nil=>exact λ_=>rfl
 | cons B Bs ih=>intro i h;show _::_=_::_;rw[h i (Int.le_refl i),ih λj hj=>h j (Int.le_of_lt hj)]
theorem jU {c:PB->Bool}{p q:Int->Bool}{Bs:List PB}:∀{i:Int},(∀j,i<=j->p j=q j)->zn c p i Bs=zn c q i Bs:=by
 induction Bs with
 | nil=>exact λ_=>rfl
 | cons B Bs ih=>intro i h;show (_||_)=(_||_);rw[h i (Int.le_refl i),ih λj hj=>h j (Int.le_of_lt hj)]
theorem zJl:∀a b r:Bool,(true&&b||r)=(a&&b||r||b):=by decide
theorem zBd {c:PB->Bool}{p:Int->Bool}{j:Int}{Bs:List PB}:∀{i:Int} {k:Nat} {B:PB},Bs[k]?=some B->j=i+k->zn c (orp p j) i Bs=(zn c p i Bs||c B):=by
 induction Bs with
 | nil=>intro i k B e;cases e
 | cons C Bs ih=>
  intro i k B e hj
  cases k with
  | zero=>
   cases e
   obtain rfl:j=i:=hj.trans (Int.add_zero i)
   show (orp p j j&&c C||zn c (orp p j) (j+1) Bs)=(p j&&c C||zn c p (j+1) Bs||c C)
   rw[jU (p:=orp p j) (q:=p) λz hz=>zCm (zIs hz),zGr]
   exact zJl ..
  | succ k=>
   show (orp p j i&&c C||zn c (orp p j) (i+1) Bs)=(p i&&c C||zn c p (i+1) Bs||c B)
   rw[ih (i:=i+1) e (hj.trans zB3),zCm (zGt hj),Bool.or_assoc]
theorem Zb.off {G':Gh}{b:Addr}{fb:Fld->Option Val}(x:Ext1 b G G')(eb:G b=some (.inst .block fb)){as:List Addr}{ps:List PS}(h:Zb G as ps):Zb G' as ps:=h.map λ_ _ s=>s.keep (x.nb eb)
theorem Zo.off {G':Gh}{b b':Addr}{fb:Fld->Option Val}{i:Int}{sts:List Addr}{eo:Addr}(x:Ext1 b G G')(eb:G b=some (.inst .block fb))(ne:b'≠b)(h:Zo G b' i sts eo):Zo G' b' i sts eo:=by
 obtain⟨fs,st,a1,a2,a3⟩:=h
 exact⟨fs,st,x _ _ ne a1,a2,x.nb eb _ _ rfl a3⟩
theorem Zd.off1 {G':Gh}{b:Addr}{fb:Fld->Option Val}{n:Int}{bs:List Addr}{Cs:List PB}(x:Ext1 b G G')(eb:G b=some (.inst .block fb))(hb:b∉bs)(h:Zd G n bs Cs):Zd G' n bs Cs:=by
 induction h with
 | nil=>exact .nil
 | cons a c d e' _ ih=>exact .cons (a.off x eb (Ne.symm (zE6 hb))) (c.off x eb) (d.keep (x.nb eb)) (e'.keep (x.nb eb)) (ih (vE hb))
theorem Zd.one {G':Gh}{F:PB->PB}{p:Int->Bool}{b:Addr}{fb:Fld->Option Val}{j:Int}(x:Ext1 b G G')(eb:G b=some (.inst .block fb)){Bs:List PB}:∀{bs:List Addr} {i:Int} {k:Nat},Zd G i bs (zS F p i Bs)->bs[k]?=some b->bs.Nodup->j=i+k ->
  (∀B,Bs[k]?=some B->Ym G' b j (F B))->Zd G' i bs (zS F (orp p j) i Bs):=by
 induction Bs with
 | nil=>intro bs i k h e;cases h;cases e
 | cons B Bs ih=>
  intro bs i k h e nd hj hn
  cases h with | @cons _ b' eo sts bs _ _ h1 h2 h3 h4 h5=>
  obtain⟨nd1,nd2⟩:=List.nodup_cons.mp nd
  show Zd G' i (b'::bs) ((if orp p j i then F B else B)::zS F (orp p j) (i+1) Bs)
  cases k with
  | zero=>
   obtain rfl:b'=b:=Option.some.inj e
   obtain rfl:j=i:=hj.trans (Int.add_zero i)
   obtain⟨st',eo',n1,n2,n3,n4⟩:=hn B rfl
   rw[zGr,if_pos rfl,jG (p:=orp p j) (q:=p) λz hz=>zCm (zIs hz)]
   exact .cons n1 n2 n3 n4 (h5.off1 x eb nd1)
  | succ k=>
   have ne:b'≠b:=λq=>nd1 (q▸List.mem_of_getElem? (show bs[k]?=some b from e))
   rw[zCm (zGt hj)]
   exact .cons (h1.off x eb ne) (h2.off x eb) (h3.keep (x.nb eb)) (h4.keep (x.nb eb)) (ih h5 e nd2 (hj.trans zB3) hn)
theorem RelK.chg {sts ks:List Addr}{kq:List (PS×Bool)}(h:RelK G sts ks kq):(∀a∈sts,(G a).isSome=true)->ks.length=kq.length/\ks.length<=sts.length/\(ks.length=sts.length->((ks.zip sts).any λp=>!decide (p.1=p.2))=kq.any (·.2)):=by
 induction h with
 | nil=>exact λ_=>⟨rfl,Nat.le_refl _,λ_=>rfl⟩
 | skip _ ih=>
  intro ha
  obtain⟨h1,h2,_⟩:=ih (zH ha)
  exact⟨h1,Nat.le_succ_of_le h2,λq=>by rw[List.length_cons] at q;lia⟩
 | same _ ih=>
  intro ha
  obtain⟨h1,h2,h3⟩:=ih (zH ha)
  refine⟨congrArg (· + 1) h1,Nat.succ_le_succ h2,λq=>?_⟩
  rw[List.zip_cons_cons,List.any_cons,List.any_cons,h3 (Nat.succ.inj q),decide_eq_true rfl];rfl
 | @new a c as ks p qs hc _ ih=>
  intro ha
  obtain⟨h1,h2,h3⟩:=ih (zH ha)
  refine⟨congrArg (· + 1) h1,Nat.succ_le_succ h2,λq=>?_⟩
  have:=ha _ (.head _)
  rw[List.zip_cons_cons,List.any_cons,List.any_cons,decide_eq_false (λq:c=a=>by rw[<-q,hc] at this;cases this)];rfl
theorem Zb.some {as:List Addr}{ps:List PS}(h:Zb G as ps):∀a∈as,(G a).isSome=true:=by
 induction h with
 | nil=>exact zD
 | cons a _ ih=>obtain⟨⟨fs,la,h1,_⟩,_⟩:=a;exact zB (by rw[h1];rfl) ih
theorem KsAt.steps {G0:Gh}{h:Addr}{k:Nat}{as:List Addr}{qs:List (PS×Bool)}(q:KsAt G0 G as qs)(hs:Zf G0 h k)(x:Ext1 h G0 G):Zb G as (qs.map (·.1)):=by
 induction q with
 | nil=>exact .nil
 | cons a _ ih=>obtain⟨⟨fs,la,h1,h2,h3⟩,o⟩:=a;exact .cons ⟨⟨fs,la,h1,h2,hs.kind x h3⟩,o⟩ ih
theorem SnB.setAN {Q:QS}{o e:Expr}{attr:Str}{f:Fld}{p pos:Pos}{sts:List Stmt}{c:Cls}{fs:Fld->Option Val}{a:Addr}{v:Val}(hc:Z5 X)(ha:Zs attr f)(h:Rd X n sc e m G v)(ho:Rd X n sc o m G (.ref a))(e1:G a=some (.inst c fs))
  (k:∀G',Ext1 a G G'->G' a=some (.inst c (fput fs f v))->SnB X n sc sts m G' Q) (hsw:∀env,swapsWith e (some (.Attribute o attr p)) pos.line env=pure false:=by intro _;rfl):SnB X n sc (.Assign [.Attribute o attr p] e pos::sts) m G Q:=
 .cons (.setAttr hc f ha.eq (h.to (ho.to ⟨a,c,fs,rfl,e1,.next (k _ .upd (Gh.upd_same ..))⟩)) hsw)
end
noncomputable section
variable {X:Cx}{n:Nat}{G:Gh}{sc:Scope}{os:List (Option Val)}{m:M}
noncomputable abbrev spL (f ad ah:Addr)(c:Bool)(i b k:Option Val):M:=L wo [some (.ref f),some (.ref ad),some (.ref ah),some (.bool c),i,b,k,none,none,none,none,none,none,none]
structure Sw1 (G0:Gh)(bls:List Addr)(F:PB->PB)(C:PB->Bool)(Bs:List PB)(ah la:Addr)(l:AhL)(rs:List Val)(K:List Int)(p:Int->Bool)(c:Bool)(r:List Int)(G:Gh):Prop where
 x:ExtB bls G0 G
 hB:Zd G 0 bls (zS F p 0 Bs)
 ha:AhAt G ah l
 hl:G la=some (.list rs)
 hc:c=zn C p 0 Bs
 nd:r.Nodup
 dj:∀j∈r,p j=false
 me:∀j,j∈K↔j∈r\/p j=true
theorem um {F:PB->PB}{Bs:List PB}:∀{i:Int},zS F (λ_=>false) i Bs=Bs:=by
 induction Bs with
 | nil=>exact rfl
 | cons B Bs ih=>exact congrArg (B::·) ih
theorem vQ {C:PB->Bool}{Bs:List PB}:∀{i:Int},zn C (λ_=>false) i Bs=false:=by
 induction Bs with
 | nil=>exact rfl
 | cons B Bs ih=>exact ih
theorem AhAt.extB {G':Gh}{d i:_}{l:AhL}{bls:List Addr}{Bs:List PB}(h:AhAt G d l)(hB:Zd G i bls Bs)(x:ExtB bls G G'):AhAt G' d l:=
 h.keep (x _ _ (hB.off h.d rfl) h.d) λa k s=>by obtain⟨f,s⟩:=s;exact⟨f,x _ _ (hB.off s rfl) s⟩
noncomputable def Sw2I (G0:Gh)(f ad:Addr)(bls:List Addr)(F:PB->PB)(C:PB->Bool)(Bs:List PB)(ah la:Addr)(l:AhL)(rs:List Val)(K:List Int)(r:List Int)(m:M)(G:Gh):Prop:=
 ∀D:M->Prop,(∀(p:Int->Bool) (c:Bool) (i b k:Option Val),Sw1 G0 bls F C Bs ah la l rs K p c r G->D (spL f ad ah c i b k))->D m
theorem Sw2I.mk {G0:Gh}{f ad:Addr}{bls:List Addr}{F:PB->PB}{C:PB->Bool}{Bs:List PB}{ah la:Addr}{l:AhL}{rs:List Val}{K r:List Int}{p:Int->Bool}{c:Bool}{i b k:Option Val}(h:Sw1 G0 bls F C Bs ah la l rs K p c r G):Sw2I G0 f ad bls F C Bs ah la l rs K r (spL f ad ah c i b k) G:=λ_ q=>q p c i b k h
theorem Sw1.step {G0 G':Gh}{bls:List Addr}{F:PB->PB}{C:PB->Bool}{Bs:List PB}{ah la:Addr}{l:AhL}{rs:List Val}{K r:List Int}{p:Int->Bool}{c c':Bool}{j:Int}{B:PB}(h:Sw1 G0 bls F C Bs ah la l rs K p c (j::r) G)(j0:0<=j)(hB0:Bs[j.toNat]?=some B)(x:ExtB bls G G')(hB:Zd G' 0 bls (zS F (orp p j) 0 Bs))(ec:c'=(c||C B)):Sw1 G0 bls F C Bs ah la l rs K (orp p j) c' r G':=by
 obtain⟨nj,nd⟩:=List.nodup_cons.mp h.nd
 refine⟨h.x.trans x,hB,h.ha.extB h.hB x,x _ _ (h.hB.off h.hl rfl) h.hl,by rw[ec,h.hc,zBd (j:=j) (i:=0) hB0 (by rw[Int.toNat_of_nonneg j0,Int.zero_add])],nd,λz hz=>?_,λz=>?_⟩
 ·show (p z||decide (z=j))=false
  rw[h.dj z (.tail _ hz),decide_eq_false (λq:z=j=>nj (q▸hz))];rfl
 ·rw[h.me z,List.mem_cons]
  show _↔z∈r\/(p z||decide (z=j))=true
  rw[Bool.or_eq_true,decide_eq_true_iff]
  exact⟨λq=>q.elim (λq=>q.elim (λq=>.inr (.inr q)) .inl) λq=>.inr (.inl q),λq=>q.elim (λq=>.inl (.inr q)) λq=>q.elim .inr λq=>.inl (.inl q)⟩
theorem zIL {ks sts:List Addr}{S:List (PS×Bool)}{ps:List PS}(z1:ks.length=S.length)(hsl:sts.length=ps.length)(z3:ks.length=sts.length->((ks.zip sts).any λp=>!decide (p.1=p.2))=S.any (·.2))(le:ks.length<=sts.length):(decide (((ks.map Val.ref).length:Int)<((sts.map Val.ref).length:Int))||((ks.zip sts).any λp=>!decide (p.1=p.2)))=(Nat.blt S.length ps.length||S.any (·.2)):=by
 rw[List.length_map,List.length_map,zFP,<-z1,<-hsl]
 rcases Nat.lt_or_eq_of_le le with q | q
 ·rw[show Nat.blt ks.length sts.length=true from Nat.ble_eq_true_of_le q];rfl
 ·rw[z3 q]
theorem vY {f ad:Addr}{pr:List Int}{sl:Zg}{bls:List Addr}{am:Za}{Bs:List PB}{W0:List Int}{AH:List (Int×Nat)}{Q:QE}(T:Tops X)(hf:Zk G f pr sl bls)(ha:G ad=some (.dict (adE am)))(hok:AdOK am sl)
  (hB:Zd G 0 bls Bs) (hnd:bls.Nodup) (ok:FnOK Bs) (hpo:zDZ Bs=some W0) (hW:PoOK Bs W0) (hL:∀l∈zo Bs,l.length<=16) (hgo:naGo sl am Bs (zo Bs) 100 W0 0 (AH0 W0) (IW0 W0)=some AH)
  (kk:∀G',ExtB bls G G'->Zd G' 0 bls (zS (swB sl am AH) (λi=>(lk AH i).isSome) 0 Bs)->Q (.bool (zn (λB=>chgB (wv sl am AH B) B) (λi=>(lk AH i).isSome) 0 Bs)) G'):Cal X (n+6) zw [.ref f,.ref ad] G Q:=by
 refine' Cal.start (os:=?os) T.d_sweep_steps ?q ?b;case q=>walk_at"r"
 case b=>
 refine SnB.assignQ (Sn.ref T.f_needs_ahead (by walk_at"r") (λ_ _=>rfl) (vs:=[.ref f,.ref ad]) (by walk_at"r") (vZ T hf ha hok hB ok hpo hW hL hgo λah l G1 h1 x1 a1 hl hAH hAl=>⟨_,by walk_at"r",?_⟩))
 subst hl
 refine SnB.assign (v:=.bool false) .tru (by walk_at"r") ?_
 have hkeys:∀j,(zq (ahE l) j).isSome=true↔j∈W0:=λj=>by rw[zAd,w5,zAs];exact hAH j
 refine SnB.forQ (Sn.fn (id:="sorted") T.blt (by decide) (by decide) (by walk_at"r") (λ_ _=>rfl) (Rds.to (vs:=[.ref ah]) (by walk_at"r") (Blt.sorted a1.d (by unfold ahE;unfold ahM at hAl;rw[List.length_map] at hAl ⊢;exact Nat.lt_of_le_of_lt hAl (by decide)) λks hk1 hk2 la hla=>?_)))
 have x2:=Ext.new (o:=.list (ks.map .int)) hla
 refine .mapM (f:=.int) (Gh.upd_same ..) rfl (Sw2I G f ad bls (swB sl am (ahM l)) (λB=>chgB (wv sl am (ahM l) B) B) Bs ah la l (ks.map .int) W0)
  (.mk (p:=λ_=>false) ⟨(x1.trans x2).toB,by rw[um];exact hB.ext (x1.trans x2),a1.ext x2,Gh.upd_same ..,vQ.symm,hk1.imp λh=>Int.ne_of_lt h,λ_ _=>rfl,λj=>by rw[hk2,hkeys];exact⟨.inl,λq=>q.elim id λq=>nomatch q⟩⟩) (λr m G' hI=>hI (λ_=>_) λ_ _ _ _ _ h=>h.hl) (λj r m G3 QT hI hN hR=>?_) λm G3 hI=>?_
 ·apply hI
  intro p c i b' k h
  have pj:=h.dj j (.head _)
  obtain⟨j0,B,hB0,hways⟩:=hW.2 j ((h.me j).mpr (.inl (.head _)))
  have hBm:=ok.blks B (List.mem_of_getElem? hB0)
  have jj:((j.toNat:Nat):Int)=j:=Int.toNat_of_nonneg j0
  have hcur:=jW (F:=swB sl am (ahM l)) (p:=p) (i:=0) hB0
  rw[jj,Int.zero_add,pj] at hcur
  obtain⟨b,hb0,⟨sts,eo,hb1,hb2,hb3,hb4⟩⟩:=h.hB.get hcur
  rw[jj,Int.zero_add] at hb1
  have hb2:Zb G3 sts B.steps:=hb2
  have hb3:Zh G3 eo B.fin:=hb3
  have hb4:Zv G3 B.fin B.ways:=hb4
  have hbm:=List.mem_of_getElem? hb0
  have hf3:=hf.extB hB h.x
  have ha3:=h.x _ _ (hB.off ha rfl) ha
  obtain⟨ff,fp,fl,fb,f1,⟨g1,g2,g3⟩,f2,f3,f4⟩:=id hf3
  have hsl:=hb2.length
  have hlen:sts.length<1000:=by rw[hsl];exact Nat.lt_of_le_of_lt hBm.len (by decide)
  have hcp:sts.length<cap:=Nat.lt_trans hlen (by decide)
  have next:∀(c':Bool) (k':Option Val) (G5 G6:Gh) (fb:Fld->Option Val),Ext G3 G5->G5 b=some (.inst .block fb)->Ext1 b G5 G6->c'=(c||chgB (wv sl am (ahM l) B) B)->Ym G6 b j (swB sl am (ahM l) B)->QT .next (spL f ad ah c' (some (.int j)) (some (.ref b)) k') G6:=λc' k' G5 G6 fb x35 e1 x6 ec hbk=>hN (.mk (h.step j0 hB0 (x35.toB.trans (x6.toB hbm)) ((h.hB.ext x35).one x6 e1 hb0 hnd (by rw[jj,Int.zero_add]) (λB' q=>by rw[hB0] at q;cases q;exact hbk)) ec))
  refine⟨_,.name (Upd.put (os':=[some (.ref f),some (.ref ad),some (.ref ah),some (.bool c),some (.int j),_,k,none,none,none,none,none,none,none]) (by walk_at"r")),SnB.assign (v:=.ref b) (.idxL (by walk_at"r") f4 (by walk_at"r") (zp j0 (Nat.lt_of_lt_of_le (List.getElem?_eq_some_iff.mp hB0).1 (Nat.le_trans ok.few (by decide)))) (zA3 j0 hb0)) (by walk_at"r") ?_⟩
  refine SnB.assignQ (Sn.call T.f_swept_steps (by walk_at"r") (λ_ _=>rfl) (SnEs.cons (Rd.to (v:=.ref f) (by walk_at"r") (SnEs.cons (Rd.to (v:=.ref ad) (by walk_at"r") (SnEs.cons (Rd.to (v:=.ref b) (by walk_at"r") (SnEs.cons (Sn.ref T.f_need_behind (by walk_at"r") (λ_ _=>rfl) (vs:=[.ref b,.ref ah]) (by walk_at"r") (j8 T hb1 hb3 hb4 h.ha (λj hj=>(hAH j).mpr (hways j hj)) λhh G4 c4 x4 s4=>SnEs.nil ?_))))))))))
  clear f1 f2 f3 f4 g1 g2 g3 hcur pj hways hb0 h hI
  refine vX T (hf3.ext x4) (x4 _ _ ha3) hok (hb1.ext x4) (hb2.ext x4) hBm.wf hlen (hb3.ext x4) hBm.ends s4 λc5 ks5 G5 n5 x5 l5 r5 k5 len5=>⟨_,by walk_at"r",?_⟩
  have x35:Ext G3 G5:=x4.fresh c4 x5
  obtain⟨fbb,stl,e1,⟨b1,b2,b3⟩,e3⟩:=id (hb1.ext x35)
  obtain⟨z1,z2,z3⟩:=r5.chg (hb2.ext x4).some
  have hk5:=k5.steps s4 x5
  have hC:_=chgB (wv sl am (ahM l) B) B:=zIL z1 hsl z3 len5
  have next:=λc' k' G6=>next c' k' G5 G6 _ x35 e1
  have hb3:=hb3.ext x35
  have hb4:=hb4.ext x35
  have hb2:=hb2.ext x35
  clear x4 s4 c4 x5 n5 r5 k5 hb1 z1 z2 z3 x35 hf3 ha3
  refine SnB.ifs (r:=chgB (wv sl am (ahM l) B) B) (hC▸RdT.or (RdT.cmp (.fn (id:="len") T.blt (by decide) (by decide) (by walk_at"r") (λ_ _=>rfl) (vs:=[.ref c5]) (by walk_at"r") (Blt.lenL l5 (by rw[List.length_map];exact Nat.lt_of_le_of_lt len5 hcp) ⟨rfl,rfl⟩)) (.fn (id:="len") T.blt (by decide) (by decide) (by walk_at"r") (λ_ _=>rfl) (vs:=[.ref stl]) (by walk_at"r") (Blt.lenL e3 (by rw[List.length_map];exact hcp) ⟨rfl,rfl⟩)) (.lt ⟨rfl,rfl⟩)) λ_=>RdT.or1 (RdT.val (Sn.anyNew T.blt (by walk_at"r") (by walk_at"r") (λ_ _=>rfl) (by decide +kernel) (by decide +kernel) (by decide +kernel) (by decide +kernel) (by decide +kernel) (Rds.to (vs:=[.ref c5,.ref stl]) (by walk_at"r") ⟨c5,stl,ks5,sts,rfl,l5,e3,Nat.lt_of_le_of_lt len5 hcp,hcp,hk5.some,hb2.some,rfl,rfl⟩)) (.bool _))) (λe=>?_) λe=>.nil (.next (.nil (next c _ G5 .refl (by rw[e,Bool.or_false]) ?_)))
  ·refine SnB.setAN (f:=.steps) T.cls (by walk_at"r") (v:=.ref c5) (by walk_at"r") (by walk_at"r") e1 λG6 x6 e6=>SnB.assign (v:=.bool true) .tru (by walk_at"r") (.nil (.next (.nil (next true _ G6 x6 (by rw[e,Bool.or_true]) ?_))))
   have kp:=x6.nb e1
   rw[show swB sl am (ahM l) B=withSt B ((wv sl am (ahM l) B).map (·.1)) from if_pos e]
   exact⟨ks5,eo,⟨_,c5,e6,⟨b1,rfl,b3⟩,kp _ _ rfl l5⟩,hk5.map λ_ _ s=>s.keep kp,hb3.keep kp,hb4.keep kp⟩
  ·rw[show swB sl am (ahM l) B=B from if_neg (by rw[e];decide)]
   exact⟨sts,eo,⟨fbb,stl,e1,⟨b1,b2,b3⟩,e3⟩,hb2,hb3,hb4⟩
 ·apply hI
  intro p c i b' k h
  have hp:∀j:Int,p j=(lk (ahM l) j).isSome:=λj=>by
   rw[Bool.eq_iff_iff,w5]
   refine Iff.trans ?_ (hAH j).symm
   rw[h.me j]
   exact⟨.inr,λq=>q.elim (λq=>nomatch q) id⟩
  refine SnB.retB (Rd.to (v:=.bool c) (by walk_at"r") ?_)
  rw[h.hc,jU λj _=>hp j]
  have hB3:=h.hB
  rw[jG λj _=>hp j] at hB3
  exact kk G3 h.x hB3
end
noncomputable section
variable {X:Cx}{n:Nat}{G:Gh}{sc:Scope}{os:List (Option Val)}{m:M}
section
variable {α:Type}
noncomputable def FbO (sc:Scope)(F:α->Option Val->Option Val->List (Option Val))(G:Gh)(Bs:List PB)(JB:List PB->Gh->Prop)(bs:List Addr)(m:M)(G':Gh):Prop:=
 ∀C:M->Prop,(∀(i:Int) (Cs:List PB) (z:α) (x y:Option Val),Zd G i bs Cs->(∀B∈Cs,B∈Bs)->JB Cs G'->C (L sc (F z x y)))->C m
noncomputable def FbI (sc:Scope)(F:α->Option Val->Option Val->List (Option Val))(G:Gh)(B:PB)(x:Option Val)(J:List PS->Gh->Prop)(ss:List Addr)(m:M)(G':Gh):Prop:=
 ∀C:M->Prop,(∀(ps:List PS) (z:α) (y:Option Val),Zb G ss ps->(∀p∈ps,p∈B.steps)->J ps G'->C (L sc (F z x y)))->C m
theorem SnB.forBlocks {Q:QS}{body tl sts:List Stmt}{p1 p2 p3 p4 p5 p6 p7 p8:Pos}{f:Addr}{pr:List Int}{sl:Zg}{bls:List Addr}{Bs:List PB}{G1:Gh}{z0:α}{x0 y0:Option Val}(hc:Z5 X)(F:α->Option Val->Option Val->List (Option Val))
  (ub:∀z x y v,Upd false sc.names (F z x y) "block" v (F z (some v) y)) (us:∀z x y v,Upd false sc.names (F z x y) "step" v (F z x (some v))) (lb:∀z v y,Loc sc.names (F z (some v) y) "block" v) (lf:∀z x y,Loc sc.names (F z x y) "func" (.ref f))
  (hf:Zk G f pr sl bls) (hB:Zd G 0 bls Bs) (JB:List PB->Gh->Prop) (JS:PB->List PB->List PS->Gh->Prop) (h0:JB Bs G1) (kb:∀Cs G',JB Cs G'->Ext G G') (ks:∀B Cs r G',JS B Cs r G'->Ext G G')
  (start:∀B Cs G',JB (B::Cs) G'->JS B Cs B.steps G')
  (turn:∀B Cs p r z x a G' (QT:QS),B∈Bs->p∈B.steps->Zh G a p->JS B Cs (p::r) G'->(∀{z y G2},JS B Cs r G2->QT .next (L sc (F z x y)) G2/\QT .cont (L sc (F z x y)) G2)->SnB X n sc body (L sc (F z x (some (.ref a)))) G' QT)
  (tail:∀B Cs z y b fb eo G' (QT:QS),B∈Bs->G b=some (.inst .block fb)->fb .end_=some (.ref eo)->Zh G eo B.fin->JS B Cs [] G'->(∀{z x y G2},JB Cs G2->QT .next (L sc (F z x y)) G2)->SnB X n sc tl (L sc (F z (some (.ref b)) y)) G' QT)
  (k:∀z x y G',JB [] G'->SnB X n sc sts (L sc (F z x y)) G' Q) :
  SnB X n sc (.For (.Name "block" p1) (.Attribute (.Name "func" p2) "blocks" p3) (.For (.Name "step" p4) (.Attribute (.Name "block" p5) "steps" p6) body [] p7::tl) [] p8::sts) (L sc (F z0 x0 y0)) G1 Q:=by
 obtain⟨ff,fp,fl,fb,f1,⟨g1,g2,g3⟩,f2,f3,f4⟩:=hf
 refine SnB.forC .ref (.attr hc .blocks (.var (lf _ _ _)) (kb _ _ h0 _ _ f1) g3) (kb _ _ h0 _ _ f4) (FbO sc F G Bs JB) (λ_ k=>k 0 Bs z0 x0 y0 hB (λ_ h=>h) h0) (λr m G' hI=>hI (λ_=>_) λ_ _ _ _ _ _ _ hJ=>kb _ _ hJ _ _ f4) (λb bs m G' QT hI kN _=>?_) λm G' hI=>?_
 ·clear h0 hB f1 f4 k
  apply hI
  intro i Cs z x y hb hm hJ
  revert hm hJ
  apply hb.uc
  intro eo as B Cs a1 a2 a3 _ a5 hm hJ
  obtain⟨fs,st,b1,⟨b2,b3,b4⟩,b5⟩:=a1
  have hJ':=start _ _ _ hJ
  have hm':=hm B (.head _)
  have hm:=λC h=>hm C (.tail _ h)
  clear start hJ hI hb
  refine⟨_,.name (Upd.put (ub z x y _)),?_⟩
  refine SnB.forC .ref (.attr hc .steps (.var (lb _ _ _)) (ks _ _ _ _ hJ' _ _ b1) b3) (ks _ _ _ _ hJ' _ _ b5) (FbI sc F G B (some (.ref b)) (JS B Cs)) (λ_ k=>k B.steps z y a2 (λ_ h=>h) hJ') (λr m G2 hI=>hI (λ_=>_) λ_ _ _ _ _ hJ=>ks _ _ _ _ hJ _ _ b5) (λa ss m G2 QU hI k1 _=>?_) λm G2 hI=>?_
  ·apply hI
   intro ps z y hs hp hJ2
   revert hp hJ2
   apply hs.uc
   intro p ps s1 s2 hp hJ2
   exact⟨_,.name (Upd.put (us z _ y _)),turn B Cs p ps z _ a G2 QU hm' (hp _ (.head _)) s1 hJ2 λ{z y G3} h=>k1 λ_ k=>k ps z y s2 (λp h=>hp p (.tail _ h)) h⟩
  ·apply hI
   intro ps z y hs _ hJ2
   cases hs.un
   exact tail B Cs z y b fs eo G2 QT hm' b1 b4 a3 hJ2 λ{z x y G3} h=>(kN λ_ k=>k _ Cs z x y a5 hm h).1
 ·apply hI
  intro i Cs z x y hb _ hJ
  cases hb.un
  exact k z x y G' hJ
end
end
noncomputable section
variable {X:Cx}{n:Nat}{G:Gh}{sc:Scope}{os:List (Option Val)}{m:M}
noncomputable def z5 (Bs:List PB):List PS:=Bs.flatMap (·.steps)
noncomputable def zi (ss:List PS):List PS:=ss.filter λp=>Nat.beq p.op 9
theorem zEF {p:PS}{r:List PS}(h:Nat.beq p.op 9=true):zi (p::r)=p::zi r:=List.filter_cons_of_pos (p:=λp:PS=>Nat.beq p.op 9) h
theorem zEG {p:PS}{r:List PS}(h:Nat.beq p.op 9=false):zi (p::r)=zi r:=List.filter_cons_of_neg (p:=λp:PS=>Nat.beq p.op 9) (by rw[h];decide)
theorem uQ (B:PB)(Bs:List PB):z5 (B::Bs)=B.steps++z5 Bs:=List.flatMap_cons ..
theorem Zb.snoc {as:List Addr}{ps:List PS}{a:Addr}{p:PS}(h:Zb G as ps)(s:Zh G a p):Zb G (as++[a]) (ps++[p]):=h.append (.cons s .nil)
noncomputable def SlJ (G0 Gs:Gh)(fo:Addr)(goal:List PS)(r:List PS)(G:Gh):Prop:=
 ∀C:Prop,(∀(as:List Addr) (ps:List PS),Ext G0 G->Ext Gs G->G fo=some (.list (as.map .ref))->Zb G0 as ps->ps++zi r=goal->as.length+r.length<=900->C)->C
theorem SlJ.mk {G0 Gs:Gh}{fo:Addr}{goal r:List PS}{as:List Addr}{ps:List PS}(x:Ext G0 G)(y:Ext Gs G)(hl:G fo=some (.list (as.map .ref)))(hs:Zb G0 as ps)(hg:ps++zi r=goal)(hc:as.length+r.length<=900):SlJ G0 Gs fo goal r G:=λ_ k=>k as ps x y hl hs hg hc
theorem SlJ.x {G0 Gs:Gh}{fo:Addr}{goal r:List PS}(h:SlJ G0 Gs fo goal r G):Ext G0 G:=h _ λ_ _ x _ _ _ _ _=>x
theorem zA0 {α:Type}{l:List α}{a:α}{b k:Nat}(h:l.length+(b+1)<=k):(l++[a]).length+b<=k:=by rw[List.length_append];exact zHS h
theorem zAT {G0:Gh}{f:Addr}{pr:List Int}{sl:Zg}{bls:List Addr}{Bs:List PB}{Q:QE}(T:Tops X)(hf:Zk G0 f pr sl bls)(hB:Zd G0 0 bls Bs)(x0:Ext G0 G)(ht:(z5 Bs).length<=900)
  (kk:∀c as G',G c=none->Ext G G'->G' c=some (.list (as.map .ref))->Zb G0 as (zi (z5 Bs))->as.length<=900->Q (.ref c) G'):Cal X (n+1) wQ [.ref f] G Q:=by
 refine' Cal.start (os:=?os) T.d_slot_steps ?q ?b;case q=>walk_at"r"
 case b=>
 refine SnB.assignQ (Sn.listN .nil λfo G1 h1 x1 l1=>⟨_,by walk_at"r",?_⟩)
 refine SnB.forBlocks (α:=Unit) (z0:=()) T.cls (λ_ x y=>[some (.ref f),some (.ref fo),x,y]) (λ_ _ _ _=>by walk_at"r") (λ_ _ _ _=>by walk_at"r") (λ_ _ _=>by walk_at"r") (λ_ _ _=>by walk_at"r") hf hB (λCs=>SlJ G0 G fo (zi (z5 Bs)) (z5 Cs)) (λB Cs r=>SlJ G0 G fo (zi (z5 Bs)) (r++z5 Cs))
  (.mk (as:=[]) (ps:=[]) (x0.trans x1) x1 l1 .nil rfl (Nat.le_trans (Nat.le_of_eq (Nat.zero_add _)) ht)) (λ_ _ h=>h.x) (λ_ _ _ _ h=>h.x) (λB Cs G' h=>by rw[<-uQ];exact h) (λB Cs p r z x a G' QT _ _ hs hJ kN=>?_) (λB Cs z y b fb eo G' QT _ _ _ _ h kN=>.nil (kN (z:=z) h)) λz x y G' h=>?_
 ·apply hJ
  intro as ps x' y' hl hs' hg hc
  obtain⟨⟨fs,la,s1,⟨f1,f2,f3,f4,f5,_⟩,s2⟩,so⟩:=hs.ext x'
  rw[List.cons_append,List.length_cons] at hc
  refine SnB.ifs (r:=Nat.beq p.op 9) ?_ (λe=>?_) λe=>.nil (.next (.nil (kN (z:=z) (.mk x' y' hl hs' ?_ (zIb hc))).1))
  ·rw[<-zH7 p.op so];exact .cmp (by walk_at"r") (by walk_at"r") (.eqS ⟨rfl,rfl⟩)
  ·refine SnB.expr (Sn.meth .append (λ_ _=>rfl) (Rd.to (v:=.ref fo) (by walk_at"r") ⟨.list hl,Rds.to (vs:=[.ref a]) (by walk_at"r") (Meth.appN hl (by rw[List.length_map];exact zAC hc (by decide)) λG2 x2 l2=>?_)⟩))
   refine .nil (.next (.nil (kN (z:=z) (.mk (as:=as++[a]) (ps:=ps++[p]) (x'.fresh (x0.none h1) x2) (y'.fresh h1 x2) (by rw[l2,List.map_append];rfl) (hs'.snoc hs) ?_ (zA0 hc))).1))
   rw[<-hg,List.append_assoc];exact congrArg (ps++·) (zEF (r:=r++z5 Cs) e).symm
  ·rw[<-hg,List.cons_append,zEG e]
 ·apply h
  intro as ps x' y' hl hs' hg hc
  have e:ps=zi (z5 Bs):=by rw[<-hg];exact(List.append_nil ps).symm
  exact SnB.retB (Rd.to (v:=.ref fo) (by walk_at"r") (kk fo as G' h1 y' hl (e▸hs') hc))
noncomputable def zU (rg:Za)(T:List (Int×Int))(p:PS):List (Int×Int):=if (lk rg p.dst).isSome then st T p.dst ((lk T p.dst).getD 0+1) else T
noncomputable def jF (pa:List Int)(rg:Za)(ss:List PS):List (Int×Int):=ss.foldl (zU rg) (pa.foldl (λT r=>st T r 1) [])
theorem zDJ (l:Za)(k v:Int):st (adE l) k (.int v)=adE (st l k v):=(zBB Val.int l k v).symm
theorem zF6 (l:Za):(adE l).length=l.length:=List.length_map ..
theorem yz (l:Za)(k:Int):zq (adE l) k=(lk l k).map .int:=zEh Val.int l k
theorem jV (l:Za)(k:Int):(zq (adE l) k).isSome=(lk l k).isSome:=by rw[yz,Option.isSome_map]
noncomputable def TsJ (G0:Gh)(fo:Addr)(rg:Za)(goal:List (Int×Int))(r:List PS)(G:Gh):Prop:=
 ∀C:Prop,(∀T:List (Int×Int),Ext G0 G->G fo=some (.dict (adE T))->r.foldl (zU rg) T=goal->T.length+r.length<=1000->C)->C
theorem TsJ.mk {G0:Gh}{fo:Addr}{rg:Za}{goal:List (Int×Int)}{r:List PS}{T:List (Int×Int)}(x:Ext G0 G)(hl:G fo=some (.dict (adE T)))(hg:r.foldl (zU rg) T=goal)(hc:T.length+r.length<=1000):TsJ G0 fo rg goal r G:=λ_ k=>k T x hl hg hc
theorem TsJ.x {G0:Gh}{fo:Addr}{rg:Za}{goal:List (Int×Int)}{r:List PS}(h:TsJ G0 fo rg goal r G):Ext G0 G:=h _ λ_ x _ _ _=>x
noncomputable def TsI (G0:Gh)(f rd fo:Addr)(goal:List (Int×Int))(K:Nat)(r:List Int)(m:M)(G:Gh):Prop:=
 ∀C:M->Prop,(∀(z:Option Val) (T:List (Int×Int)),Ext G0 G->G fo=some (.dict (adE T))->r.foldl (λT r=>st T r 1) T=goal->T.length+r.length<=K->C (L yS [some (.ref f),some (.ref rd),some (.ref fo),z,none,none]))->C m
theorem zI1 {rg:Za}{T goal:List (Int×Int)}{p:PS}{r:List PS}(e:(lk rg p.dst).isSome=true)(h:(p::r).foldl (zU rg) T=goal):r.foldl (zU rg) (st T p.dst ((lk T p.dst).getD 0+1))=goal:=by
 rw[List.foldl_cons,show zU rg T p=st T p.dst ((lk T p.dst).getD 0+1) from if_pos e] at h;exact h
theorem zJ6 {rg:Za}{T goal:List (Int×Int)}{p:PS}{r:List PS}(e:(lk rg p.dst).isSome=false)(h:(p::r).foldl (zU rg) T=goal):r.foldl (zU rg) T=goal:=by
 rw[List.foldl_cons,show zU rg T p=T from if_neg (by rw[e];decide)] at h;exact h
theorem zD5 (T:List (Int×Int))(k:Int):(zq (adE T) k).getD (.int 0)=.int ((lk T k).getD 0):=by rw[yz];cases lk T k<;>rfl
theorem zF5 {T:List (Int×Int)}{b k:Nat}(h:T.length+b<=k)(q:k<=1900):(adE T).length<=2000:=by rw[zF6];exact zAC h q
theorem zBD {f rd:Addr}{pr:List Int}{sl:Zg}{bls:List Addr}{Bs:List PB}{rg:Za}{Q:QE}(T:Tops X)(hf:Zk G f pr sl bls)(hr:G rd=some (.dict (adE rg)))(hB:Zd G 0 bls Bs)(ht:(z5 Bs).length<=900)(hp:pr.length<=50)
  (kk:∀c G',G c=none->Ext G G'->G' c=some (.dict (adE (jF pr rg (z5 Bs))))->Q (.ref c) G'):Cal X (n+1) w9 [.ref f,.ref rd] G Q:=by
 obtain⟨ff,fp,fl,fb,f1,⟨g1,g2,g3⟩,f2,f3,f4⟩:=id hf
 refine' Cal.start (os:=?os) T.d_times_set ?q ?b;case q=>walk_at"r"
 case b=>
 refine SnB.assignQ (Sn.dictN λfo G1 h1 x1 l1=>⟨_,by walk_at"r",?_⟩)
 have f1':=x1 _ _ f1
 refine SnB.forM (a:=fp) .int (by walk_at"r") (x1 _ _ f2) (TsI G f rd fo (pr.foldl (λT r=>st T r 1) []) 60) (λ_ k=>k none [] x1 l1 rfl (Nat.le_trans (Nat.le_of_eq (Nat.zero_add _)) (Nat.le_trans hp (by decide)))) (λr m G' hI=>hI (λ_=>_) λ_ _ x _ _ _=>x _ _ f2) (λi r m G' QT hI kN _=>?_) (λm G' hI=>?_)
 ·apply hI
  intro z T' x hl hg hc
  refine⟨_,.name (Upd.put (os':=[some (.ref f),some (.ref rd),some (.ref fo),some (.int i),none,none]) (by walk_at"r")),?_⟩
  exact SnB.setIdxQ (Rd.int.to ⟨fo,_,i,by walk_at"r",by walk_at"r",hl,zF5 hc (by decide),λG2 x2 l2=>.nil (kN λ_ k=>k _ (st T' i 1) (x.fresh h1 x2) (by rw[l2,zDJ]) hg (uq (ur T' i 1) hc))⟩)
 ·apply hI
  intro z T' x hl hg hc
  refine SnB.forBlocks (α:=Unit) (z0:=()) T.cls (λ_ x y=>[some (.ref f),some (.ref rd),some (.ref fo),z,x,y]) (λ_ _ _ _=>by walk_at"r") (λ_ _ _ _=>by walk_at"r") (λ_ _ _=>by walk_at"r") (λ_ _ _=>by walk_at"r") hf hB (λCs=>TsJ G fo rg (jF pr rg (z5 Bs)) (z5 Cs)) (λB Cs r=>TsJ G fo rg (jF pr rg (z5 Bs)) (r++z5 Cs))
   (.mk (T:=T') x hl (by rw[show T'=_ from hg];rfl) (Nat.add_le_add (Nat.le_trans hc (by decide:(60:Nat)<=100)) ht)) (λ_ _ h=>h.x) (λ_ _ _ _ h=>h.x) (λB Cs G' h=>by rw[<-uQ];exact h) (λB Cs p r z x a G' QT _ _ hs hJ kN=>?_) (λB Cs z y b fb eo G' QT _ _ _ _ h kN=>.nil (kN (z:=z) h)) λz x y G' h=>?_
  ·apply hJ
   intro T2 x' hl' hg' hc'
   obtain⟨⟨fs,la,s1,⟨f1,f2,f3,f4,f5,_⟩,s2⟩,so⟩:=hs.ext x'
   rw[List.cons_append,List.length_cons] at hc'
   rw[List.cons_append,List.foldl_cons] at hg'
   have hr':=x' _ _ hr
   refine SnB.ifs (r:=(lk rg p.dst).isSome) (jV rg p.dst▸RdT.cmp (by walk_at"r") (by walk_at"r") (.inDict hr' ⟨rfl,rfl⟩)) (λe=>?_) λe=>.nil (.next (.nil (kN (z:=z) (.mk x' hl' (zJ6 e hg') (zIb hc'))).1))
   exact SnB.setIdxQ (Rd.to (Rd.bin (v:=.int ((lk T2 p.dst).getD 0)) (w:=.int 1) (Sn.meth .get (λ_ _=>rfl) (Rd.to (v:=.ref fo) (by walk_at"r") ⟨.dict hl',Rds.to (vs:=[.int p.dst,.int 0]) (by walk_at"r") (Meth.get hl' ⟨zD5 T2 p.dst,rfl⟩)⟩)) .int (.add ⟨rfl,rfl⟩)) ⟨fo,_,p.dst,by walk_at"r",by walk_at"r",hl',zF5 hc' (by decide),λG2 x2 l2=>.nil (.next (.nil (kN (z:=z) (.mk (x'.fresh h1 x2) (by rw[l2,zDJ]) (zI1 e hg') (uq (ur T2 _ _) hc'))).1))⟩)
  ·apply h
   intro T2 x' hl' hg' _
   exact SnB.retB (Rd.to (v:=.ref fo) (by walk_at"r") (kk fo G' h1 x' (by rw[hl',show T2=_ from hg'])))
end
noncomputable section
variable {X:Cx}{n:Nat}{G:Gh}{sc:Scope}{os:List (Option Val)}{m:M}
noncomputable def FaI {α:Type}(sc:Scope)(F:α->Option Val->List (Option Val))(G:Gh)(ps0:List PS)(J:List PS->Gh->Prop)(ss:List Addr)(m:M)(G':Gh):Prop:=
 ∀C:M->Prop,(∀(ps:List PS) (z:α) (y:Option Val),Zb G ss ps->(∀p∈ps,p∈ps0)->J ps G'->C (L sc (F z y)))->C m
theorem SnB.forAs {α:Type}{Q:QS}{e:Expr}{body sts:List Stmt}{p1 p2:Pos}{a:Addr}{as:List Addr}{ps:List PS}{G1:Gh}{z0:α}{y0:Option Val}(F:α->Option Val->List (Option Val))(us:∀z y v,Upd false sc.names (F z y) "step" v (F z (some v)))
  (he:Rd X n sc e (L sc (F z0 y0)) G1 (.ref a)) (hs:Zb G as ps) (J:List PS->Gh->Prop) (kl:∀r G',J r G'->G' a=some (.list (as.map .ref))) (h0:J ps G1)
  (turn:∀p r z b G' (QT:QS),p∈ps->Zh G b p->J (p::r) G'->(∀{z y G2},J r G2->QT .next (L sc (F z y)) G2)->SnB X n sc body (L sc (F z (some (.ref b)))) G' QT) (k:∀z y G',J [] G'->SnB X n sc sts (L sc (F z y)) G' Q) (hfs:∀env x,foldedSetIterable e env x=pure x:=by intro _ _;rfl) :
  SnB X n sc (.For (.Name "step" p1) e body [] p2::sts) (L sc (F z0 y0)) G1 Q:=by
 refine SnB.forM .ref he (kl _ _ h0) (FaI sc F G ps J) (λ_ k=>k ps z0 y0 hs (λ_ h=>h) h0) (λr m G' hI=>hI (λ_=>_) λ_ _ _ _ _ h=>kl _ _ h) (λb ss m G2 QT hI kN _=>?_) (λm G2 hI=>?_) hfs
 ·apply hI
  intro ps' z y hs hp hJ
  revert hp hJ
  apply hs.uc
  intro p r s1 s2 hp hJ
  exact⟨_,.name (Upd.put (us z y _)),turn p r z b G2 QT (hp _ (.head _)) s1 hJ λ{z y G3} h=>kN λ_ k=>k r z y s2 (λp h=>hp p (.tail _ h)) h⟩
 ·apply hI
  intro ps z y hs _ hJ
  cases hs.un
  exact k z y G2 hJ
noncomputable def j7 (ps:List PS):Za:=ps.foldl (λl p=>st l p.dst (yw p.more)) []
noncomputable def zX (often:List (Int×Int))(s:Za×Nat)(p:PS):Za×Nat:=if (lk often p.dst).getD 0 == 1 then s else(s.1.filter λe=>decide (e.1≠p.dst),setb s.2 (yw p.more))
noncomputable def zK (pa:List Int)(ss:List PS):Za×Nat:=(zi ss).foldl (zX (jF pa (j7 (zi ss)) ss)) (j7 (zi ss),0)
noncomputable def Yc (sl:Zg)(p:PS):Prop:=p.op=9->∃i:Int,p.more=.int i/\0<=i/\i.toNat<sl.length
theorem zDm (l:Za)(k:Int):((adE l).filter λkv=>decide (kv.1≠k))=adE (l.filter λe=>decide (e.1≠k)):=by unfold adE;rw[List.filter_map];rfl
theorem yB {ss:List PS}{p:PS}(h:p∈zi ss):p∈ss/\p.op=9:=by
 obtain⟨h1,h2⟩:=List.mem_filter.mp h
 exact⟨h1,Nat.eq_of_beq_eq_true h2⟩
theorem vA (ps:List PS):∀(l:Za) (j:Int),(j∈l.map (·.1)\/∃p∈ps,p.dst=j)->j∈(ps.foldl (λl p=>st l p.dst (yw p.more)) l).map (·.1):=by
 induction ps with
 | nil=>intro l j h;exact h.elim id λq=>q.elim λp q=>absurd q.1 List.not_mem_nil
 | cons p ps ih=>
  intro l j h
  refine ih _ j ?_
  rcases h with h | ⟨q,hq,rfl⟩
  ·exact .inl ((uD j).mpr (.inl h))
  ·rcases List.mem_cons.mp hq with rfl | hq
   ·exact .inl ((uD _).mpr (.inr rfl))
   ·exact .inr ⟨q,hq,rfl⟩
theorem zDN (rg:Za)(ss:List PS):∀(T:List (Int×Int)) (j:Int),(j∈T.map (·.1)\/(j∈rg.map (·.1)/\∃p∈ss,p.dst=j))->j∈(ss.foldl (zU rg) T).map (·.1):=by
 induction ss with
 | nil=>intro l j h;exact h.elim id λq=>q.2.elim λp q=>absurd q.1 List.not_mem_nil
 | cons p ss ih=>
  intro T j h
  refine ih _ j ?_
  have up:∀j,j∈T.map (·.1)->j∈(zU rg T p).map (·.1):=λj h=>by
   unfold zU
   split
   ·exact(uD j).mpr (.inl h)
   ·exact h
  rcases h with h | ⟨hr,q,hq,rfl⟩
  ·exact .inl (up _ h)
  ·rcases List.mem_cons.mp hq with rfl | hq
   ·refine .inl ?_
    unfold zU
    rw[if_pos ((w5 _ _).mpr hr)]
    exact(uD _).mpr (.inr rfl)
   ·exact .inr ⟨hr,q,hq,rfl⟩
inductive OfR (G:Gh)(P:List (Int×Int)->Prop)(v:Val)(G':Gh):Prop where
 | mk (od:Addr) (O:List (Int×Int)) (e:v=.ref od) (h:G od=none) (x:Ext G G') (d:G' od=some (.dict (adE O))) (p:P O)
noncomputable def SrA (G0:Gh)(sd ta so:Addr)(as:List Addr)(goal:Za)(r:List PS)(G:Gh):Prop:=
 ∀C:Prop,(∀l:Za,Ext G0 G->G sd=some (.dict (adE l))->r.foldl (λl p=>st l p.dst (yw p.more)) l=goal->Zf G ta 0->G so=some (.list (as.map .ref))->l.length+r.length<=900->C)->C
noncomputable def SrB (G0:Gh)(sd ta so od:Addr)(as:List Addr)(often:List (Int×Int))(goal:Za×Nat)(r:List PS)(G:Gh):Prop:=
 ∀C:Prop,(∀(l:Za) (k:Nat),Ext G0 G->G sd=some (.dict (adE l))->Zf G ta k->G so=some (.list (as.map .ref))->G od=some (.dict (adE often))->r.foldl (zX often) (l,k)=goal->C)->C
theorem zER {ss:List PS}(h:j7 ss=[]):ss=[]:=by
 cases ss with
 | nil=>rfl
 | cons p ps=>
  have:=vA (p::ps) [] p.dst (.inr ⟨p,.head _,rfl⟩)
  rw[show List.foldl _ _ (p::ps)=[] from h] at this
  cases this
theorem zJ4 {l:Za}:(!(adE l).isEmpty)=false->l=[]:=by
 cases l with
 | nil=>exact λ_=>rfl
 | cons a l=>exact λe=>noB (Eq.symm e)
theorem zD1 {O:List (Int×Int)}{pr:List Int}{ss:List PS}{p:PS}(hm:p∈zi ss)(hO:zi ss=[]\/O=jF pr (j7 (zi ss)) ss):∃v,lk O p.dst=some v:=Option.isSome_iff_exists.mp ((w5 _ _).mpr (by
 rcases hO with q | q
 ·rw[q] at hm;cases hm
 ·rw[q];exact zDN _ _ _ _ (.inr ⟨vA _ _ _ (.inr ⟨p,hm,rfl⟩),p,(yB hm).1,rfl⟩)))
theorem nbt {b:Bool}(h:(!b)=false):b=true:=Bool.not_eq_false' b▸h
theorem nbf {b:Bool}(h:(!b)=true):b=false:=Bool.not_eq_true' b▸h
theorem zJP {O:List (Int×Int)}{s goal:Za×Nat}{p:PS}{r:List PS}{v:Int}(hv:lk O p.dst=some v)(e:(!(v == 1))=false)(h:(p::r).foldl (zX O) s=goal):r.foldl (zX O) s=goal:=by
 rw[List.foldl_cons,show zX O s p=s from if_pos (by rw[hv];exact nbt e)] at h;exact h
theorem zIF {O:List (Int×Int)}{s goal:Za×Nat}{p:PS}{r:List PS}{v i:Int}(hv:lk O p.dst=some v)(hi:yw p.more=i)(e:(!(v == 1))=true)(h:(p::r).foldl (zX O) s=goal):r.foldl (zX O) (s.1.filter λe=>decide (e.1≠p.dst),setb s.2 i)=goal:=by
 rw[List.foldl_cons,show zX O s p=(s.1.filter λe=>decide (e.1≠p.dst),setb s.2 i) by rw[<-hi];exact if_neg (by rw[hv];exact λq=>Bool.false_ne_true ((nbf e).symm.trans q))] at h;exact h
theorem zJv {O:List (Int×Int)}{pr:List Int}{ss:List PS}{l:Za}(hg:l=j7 (zi ss))(hO:zi ss=[]\/O=jF pr (j7 (zi ss)) ss):(zi ss).foldl (zX O) (l,0)=zK pr ss:=by
 unfold zK
 rw[hg]
 rcases hO with q | q
 ·rw[q];rfl
 ·rw[q]
theorem uE {f:Addr}{pr:List Int}{sl:Zg}{bls:List Addr}{Bs:List PB}{Q:QE}(T:Tops X)(hf:Zk G f pr sl bls)(hB:Zd G 0 bls Bs)(ht:(z5 Bs).length<=900)(hp:pr.length<=50)(hw:∀p∈z5 Bs,Yc sl p)(hsl:sl.length<=16)
  (kk:∀d t G',Ext G G'->G' d=some (.dict (adE (zK pr (z5 Bs)).1))->Zf G' t (zK pr (z5 Bs)).2->Q (.tup [.ref d,.ref t]) G'):Cal X (n+2) zZ [.ref f] G Q:=by
 refine' Cal.start (os:=?os) T.d_slot_registers ?q ?b;case q=>walk_at"r"
 case b=>
 refine SnB.assignQ (Sn.dictN λsd G1 h1 x1 d1=>⟨_,by walk_at"r",?_⟩)
 refine SnB.assignQ (Sn.ty (id:="set") T.blt (by decide) (by decide) (by walk_at"r") (λ_ _=>rfl) (Rds.nil.to (Blt.set0N λta G2 h2 x2 s2=>⟨_,by walk_at"r",?_⟩)))
 have x12:=x1.trans x2
 refine SnB.assignQ (Sn.ref T.f_slot_steps (by walk_at"r") (λ_ _=>rfl) (vs:=[.ref f]) (by walk_at"r") (zAT T hf hB x12 ht λso as G3 h3 x3 l3 s3 len3=>⟨_,by walk_at"r",?_⟩))
 have t0:=x1.none h2
 have hlen:=s3.length
 refine SnB.forAs (α:=Unit) (z0:=()) (λ_ y=>[some (.ref f),some (.ref sd),some (.ref ta),some (.ref so),y,none,none,none,none]) (λ_ _ _=>by walk_at"r") (by walk_at"r") s3 (SrA G sd ta so as (j7 (zi (z5 Bs)))) (λ_ _ h=>h _ λ_ _ _ _ _ h _=>h) (λ_ k=>k [] (x12.trans x3) (x3 _ _ (x2 _ _ d1)) rfl (s2.ext x3) l3 (Nat.le_trans (Nat.le_of_eq (Nat.zero_add _)) (hlen▸len3))) (λp r z b G4 QT hm hs hJ kN=>?_) λz y G4 hJ=>?_
 ·apply hJ
  intro l x hl hg hta ho hc
  obtain⟨⟨fs,la,e1,⟨f1,f2,f3,f4,f5,_⟩,e2⟩,so'⟩:=hs.ext x
  obtain⟨i,q1,q2,q3⟩:=hw p (yB hm).1 (yB hm).2
  rw[q1] at f4
  refine SnB.setIdxQ (Rd.to (v:=.int i) (by walk_at"r") ⟨sd,_,p.dst,by walk_at"r",by walk_at"r",hl,zF5 hc (by decide),λG5 x5 l5=>.nil (kN (z:=z) λ_ k=>k (st l p.dst (yw p.more)) (x.fresh h1 x5) ?_ hg (hta.offD x5 hl) (x5.kind hl ho) (uq (ur _ _ _) hc))⟩)
  rw[l5,<-zDJ,q1];rfl
 ·apply hJ
  intro l x hl hg hta ho _
  have hg:l=j7 (zi (z5 Bs)):=hg
  refine SnB.assignQ (Sn.mono (Q:=OfR G4 (λO=>zi (z5 Bs)=[]\/O=jF pr l (z5 Bs))) (Sn.ite (SnT.mono (RdT.val (v:=.ref sd) (by walk_at"r") (.dict hl)) λt G' ee=>?_)) λv G5 hO=>?_)
  ·obtain⟨e,e'⟩:=ee
   subst e;subst e'
   refine⟨λe=>?_,λe=>?_⟩
   ·exact Sn.ref T.f_times_set (by walk_at"r") (λ_ _=>rfl) (vs:=[.ref f,.ref sd]) (by walk_at"r") (zBD T (hf.ext x) hl (hB.ext x) ht hp λod G5 h5 x5 d5=>.mk od _ rfl h5 x5 d5 (.inr rfl))
   ·exact Sn.dictN λod G5 h5 x5 d5=>.mk od [] rfl h5 x5 d5 (.inl (zER (hg.symm.trans (zJ4 e))))
  obtain⟨od,O,rfl,h5,x5,d5,hO⟩:=hO
  have nsd:=ne_new hl h5
  refine⟨_,by walk_at"r",?_⟩
  refine SnB.forAs (α:=Unit) (z0:=()) (λ_ y=>[some (.ref f),some (.ref sd),some (.ref ta),some (.ref so),y,some (.ref od),none,none,none]) (λ_ _ _=>by walk_at"r") (by walk_at"r") s3 (SrB G sd ta so od as O (zK pr (z5 Bs))) (λ_ _ h=>h _ λ_ _ _ _ _ h _ _=>h) (λ_ k=>k l 0 (x.trans x5) (x5 _ _ hl) (hta.ext x5) (x5 _ _ ho) d5 (zJv hg (hg▸hO))) (λp r z b G6 QT hm hs hJ kN=>?_) λz y G6 hJ=>?_
  ·apply hJ
   intro l' k x' hl' hta' ho' hd' hg'
   obtain⟨⟨fs,la,e1,⟨f1,f2,f3,f4,f5,_⟩,e2⟩,so'⟩:=hs.ext x'
   obtain⟨i,q1,q2,q3⟩:=hw p (yB hm).1 (yB hm).2
   have hi:yw p.more=i:=by rw[q1];rfl
   rw[q1] at f4
   obtain⟨v,hv⟩:=zD1 (pr:=pr) hm (hg▸hO)
   refine SnB.ifs (r:=!(v == 1)) (.cmp (.idxD (by walk_at"r") hd' (by walk_at"r") (by rw[yz,hv];rfl)) .int (.neI ⟨rfl,rfl⟩)) (λe=>?_) λe=>.nil (.next (.nil (kN (z:=z) λ_ c=>c l' k x' hl' hta' ho' hd' (zJP hv e hg'))))
   refine SnB.expr (Sn.meth .add (λ_ _=>rfl) (Rd.to (v:=.ref ta) (by walk_at"r") ⟨hta'.has,Rds.to (vs:=[.int i]) (by walk_at"r") (Meth.addN hta' ⟨q2,Int.lt_trans (Int.toNat_lt q2 |>.mp (Nat.lt_of_lt_of_le q3 hsl)) (by decide)⟩ λG7 x7 t7=>?_)⟩))
   have l7:=hta'.kind x7 hl'
   have e7:=hta'.kind x7 e1
   refine SnB.expr (Sn.meth .dpop (λ_ _=>rfl) (Rd.to (v:=.ref sd) (by walk_at"r") ⟨.dict l7,Rds.to (vs:=[.int p.dst,.none]) (by walk_at"r") (Meth.dpop l7 ?_)⟩))
   have x8:Ext1 sd G7 (G7.upd sd (.dict ((adE l').filter λkv=>decide (kv.1≠p.dst)))):=.upd
   exact .nil (.next (.nil (kN (z:=z) λ_ c=>c (l'.filter λe=>decide (e.1≠p.dst)) (setb k i) ((x'.fresh t0 x7).fresh h1 x8) (by rw[Gh.upd_same,zDm]) (t7.offD x8 l7) (x8.kind l7 (hta'.kind x7 ho')) (x8 _ _ (Ne.symm nsd) (hta'.kind x7 hd')) (zIF hv hi e hg'))))
  ·apply hJ
   intro l' k x' hl' hta' _ _ hg'
   have hg':(l',k)=zK pr (z5 Bs):=hg'
   exact SnB.retB (Rd.to (v:=.tup [.ref sd,.ref ta]) (by walk_at"r") (kk sd ta G6 x' (by rw[<-hg'];exact hl') (by rw[<-hg'];exact hta')))
end
noncomputable section
variable {X:Cx}{n:Nat}{G:Gh}{sc:Scope}{os:List (Option Val)}{m:M}
noncomputable def zl (sl:Zg)(p:PS)(place:Nat)(slot:Int):Bool:=if !(Nat.beq p.op 1)||!(Nat.beq place 0)||p.vol then false else decide (yw p.more<=zk sl slot)
theorem uG {f a:Addr}{pr:List Int}{sl:Zg}{bls:List Addr}{p:PS}{place:Nat}{slot:Int}{Q:QE}(T:Tops X)(hf:Zk G f pr sl bls)(h:Zh G a p)(w:Zn p)(hs:0<=slot/\slot.toNat<sl.length)(hl:sl.length<=16)(k:Q (.bool (zl sl p place slot)) G):Cal X (n+1) z4 [.ref f,.ref a,.int place,.int slot] G Q:=by
 obtain⟨⟨fs,la,h1,⟨f1,f2,f3,f4,f5,_⟩,h2⟩,ho⟩:=id h
 obtain⟨ff,pa,sa,ba,h3,⟨g1,g2,g3⟩,h4,h5,h6⟩:=hf
 refine' Cal.start (os:=?os) T.d_is_plain_store ?q ?b;case q=>walk_at"r"
 case b=>
 refine SnB.ifs (r:=!(Nat.beq p.op 1)||(!(Nat.beq place 0)||p.vol)) ?_ (λe=>.retT (Rd.to Rd.tru ?_)) λe=>.nilT ?_
 ·rw[<-zCo p.op ho]
  have e0:Nat.beq place 0=((place:Int) == 0):=by cases place<;>rfl
  rw[e0]
  refine RdT.or (RdT.cmp ?_ ?_ (.neS ⟨rfl,rfl⟩)) λ_=>RdT.or (RdT.cmp ?_ ?_ (.neI ⟨rfl,rfl⟩)) λ_=>RdT.or1 (RdT.val ?_ (.bool _))<;>walk_at"r"
 ·have:zl sl p place slot=false:=if_pos (by rw[Bool.or_assoc];exact e)
  rw[<-this];exact k
 have e1:Nat.beq p.op 1=true:=by have:=(Bool.or_eq_false_iff.mp e).1;rw[Bool.not_eq_false'] at this;exact this
 obtain⟨_,wd,hm⟩:=w.store (Nat.eq_of_beq_eq_true e1)
 rw[hm] at f4
 obtain⟨sz,hsz⟩:∃z,sl[slot.toNat]?=some z:=⟨_,List.getElem?_eq_getElem hs.2⟩
 have hc:zl sl p place slot=decide (wd<=sz.1):=by
  unfold zl zk
  rw[if_neg (by rw[Bool.or_assoc,e];decide),hm,hsz];rfl
 have hsv':((slot.toNat:Nat):Int)=slot:=Int.toNat_of_nonneg hs.1
 refine SnB.retB (Rd.to (Rd.cmp (v:=.int wd) (by walk_at"r") (Rd.idxT (vs:=[.int sz.1,.int sz.2]) (Rd.idxL (j:=slot) (by walk_at"r") h5 (by walk_at"r") (zp hs.1 (Nat.lt_of_lt_of_le hs.2 (Nat.le_trans hl (by decide)))) (by have:=zV (f:=zFi) hsz;rw[hsv'] at this;exact this)) .int (by decide) rfl) (.le ⟨rfl,rfl⟩)) (hc▸k))
noncomputable def yE (am:Za)(t:Nat)(p:PS):Bool:=if !(Nat.beq p.op 1) then false else match p.args[0]? with
 | some o=>o.1&&(match lk am o.2 with | some s=>!zF t s | none=>false)
 | none=>false
theorem v9 {a ad ta:Addr}{am:Za}{t:Nat}{p:PS}{Q:QE}(T:Tops X)(h:Zh G a p)(w:Zn p)(ha:G ad=some (.dict (adE am)))(ht:Zf G ta t)(k:Q (.bool (yE am t p)) G):Cal X (n+1) wE [.ref a,.ref ad,.ref ta] G Q:=by
 obtain⟨⟨fs,la,h1,⟨f1,f2,f3,f4,f5,_⟩,h2⟩,ho⟩:=id h
 refine' Cal.start (os:=?os) T.d_is_store_to ?q ?b;case q=>walk_at"r"
 case b=>
 refine SnB.ifs (r:=!(Nat.beq p.op 1)) ?_ (λe=>.retT (Rd.to Rd.tru ?_)) λe=>.nilT ?_
 ·rw[<-zCo p.op ho]
  refine RdT.cmp ?_ ?_ (.neS ⟨rfl,rfl⟩)<;>walk_at"r"
 ·have:yE am t p=false:=if_pos e
  rw[<-this];exact k
 have e1:Nat.beq p.op 1=true:=by rw[Bool.not_eq_false'] at e;exact e
 obtain⟨hlen,_⟩:=w.store (Nat.eq_of_beq_eq_true e1)
 obtain⟨o,ho'⟩:∃o,p.args[0]?=some o:=⟨_,List.getElem?_eq_getElem hlen⟩
 refine' SnB.assign2 (v:=.str (rk o.1)) (w:=.int o.2) (Rd.idxL ?h1 h2 .int (by decide) (zV ho')) ?h3 ?h4 ?h5
 case h1=>walk_at"r"
 case h3=>walk_at"r"
 case h4=>walk_at"r"
 have hc:yE am t p=(rk o.1 == Str.ofString "r"&&((zq (adE am) o.2).isSome&&(match lk am o.2 with | some s=>!zF t s | none=>false))):=by
  unfold yE
  rw[if_neg (by rw[e];decide),ho',rk_r,jV]
  show (o.1&&_)=(o.1&&_)
  cases lk am o.2<;>rfl
 refine SnB.retB (Rd.to ?_ (hc▸k))
 refine Rd.and (Rd.cmp (by walk_at"r") (by walk_at"r") (.eqS ⟨rfl,rfl⟩)) λ_=>Rd.and (Rd.cmp (by walk_at"r") (by walk_at"r") (.inDict ha ⟨rfl,rfl⟩)) λhs=>Rd.and1 ?_
 rw[jV] at hs
 obtain⟨sv,hsv⟩:=Option.isSome_iff_exists.mp hs
 rw[hsv]
 exact .cmp (.idxD (by walk_at"r") ha (by walk_at"r") (by rw[yz,hsv];rfl)) (by walk_at"r") (.notinM ht)
end
noncomputable section
variable {X:Cx}{n:Nat}{G:Gh}{sc:Scope}{os:List (Option Val)}{m:M}
theorem Rd.opK {e:Expr}{o:Opd}{k:Nat}{p pos:Pos}(h:Rd X n sc e m G (opdV o))(hs:∀x y,subscripted (.Constant (.int 0) k p) false x y=operate [x,y] (getItem x y):=by intro _ _;rfl):Rd X n sc (.Subscript e (.Constant (.int 0) k p) pos) m G (.str (rk o.1)):=Rd.idxT (vs:=[.str (rk o.1),.int o.2]) h .int (by decide) rfl hs
theorem Rd.opV {e:Expr}{o:Opd}{k:Nat}{p pos:Pos}(h:Rd X n sc e m G (opdV o))(hs:∀x y,subscripted (.Constant (.int 1) k p) false x y=operate [x,y] (getItem x y):=by intro _ _;rfl):Rd X n sc (.Subscript e (.Constant (.int 1) k p) pos) m G (.int o.2):=Rd.idxT (vs:=[.str (rk o.1),.int o.2]) h .int (by decide) rfl hs
noncomputable def enF {α:Type}(f:α->Val):Nat->List α->List Val
 | _,[]=>[]
 | i,x::r=>.tup [.int i,f x]::enF f (i+1) r
theorem zJL {α:Type}(f:α->Val)(l:List α):zBa (l.map f)=enF f 0 l:=by
 have:∀(l:List α) (k:Nat),((l.map f).zipIdx k).map (λp=>Val.tup [.int p.2,p.1])=enF f k l:=λl=>by
  induction l with
  | nil=>intro k;rfl
  | cons o l ih=>intro k;show _::_=_;rw[ih];rfl
 exact this l 0
inductive Yw {α:Type}(f:α->Val)(X:Cx)(n:Nat)(sc:Scope)(tgt:Expr)(body sts:List Stmt)(m:M)(Q:QS)(v:Val)(G':Gh):Prop where
 | mk (a:Addr) (as:List α) (e:v=.ref a) (e1:G' a=some (.list (as.map f))) (I:Nat->List α->M->Gh->Prop) (h0:I 0 as m G') (gd:∀i r m G',I i r m G'->G' a=some (.list (as.map f)))
  (turn:∀i x r m G (QT:QS),I i (x::r) m G->(∀{m G},I (i+1) r m G->QT .next m G)->(∀{v m G},Q (.ret v) m G->QT (.ret v) m G)->BT X n sc tgt (.tup [.int i,f x]) m body G QT) (z:∀i m G,I i [] m G->SnB X n sc sts m G Q)
theorem SnB.forEnM {α:Type}{Q:QS}{e:Expr}{ts:List Expr}{k:Nat}{tp p1 p2 pos:Pos}{body sts:List Stmt}(f:α->Val)(hx:Zx X)(hk:Ze sc "enumerate")(hn:Zj [e])(he:Sn X n sc e m G (Yw f X n sc (.Tuple ts k tp) body sts m Q))
  (hs:∀env x,foldedSetIterable (.Call (.Name "enumerate" p1) [e] [] p2) env x=pure x:=by intro _ _;rfl) (hp:∀env,starEach [e] env=(false,eval e env)::starEach [] env:=by intro _;rfl):SnB X n sc (.For (.Tuple ts k tp) (.Call (.Name "enumerate" p1) [e] [] p2) body [] pos::sts) m G Q:=by
 refine .cons (.fors (.enum hx hk hn (SnEs.cons (he.mono λv G' q=>?_) hp)) hs)
 obtain⟨a,as,e1,e2,I,h0,gd,turn,z⟩:=q
 refine SnEs.nil ⟨a,as.map f,by rw[e1],e2,λxs m G=>∃i r,xs=enF f i r/\I i r m G,⟨λx xs m G hI=>?_,λm G hI=>?_⟩,⟨0,as,zJL f as,h0⟩⟩
 ·obtain⟨i,r,e1,h⟩:=hI
  cases r with
  | nil=>cases e1
  | cons o r=>
   obtain⟨rfl,rfl⟩:=List.cons.inj e1
   exact⟨gd _ _ _ _ h,turn i o r m G _ h (λh=>.next ⟨_,_,rfl,h⟩) λq=>.ret (.ret q)⟩
 ·obtain⟨i,r,e1,h⟩:=hI
  cases r with
  | nil=>exact⟨gd _ _ _ _ h,.next (z i m G h)⟩
  | cons o r=>cases e1
theorem Blt.set1N {Q:QE}{l:Addr}{k:Nat}(e:Zf G l k)(h:∀c G',G c=none->Ext G G'->Zf G' c k->Q (.ref c) G'):Blt X n (.type "set") [.ref l] G Q:=by
 obtain⟨f,e⟩:=e
 exact .set1 e λc hc=>h c _ hc (.new hc) ⟨false,Gh.upd_same ..⟩
noncomputable def wY (sl:Zg)(am:Za)(p:PS)(i:Nat)(o:Opd)(t:Nat):Nat:=if o.1 then(match lk am o.2 with | some s=>if zl sl p i s then t else setb t s | none=>t) else t
noncomputable def z7 (sl:Zg)(am:Za)(p:PS):Nat->List Opd->Nat->Nat
 | _,[],t=>t
 | i,o::r,t=>z7 sl am p (i+1) r (wY sl am p i o t)
noncomputable def wJ (sl:Zg)(am:Za)(t:Nat)(p:PS):Nat:=z7 sl am p 0 p.args t
noncomputable def z6 (am:Za)(t:Nat)(o:Opd):Nat:=if o.1 then(match lk am o.2 with | some s=>setb t s | none=>t) else t
noncomputable def zj (sl:Zg)(am:Za)(Bs:List PB)(t:Nat):Nat:=Bs.foldl (λt B=>B.fin.args.foldl (z6 am) (B.steps.foldl (wJ sl am) t)) t
noncomputable def StJ (G0:Gh)(fo:Addr)(f:Nat->Nat)(goal:Nat)(G:Gh):Prop:=∀C:Prop,(∀t:Nat,Ext G0 G->Zf G fo t->f t=goal->C)->C
theorem StJ.mk {G0:Gh}{fo:Addr}{f:Nat->Nat}{goal t:Nat}(x:Ext G0 G)(hs:Zf G fo t)(hg:f t=goal):StJ G0 fo f goal G:=λ_ k=>k t x hs hg
theorem StJ.x {G0:Gh}{fo:Addr}{f:Nat->Nat}{goal:Nat}(h:StJ G0 fo f goal G):Ext G0 G:=h _ λ_ x _ _=>x
theorem zGx {o:Opd}{am:Za}{f:Int->Nat}{t:Nat}(e:(o.1&&(lk am o.2).isSome)=false):(if o.1 then(match lk am o.2 with | some s=>f s | none=>t) else t)=t:=by
 cases h1:o.1 with
 | false=>rfl
 | true=>rw[h1] at e;cases h2:lk am o.2 with
  | none=>rfl
  | some s=>rw[h2] at e;cases e
theorem zJa {sl:Zg}{am:Za}{p:PS}{i t goal:Nat}{o:Opd}{r:List Opd}{g:Nat->Nat}(e:(o.1&&(lk am o.2).isSome)=false)(h:g (z7 sl am p i (o::r) t)=goal):g (z7 sl am p (i+1) r t)=goal:=by
 rw[show z7 sl am p i (o::r) t=z7 sl am p (i+1) r (wY sl am p i o t) from rfl,show wY sl am p i o t=t from zGx e] at h;exact h
theorem zDv {sl:Zg}{am:Za}{p:PS}{i t:Nat}{o:Opd}{s:Int}{u:Nat}(q:o.1=true)(hs:lk am o.2=some s)(hu:(if zl sl p i s then t else setb t s)=u){g:Nat->Nat}{goal:Nat}{r:List Opd}(h:g (z7 sl am p i (o::r) t)=goal):g (z7 sl am p (i+1) r u)=goal:=by
 rw[show z7 sl am p i (o::r) t=z7 sl am p (i+1) r (wY sl am p i o t) from rfl,show wY sl am p i o t=u by unfold wY;rw[if_pos q,hs];exact hu] at h;exact h
theorem zJ9 {am:Za}{t goal:Nat}{o:Opd}{r:List Opd}{g:Nat->Nat}(e:(o.1&&(lk am o.2).isSome)=false)(h:g ((o::r).foldl (z6 am) t)=goal):g (r.foldl (z6 am) t)=goal:=by
 rw[List.foldl_cons,show z6 am t o=t from zGx e] at h;exact h
theorem zHJ {am:Za}{t goal:Nat}{o:Opd}{s:Int}{r:List Opd}{g:Nat->Nat}(q:o.1=true)(hs:lk am o.2=some s)(h:g ((o::r).foldl (z6 am) t)=goal):g (r.foldl (z6 am) (setb t s))=goal:=by
 rw[List.foldl_cons,show z6 am t o=setb t s by unfold z6;rw[if_pos q,hs]] at h;exact h
theorem AdOK.small {am:Za}{sl:Zg}(hok:AdOK am sl){r s:Int}(h:lk am r=some s):0<=s/\s<32:=⟨(hok.lo _ _ h).1,by have:=(hok.lo _ _ h).2;have:=hok.few;lia⟩
noncomputable abbrev F5 (f ad tk fo:Addr)(z:Option Val×Option Val×Option Val×Option Val×Option Val)(x y:Option Val):List (Option Val):=[some (.ref f),some (.ref ad),some (.ref tk),some (.ref fo),x,y,z.1,z.2.1,z.2.2.1,z.2.2.2.1,z.2.2.2.2,none,none,none]
noncomputable def TkI (F:Option Val×Option Val×Option Val×Option Val×Option Val->Option Val->Option Val->List (Option Val))(x:Option Val)(J:List Opd->Gh->Prop)(r:List Opd)(m:M)(G:Gh):Prop:=
 ∀C:M->Prop,(∀(z:Option Val×Option Val×Option Val×Option Val×Option Val) (y:Option Val),J r G->C (L wK (F z x y)))->C m
noncomputable def TkE (F:Option Val×Option Val×Option Val×Option Val×Option Val->Option Val->Option Val->List (Option Val))(x y:Option Val)(J:Nat->List Opd->Gh->Prop)(i:Nat)(r:List Opd)(m:M)(G:Gh):Prop:=
 ∀C:M->Prop,(∀z:Option Val×Option Val×Option Val×Option Val×Option Val,J i r G->C (L wK (F z x y)))->C m
theorem vW {f ad ta:Addr}{pr:List Int}{sl:Zg}{bls:List Addr}{Bs:List PB}{am:Za}{t:Nat}{Q:QE}(T:Tops X)(hf:Zk G f pr sl bls)(hB:Zd G 0 bls Bs)(ok:FnOK Bs)(ha:G ad=some (.dict (adE am)))(hok:AdOK am sl)(ht:Zf G ta t)
  (kk:∀c G',G c=none->Ext G G'->Zf G' c (zj sl am Bs t)->Q (.ref c) G'):Cal X (n+2) zu [.ref f,.ref ad,.ref ta] G Q:=by
 refine' Cal.start (os:=?os) T.d_taken_slots ?q ?b;case q=>walk_at"r"
 case b=>
 refine SnB.assignQ (Sn.ty (id:="set") T.blt (by decide) (by decide) (by walk_at"r") (λ_ _=>rfl) (Rds.to (vs:=[.ref ta]) (by walk_at"r") (Blt.set1N ht λfo G1 h1 x1 s1=>⟨_,by walk_at"r",?_⟩)))
 refine SnB.forBlocks (z0:=(none,none,none,none,none)) T.cls (F5 f ad ta fo) (λ_ _ _ _=>by walk_at"r") (λ_ _ _ _=>by walk_at"r") (λ_ _ _=>by walk_at"r") (λ_ _ _=>by walk_at"r") hf hB (λCs=>StJ G fo (zj sl am Cs) (zj sl am Bs t)) (λB Cs r=>StJ G fo (λt=>zj sl am Cs (B.fin.args.foldl (z6 am) (r.foldl (wJ sl am) t))) (zj sl am Bs t))
  (.mk x1 s1 rfl) (λ_ _ h=>h.x) (λ_ _ _ _ h=>h.x) (λB Cs G' h=>h) (λB Cs p r z x a G' QT hB hp hs hJ kN=>?_) (λB Cs z y b fb eo G' QT hBm hb hfe he hJ kN=>?_) λz x y G' h=>?_
 ·apply hJ
  intro t' x' s' hg
  obtain⟨⟨fs,la,e1,⟨f1,f2,f3,f4,f5,_⟩,e2⟩,so⟩:=id hs
  have hwf:=(ok.blks B hB).wf p hp
  have e1':=x' _ _ e1
  refine SnB.forEnM opdV T.blt (by walk_at"r") (λ_ _=>rfl) (Rd.to (v:=.ref la) (by walk_at"r") ⟨la,p.args,rfl,x' _ _ e2,TkE (F5 f ad ta fo) x (some (.ref a)) (λi r'=>StJ G fo (λt=>zj sl am Cs (B.fin.args.foldl (z6 am) (r.foldl (wJ sl am) (z7 sl am p i r' t)))) (zj sl am Bs t)),λ_ k=>k z (.mk x' s' hg),λi r' m G2 hI=>hI (λ_=>_) λz h=>h.x _ _ e2,λi o r' m G2 QU hI kM _=>?_,λi m G2 hI=>by apply hI;intro z h;exact .nil (kN h).1⟩)
  ·apply hI
   intro z hJ2
   apply hJ2
   intro t2 x2 s2 hg2
   have a2:=x2 _ _ ha
   refine⟨_,.tup (.two (os':=F5 f ad ta fo (some (.int i),z.2) x (some (.ref a))) (os'':=F5 f ad ta fo (some (.int i),some (opdV o),z.2.2) x (some (.ref a))) (by walk_at"r") (by walk_at"r")),?_⟩
   refine SnB.ifs (r:=o.1&&(lk am o.2).isSome) ?_ (λe=>?_) λe=>.nil (.next (.nil (kM λ_ k=>k _ (.mk x2 s2 (zJa (g:=λt=>zj sl am Cs (B.fin.args.foldl (z6 am) (r.foldl (wJ sl am) t))) e hg2)))))
   ·rw[<-rk_r o.1,<-jV]
    exact RdT.and (.cmp (.opK (by walk_at"r")) .str (.eqS ⟨rfl,rfl⟩)) λ_=>RdT.and1 (.cmp (.opV (o:=o) (by walk_at"r")) (by walk_at"r") (.inDict a2 ⟨rfl,rfl⟩))
   ·obtain⟨q1,q2⟩:=Bool.and_eq_true_iff.mp e
    obtain⟨s,hs'⟩:=Option.isSome_iff_exists.mp q2
    have sm:=hok.small hs'
    refine SnB.assign (v:=.int s) (.idxD (by walk_at"r") a2 (.opV (o:=o) (by walk_at"r")) (by rw[yz,hs'];rfl)) (by walk_at"r") ?_
    refine SnB.ifs (r:=!zl sl p i s) (.not (.val (.ref T.f_is_plain_store (by walk_at"r") (λ_ _=>rfl) (vs:=[.ref f,.ref a,.int i,.int s]) (by walk_at"r") (uG T (hf.ext x2) (hs.ext x2) hwf (hok.lo _ _ hs') hok.few ⟨rfl,rfl⟩)) (.bool _))) (λe'=>?_) λe'=>.nil (.next (.nil (.next (.nil (kM λ_ k=>k ((some (.int i)),some (opdV o),some (.int s),z.2.2.2) (.mk x2 s2 ?_))))))
    ·exact SnB.expr (Sn.meth .add (λ_ _=>rfl) (Rd.to (v:=.ref fo) (by walk_at"r") ⟨s2.has,Rds.to (vs:=[.int s]) (by walk_at"r") (Meth.addN s2 sm λG3 x3 s3=>.nil (.next (.nil (.next (.nil (kM λ_ k=>k ((some (.int i)),some (opdV o),some (.int s),z.2.2.2) (.mk (x2.fresh h1 x3) s3 (zDv (g:=λt=>zj sl am Cs (B.fin.args.foldl (z6 am) (r.foldl (wJ sl am) t))) q1 hs' (if_neg (by rw[Bool.not_eq_true'] at e';rw[e'];decide)) hg2))))))))⟩))
    ·exact zDv (g:=λt=>zj sl am Cs (B.fin.args.foldl (z6 am) (r.foldl (wJ sl am) t))) q1 hs' (if_pos (nbt e')) hg2
 ·apply hJ
  intro t' x' s' hg
  obtain⟨⟨es,la,e1,⟨f1,f2,f3,f4,f5,_⟩,e2⟩,so⟩:=id he
  have e1':=x' _ _ e1
  have hb':=x' _ _ hb
  refine SnB.forM opdV (.attr T.cls .args (.attr T.cls .end_ (by walk_at"r") hb' hfe) e1' f3) (x' _ _ e2) (TkI (F5 f ad ta fo) (some (.ref b)) (λr=>StJ G fo (λt=>zj sl am Cs (r.foldl (z6 am) t)) (zj sl am Bs t))) (λ_ k=>k z y (.mk x' s' hg)) (λr m G2 hI=>hI (λ_=>_) λz y h=>h.x _ _ e2) (λo r m G2 QU hI kM _=>?_) (λm G2 hI=>by apply hI;intro z y h;exact .nil (kN h))
  ·apply hI
   intro z y hJ2
   apply hJ2
   intro t2 x2 s2 hg2
   have a2:=x2 _ _ ha
   refine⟨_,.tup (.two (os':=F5 f ad ta fo (z.1,z.2.1,z.2.2.1,some (.str (rk o.1)),z.2.2.2.2) (some (.ref b)) y) (os'':=F5 f ad ta fo (z.1,z.2.1,z.2.2.1,some (.str (rk o.1)),some (.int o.2)) (some (.ref b)) y) (by walk_at"r") (by walk_at"r")),?_⟩
   refine SnB.ifs (r:=o.1&&(lk am o.2).isSome) ?_ (λe=>?_) λe=>.nil (.next (.nil (kM λ_ k=>k _ _ (.mk x2 s2 (zJ9 (g:=zj sl am Cs) e hg2)))))
   ·have e0:(o.1&&(lk am o.2).isSome)=((rk o.1 == Str.ofString "r")&&(zq (adE am) o.2).isSome):=by rw[rk_r,jV]
    rw[e0]
    exact RdT.and (.cmp (by walk_at"r") .str (.eqS ⟨rfl,rfl⟩)) λ_=>RdT.and1 (.cmp (by walk_at"r") (by walk_at"r") (.inDict a2 ⟨rfl,rfl⟩))
   ·obtain⟨q1,q2⟩:=Bool.and_eq_true_iff.mp e
    obtain⟨s,hs'⟩:=Option.isSome_iff_exists.mp q2
    have hgt:=zHJ (g:=zj sl am Cs) q1 hs' hg2
    exact SnB.expr (Sn.meth .add (λ_ _=>rfl) (Rd.to (v:=.ref fo) (by walk_at"r") ⟨s2.has,Rds.to (vs:=[.int s]) (.cons (.idxD (by walk_at"r") a2 (by walk_at"r") (by rw[yz,hs'];rfl)) .nil) (Meth.addN s2 (hok.small hs') λG3 x3 s3=>.nil (.next (.nil (kM λ_ k=>k _ _ (.mk (x2.fresh h1 x3) s3 hgt)))))⟩))
 ·apply h
  intro t' x' s' hg
  have hg:t'=_:=hg
  exact SnB.retB (Rd.to (v:=.ref fo) (by walk_at"r") (kk fo G' h1 x' (hg▸s')))
end
noncomputable section
variable {X:Cx}{n:Nat}{G:Gh}{sc:Scope}{os:List (Option Val)}{m:M}
noncomputable def yA (am:Za)(t:Nat)(ss:List PS):List PS:=ss.filter λp=>!yE am t p
noncomputable def chS (am:Za)(t:Nat)(B:PB):Bool:=Nat.blt (yA am t B.steps).length B.steps.length
noncomputable def swS (am:Za)(t:Nat)(B:PB):PB:=if chS am t B then withSt B (yA am t B.steps) else B
theorem uC {F:PB->PB}{p:Int->Bool}{Bs:List PB}:∀{i:Int},(zS F p i Bs).length=Bs.length:=by
 induction Bs with
 | nil=>exact rfl
 | cons B Bs ih=>exact congrArg (· + 1) ih
theorem zEf {i:Int}{k:Nat}:i<i+((k+1:Nat):Int):=by lia
theorem zDw {F:PB->PB}{p q:Int->Bool}{Bs:List PB}:∀{i:Int},(∀j,i<=j->j<i+Bs.length->p j=q j)->zS F p i Bs=zS F q i Bs:=by
 induction Bs with
 | nil=>exact λ_=>rfl
 | cons B Bs ih=>intro i h;show _::_=_::_;rw[h i (Int.le_refl i) zEf,ih λj hj hj'=>h j (Int.le_of_lt hj) (zB3▸hj':j<i+((Bs.length+1:Nat):Int))]
theorem zFT {c:PB->Bool}{p q:Int->Bool}{Bs:List PB}:∀{i:Int},(∀j,i<=j->j<i+Bs.length->p j=q j)->zn c p i Bs=zn c q i Bs:=by
 induction Bs with
 | nil=>exact λ_=>rfl
 | cons B Bs ih=>intro i h;show (_||_)=(_||_);rw[h i (Int.le_refl i) zEf,ih λj hj hj'=>h j (Int.le_of_lt hj) (zB3▸hj':j<i+((Bs.length+1:Nat):Int))]
theorem uB {F:PB->PB}{p:Int->Bool}{P:PB->Prop}(hF:∀B,P B->P (F B)){Bs:List PB}:∀{i:Int},(∀B∈Bs,P B)->∀B∈zS F p i Bs,P B:=by
 induction Bs with
 | nil=>exact λ_=>zD
 | cons B Bs ih=>exact λ{i} h=>zB (by cases q:p i;exact h _ (.head _);exact hF _ (h _ (.head _))) (ih (zH h))
theorem FnOK.sw {F:PB->PB}{p:Int->Bool}{Bs:List PB}(ok:FnOK Bs)(hF:∀B,BOK Bs.length B->BOK Bs.length (F B)):FnOK (zS F p 0 Bs):=by
 refine⟨by rw[uC];exact ok.one,by rw[uC];exact ok.few,?_⟩
 rw[uC]
 exact uB hF ok.blks
theorem BOK.withSt {N:Nat}{B:PB}{ss:List PS}(h:BOK N B)(hl:ss.length<=B.steps.length)(hs:∀p∈ss,Zn p):BOK N (withSt B ss):=⟨Nat.le_trans hl h.len,hs,h.ends,h.ways,h.goals⟩
noncomputable def wI (p:PS):PS:=⟨p.op,-1,p.args,p.more,false⟩
theorem vp {sl:Zg}{am:Za}{P:PS->Prop}(hP:∀p,P p->yO p.op=true->P (wI p)){ends:List Opd}{k:Nat}{ss:List PS}(h:∀p∈ss,P p):(jn sl am ss ends k).length<=ss.length/\∀q∈jn sl am ss ends k,P q.1:=by
 have key:∀(ts:List PS) (s:Nat×List (PS×Bool)) (N:Nat),(∀p∈ts,P p)->s.2.length<=N->(∀q∈s.2,P q.1)->(ts.foldl (zM sl am) s).2.length<=N+ts.length/\∀q∈(ts.foldl (zM sl am) s).2,P q.1:=λts=>by
  induction ts with
  | nil=>exact λs N _ h1 h2=>⟨h1,h2⟩
  | cons p ts ih=>
   intro s N h h1 h2
   rw[List.foldl_cons,List.length_cons,Nat.add_comm ts.length,<-Nat.add_assoc]
   have hp:=h p (.head _)
   refine ih _ _ (zH h) ?_ ?_
   ·unfold zM
    split
    ·split
     ·exact Nat.le_succ_of_le h1
     ·exact Nat.succ_le_succ h1
    ·split
     ·exact Nat.le_succ_of_le h1
     ·split
      ·exact Nat.succ_le_succ h1
      ·exact Nat.succ_le_succ h1
   ·unfold zM
    split
    ·split
     ·exact h2
     ·exact zB hp h2
    ·split
     ·exact h2
     ·split
      ·rename_i hc
       exact zB (hP p hp (Bool.and_eq_true_iff.mp hc).2) h2
      ·exact zB hp h2
 have:=key ss.reverse (addA k ends,[]) 0 (λp hp=>h p (List.mem_reverse.mp hp)) (Nat.le_refl _) zD
 rw[List.length_reverse,Nat.zero_add] at this
 exact this
theorem Zn.freed {p:PS}(h:Zn p)(hc:yO p.op=true):Zn (wI p):=by
 have e:p.op=3\/p.op=4:=(Bool.or_eq_true_iff.mp hc).imp Nat.eq_of_beq_eq_true Nat.eq_of_beq_eq_true
 refine⟨λq=>h.div q,λq=>?_,λq=>?_,λq=>?_,h.few,h.regs⟩<;>(have q:p.op=_:=q;lia)
theorem FnOK.swB {sl:Zg}{am:Za}{AH:List (Int×Nat)}{p:Int->Bool}{Bs:List PB}(ok:FnOK Bs):FnOK (zS (swB sl am AH) p 0 Bs):=ok.sw λB h=>by
 unfold Mine.Internal.swB
 split
 ·obtain⟨h1,h2⟩:=vp (sl:=sl) (am:=am) (λp w c=>Zn.freed w c) (ends:=B.fin.args) (k:=zL AH B.ways) h.wf
  refine h.withSt (by rw[List.length_map];exact h1) λp hp=>?_
  obtain⟨q,hq,rfl⟩:=List.mem_map.mp hp
  exact h2 q hq
 ·exact h
end
noncomputable section
variable {X:Cx}{n:Nat}{G:Gh}{sc:Scope}{os:List (Option Val)}{m:M}
noncomputable abbrev stL (f ad tk:Addr)(c:Bool)(b k:Option Val):M:=L wZ [some (.ref f),some (.ref ad),some (.ref tk),some (.bool c),b,k,none,none]
noncomputable def upTo (i:Nat):Int->Bool:=λj=>decide (j<i)
noncomputable def SoI (G0:Gh)(f ad tk:Addr)(bls:List Addr)(Bs:List PB)(am:Za)(t:Nat)(r:List Addr)(m:M)(G:Gh):Prop:=
 ∀C:M->Prop,(∀(i:Nat) (c:Bool) (b k:Option Val),r=bls.drop i->ExtB bls G0 G->Zd G 0 bls (zS (swS am t) (upTo i) 0 Bs)->c=zn (chS am t) (upTo i) 0 Bs->C (stL f ad tk c b k))->C m
theorem SoI.mk {G0:Gh}{f ad tk:Addr}{bls:List Addr}{Bs:List PB}{am:Za}{t:Nat}{r:List Addr}{c:Bool}{b k:Option Val}(i:Nat)(e1:r=bls.drop i)(x:ExtB bls G0 G)(hB:Zd G 0 bls (zS (swS am t) (upTo i) 0 Bs))(hc:c=zn (chS am t) (upTo i) 0 Bs):SoI G0 f ad tk bls Bs am t r (stL f ad tk c b k) G:=λ_ h=>h i c b k e1 x hB hc
structure CoI (G0:Gh)(am:Za)(t:Nat)(goal:List PS)(N:Nat)(r:List PS)(ks:List Addr)(G:Gh):Prop where
 e:G0=G
 w:∀p∈r,Zn p
 h:∃qs,Zb G0 ks qs/\qs++yA am t r=goal
 l:ks.length+r.length<=N
theorem zEl {am:Za}{t:Nat}{p:PS}{r:List PS}(h:yE am t p=false):yA am t (p::r)=p::yA am t r:=List.filter_cons_of_pos (p:=λp=>!yE am t p) (by rw[h];rfl)
theorem zEm {am:Za}{t:Nat}{p:PS}{r:List PS}(h:yE am t p=true):yA am t (p::r)=yA am t r:=List.filter_cons_of_neg (p:=λp=>!yE am t p) (by rw[h];decide)
theorem zAx (i:Nat):orp (upTo i) (i:Int)=upTo (i+1):=by
 funext j
 show (decide (j<(i:Int))||decide (j=(i:Int)))=decide (j<((i+1:Nat):Int))
 rw[Bool.eq_iff_iff,Bool.or_eq_true,decide_eq_true_iff,decide_eq_true_iff,decide_eq_true_iff]
 exact Int.le_iff_lt_or_eq.symm.trans Int.lt_add_one_iff.symm
theorem uu {f ad ta:Addr}{pr:List Int}{sl:Zg}{bls:List Addr}{Bs:List PB}{am:Za}{t:Nat}{Q:QE}(T:Tops X)(hf:Zk G f pr sl bls)(hB:Zd G 0 bls Bs)(hnd:bls.Nodup)(ok:FnOK Bs)(ha:G ad=some (.dict (adE am)))(hok:AdOK am sl)(ht:Zf G ta t)
  (k1:am.isEmpty=true->Q (.bool false) G) (k2:am.isEmpty=false->∀G',ExtB bls G G'->Zd G' 0 bls (zS (swS am (zj sl am Bs t)) (λ_=>true) 0 Bs)->Q (.bool (zn (chS am (zj sl am Bs t)) (λ_=>true) 0 Bs)) G'):Cal X (n+3) ze [.ref f,.ref ad,.ref ta] G Q:=by
 refine' Cal.start (os:=?os) T.d_sweep_stores ?q ?b;case q=>walk_at"r"
 case b=>
 refine SnB.ifs (r:=!(!(adE am).isEmpty)) (.not (.val (v:=.ref ad) (by walk_at"r") (.dict ha))) (λe=>.retT (Rd.to Rd.tru (k1 ?_))) λe=>.nilT ?_
 ·cases am with
  | nil=>rfl
  | cons _ _=>cases e
 have hne:am.isEmpty=false:=by
  cases am with
  | nil=>cases e
  | cons _ _=>rfl
 refine SnB.assignQ (Sn.ref T.f_taken_slots (by walk_at"r") (λ_ _=>rfl) (vs:=[.ref f,.ref ad,.ref ta]) (by walk_at"r") (vW T hf hB ok ha hok ht λtk G1 h1 x1 s1=>⟨_,by walk_at"r",?_⟩))
 generalize zj sl am Bs t=t2 at *
 refine SnB.assign (v:=.bool false) .tru (by walk_at"r") ?_
 have hf1:=hf.ext x1
 have x1':=x1.toB (bls:=bls)
 have hB1:=hB.ext x1
 have ha1:=x1 _ _ ha
 obtain⟨ff,fp,fl,fb,f1,⟨g1,g2,g3⟩,f2,f3,f4⟩:=id hf1
 have hlen:=hB1.length
 have e0:∀{i:Int},0<=i->upTo 0 i=false:=λh=>decide_eq_false (Int.not_lt.mpr h)
 clear hB ha hf x1 h1 ht hok k1 e f2 g1 g2 hf1
 refine SnB.forM .ref (by walk_at"r") f4 (SoI G1 f ad tk bls Bs am t2) (.mk 0 rfl .refl (by rw[jG (q:=λ_=>false) λj hj=>e0 hj,um];exact hB1) (by rw[jU (q:=λ_=>false) λj hj=>e0 hj,vQ])) (λr m G' hI=>hI (λ_=>_) λ_ _ _ _ _ x _ _=>x _ _ (hB1.off f4 rfl) f4) (λb r m G2 QT hI hN hR=>?_) λm G2 hI=>?_
 ·apply hI
  intro i c bv kv e3 x hb hc
  have hlt:i<bls.length:=Nat.lt_of_not_le λq=>by rw[List.drop_eq_nil_of_le q] at e3;cases e3
  rw[List.drop_eq_getElem_cons hlt] at e3
  obtain⟨eb,er⟩:=List.cons.inj e3
  have hb0:bls[i]?=some b:=by rw[List.getElem?_eq_getElem hlt,eb]
  have hB0:Bs[i]?=some (Bs[i]'(hlen▸hlt)):=List.getElem?_eq_getElem _
  generalize (Bs[i]'(hlen▸hlt))=B at hB0
  have hBm:=ok.blks B (List.mem_of_getElem? hB0)
  have hcur:=jW (F:=swS am t2) (p:=upTo i) (i:=0) hB0
  rw[if_neg (by rw[Int.zero_add,show upTo i (i:Int)=false from decide_eq_false (Int.lt_irrefl _)];decide)] at hcur
  obtain⟨b',hb0',⟨sts,eo,hb1,hb2,hb3,hb4⟩⟩:=hb.get hcur
  rw[hb0] at hb0';obtain rfl:b=b':=Option.some.inj hb0'
  rw[Int.zero_add] at hb1
  have hbm:=List.mem_of_getElem? hb0
  obtain⟨fbb,stl,q1,⟨b1,b2,b3⟩,q3⟩:=id hb1
  have hsl:=hb2.length
  have hcp:sts.length<cap:=by rw[hsl];exact Nat.lt_of_le_of_lt hBm.len (by decide)
  have ha2:=x _ _ (hB1.off ha1 rfl) ha1
  have hs2:Zf G2 tk t2:=by obtain⟨fr,s⟩:=s1;exact⟨fr,x _ _ (hB1.off s rfl) s⟩
  refine⟨_,.name (Upd.put (os':=[some (.ref f),some (.ref ad),some (.ref tk),some (.bool c),some (.ref b),kv,none,none]) (by walk_at"r")),.cons (SnS.assignComp (by decide +kernel) (.seq (Rd.to (v:=.ref stl) (by walk_at"r") ⟨_,_,.list q3,by rw[List.length_map];exact hcp,_,.cap (sc':=jq) [none,none,none,some (.ref ad),some (.ref tk)] (.stM G2 .ref (CoI G2 am t2 (yA am t2 B.steps) B.steps.length) (λa p ps ks G3 P1 P2 s1' hI k1 k2'=>?_) (λks G3 hI=>?_)) ?_,⟨sts,[],rfl,rfl,B.steps,hb2,rfl,hBm.wf,⟨[],.nil,rfl⟩,Nat.le_of_eq (Nat.zero_add _)⟩⟩)))⟩
  ·obtain⟨rfl,hw,⟨qs,hk,hg⟩,hl⟩:=hI
   refine⟨q3,_,Upd.bnd (os:=[none,none,none,some (.ref ad),some (.ref tk)]) (os':=[none,some (.ref a),none,some (.ref ad),some (.ref tk)]) (by walk_at"r"),.cons (SnT.mono (RdT.not (t:=yE am t2 p) (.val (.ref T.f_is_store_to (by walk_at"r") (λ_ _=>rfl) (vs:=[.ref a,.ref ad,.ref tk]) (by walk_at"r") (v9 T s1' (hw p (.head _)) ha2 hs2 ⟨rfl,rfl⟩)) (.bool _))) λtt G' ee=>?_)⟩
   obtain⟨rfl,rfl⟩:=ee
   refine⟨λe=>.nil ⟨λ_=>Rd.to (v:=.ref a) (by walk_at"r") (k1 ⟨rfl,zH hw,⟨qs++[p],hk.snoc s1',?_⟩,by rw[List.length_append,List.length_singleton,Nat.add_assoc,Nat.add_comm 1];exact hl⟩),λq=>nomatch q⟩,λe=>⟨(λq=>nomatch q),λ_=>k2' ⟨rfl,zH hw,⟨qs,hk,?_⟩,Nat.le_of_succ_le hl⟩⟩⟩
   ·rw[Bool.not_eq_true'] at e
    rw[zEl e] at hg
    rw[<-hg,List.append_assoc];rfl
   ·rw[Bool.not_eq_false'] at e
    rw[zEm e] at hg
    exact hg
  ·obtain⟨rfl,_,⟨qs,hk,hg⟩,hl⟩:=hI
   obtain rfl:qs=yA am t2 B.steps:=by rw[<-hg];exact(List.append_nil qs).symm
   refine⟨q3,λkp hkp=>⟨_,Upd.put (os':=[some (.ref f),some (.ref ad),some (.ref tk),some (.bool c),some (.ref b),some (.ref kp),none,none]) (by walk_at"r"),.next ?_⟩⟩
   have x4:=Ext.new (o:=.list (ks.map .ref)) hkp
   have l4:=Gh.upd_same G2 kp (.list (ks.map .ref))
   generalize G2.upd kp (.list (ks.map .ref))=G4 at x4 l4
   have q1':=x4 _ _ q1
   have next:∀(c':Bool) (G5:Gh),Ext1 b G4 G5->c'=(c||chS am t2 B)->Ym G5 b i (swS am t2 B)->QT .next (stL f ad tk c' (some (.ref b)) (some (.ref kp))) G5:=λc' G5 x5 ec hbk=>hN (.mk (i+1) er (x.trans (x4.toB.trans (x5.toB hbm))) (by rw[<-zAx];exact(hb.ext x4).one x5 q1' hb0 hnd (by rw[Int.zero_add]) λB' q=>by rw[hB0] at q;cases q;exact hbk) (by rw[ec,hc,<-zAx,zBd (j:=(i:Int)) (i:=0) hB0 (by rw[Int.zero_add])]))
   have hC:decide (((ks.map Val.ref).length:Int)<((sts.map Val.ref).length:Int))=chS am t2 B:=by rw[List.length_map,List.length_map,hk.length,hsl];exact zFP
   refine SnB.ifs (r:=chS am t2 B) (hC▸RdT.cmp (.fn (id:="len") T.blt (by decide) (by decide) (by walk_at"r") (λ_ _=>rfl) (vs:=[.ref kp]) (by walk_at"r") (Blt.lenL l4 (by rw[List.length_map];exact Nat.lt_of_le_of_lt hl (hsl▸hcp)) ⟨rfl,rfl⟩)) (.fn (id:="len") T.blt (by decide) (by decide) (by walk_at"r") (λ_ _=>rfl) (vs:=[.ref stl]) (by walk_at"r") (Blt.lenL (x4 _ _ q3) (by rw[List.length_map];exact hcp) ⟨rfl,rfl⟩)) (.lt ⟨rfl,rfl⟩)) (λe=>?_) λe=>.nil (.next (.nil (next c G4 .refl (by rw[e,Bool.or_false]) ?_)))
   ·refine SnB.setAN (f:=.steps) T.cls (by walk_at"r") (v:=.ref kp) (by walk_at"r") (by walk_at"r") q1' λG5 x5 e5=>SnB.assign (v:=.bool true) .tru (by walk_at"r") (.nil (.next (.nil (next true G5 x5 (by rw[e,Bool.or_true]) ?_))))
    have kk:=x5.nb q1'
    rw[show swS am t2 B=withSt B (yA am t2 B.steps) from if_pos e]
    exact⟨ks,eo,⟨_,kp,e5,⟨b1,rfl,b3⟩,kk _ _ rfl l4⟩,(hk.ext x4).map λ_ _ s=>s.keep kk,(hb3.ext x4).keep kk,(hb4.ext x4).keep kk⟩
   ·rw[show swS am t2 B=B from if_neg (by rw[e];decide)]
    exact⟨sts,eo,hb1.ext x4,hb2.ext x4,hb3.ext x4,hb4.ext x4⟩
  ·exact capn (capn (capn (capv ⟨by walk_at"r",by walk_at"r",by walk_at"r"⟩ (capv ⟨by walk_at"r",by walk_at"r",by walk_at"r"⟩ cap0))))
 ·apply hI
  intro i c bv kv e1 x hb hc
  have hi2:bls.length<=i:=List.drop_eq_nil_iff.mp e1.symm
  have hall:∀j:Int,0<=j->j<0+Bs.length->upTo i j=true:=λj h0 h1=>decide_eq_true (Int.lt_of_lt_of_le (by rwa [Int.zero_add] at h1) (Int.ofNat_le.mpr (hlen▸hi2)))
  rw[zDw hall] at hb
  rw[zFT hall] at hc
  exact SnB.retB (Rd.to (v:=.bool c) (by walk_at"r") (hc▸k2 hne G2 (x1'.trans x) hb))
end
noncomputable section
variable {X:Cx}{n:Nat}{G:Gh}{sc:Scope}{os:List (Option Val)}{m:M}
inductive A2P (X:Cx)(n:Nat)(sc:Scope)(os:List (Option Val))(x y:Str)(sts:List Stmt)(Q:QS)(v:Val)(G':Gh):Prop where
 | mk (v1 v2:Val) (os' os'':List (Option Val)) (e:v=.tup [v1,v2]) (u1:Upd false sc.names os x v1 os') (u2:Upd false sc.names os' y v2 os'') (q:SnB X n sc sts (L sc os'') G' Q)
theorem SnB.assign2Q {Q:QS}{e:Expr}{x y:Str}{k:Nat}{p1 p2 p pos:Pos}{sts:List Stmt}(h:Sn X n sc e (L sc os) G (A2P X n sc os x y sts Q))
  (hsw:∀env,swapsWithSole [.Tuple [.Name x p1,.Name y p2] k p] e pos.line env=pure false:=by intro _;rfl) (hw:∀env,swappedStores [.Tuple [.Name x p1,.Name y p2] k p] e env=pure .none:=by intro _;rfl):SnB X n sc (.Assign [.Tuple [.Name x p1,.Name y p2] k p] e pos::sts) (L sc os) G Q:=
 .cons (.assignT (h.mono λv G' q=>by obtain⟨v1,v2,os',os'',rfl,u1,u2,q⟩:=q;exact⟨_,.tup (.two u1 u2),.next q⟩) hsw hw)
theorem zHL {β:Type}{P:β->Prop}{l:List (Int×β)}{k:Int}{v:β}(h:∀e∈l,P e.2)(hv:P v):∀e∈st l k v,P e.2:=λe he=>(zEd he).elim (h e) λq=>q▸hv
theorem zHT {sl:Zg}{pa:List Int}{ss:List PS}(hw:∀p∈ss,Yc sl p)(hs:sl.length<=16):AdOK (zK pa ss).1 sl:=by
 have h1:∀(ps:List PS) (l:Za),(∀p∈ps,p∈ss/\p.op=9)->(∀e∈l,0<=e.2/\e.2.toNat<sl.length)->∀e∈ps.foldl (λl p=>st l p.dst (yw p.more)) l,0<=e.2/\e.2.toNat<sl.length:=λps=>by
  induction ps with
  | nil=>exact λ_ _ h=>h
  | cons p ps ih=>
   intro l hp h
   refine ih _ (zH hp) (zHL (P:=λi:Int=>0<=i/\i.toNat<sl.length) h ?_)
   obtain⟨q1,q2⟩:=hp p (.head _)
   obtain⟨i,e,z⟩:=hw p q1 q2
   rw[e];exact z
 have h2:∀(O:List (Int×Int)) (ps:List PS) (s:Za×Nat),(∀e∈s.1,0<=e.2/\e.2.toNat<sl.length)->∀e∈(ps.foldl (zX O) s).1,0<=e.2/\e.2.toNat<sl.length:=λO ps=>by
  induction ps with
  | nil=>exact λ_ h=>h
  | cons p ps ih=>
   intro s h
   refine ih _ ?_
   unfold zX
   split
   ·exact h
   ·exact λe he=>h e (List.mem_filter.mp he).1
 refine⟨λk s e=>?_,hs⟩
 have:=h2 (jF pa (j7 (zi ss)) ss) (zi ss) (j7 (zi ss),0) (h1 _ [] (λp h=>yB h) λe h=>nomatch h)
 unfold vg at e
 obtain⟨kv,h3,h4⟩:=Option.map_eq_some_iff.mp e
 rw[<-h4]
 exact this kv (List.mem_of_find?_eq_some h3)
noncomputable def zCe (sl:Zg)(R:Za×Nat)(Bs:List PB)(c:Bool):List PB×Bool:=
 if R.1.isEmpty then(Bs,c) else(zS (swS R.1 (zj sl R.1 Bs R.2)) (λ_=>true) 0 Bs,c||zn (chS R.1 (zj sl R.1 Bs R.2)) (λ_=>true) 0 Bs)
noncomputable def ul (sl:Zg)(R:Za×Nat)(AH:List (Int×Nat))(Bs:List PB):List PB×Bool:=
 zCe sl R (zS (swB sl R.1 AH) (λi=>(lk AH i).isSome) 0 Bs) (zn (λB=>chgB (wv sl R.1 AH B) B) (λi=>(lk AH i).isSome) 0 Bs)
theorem FnOK.swS {am:Za}{t:Nat}{p:Int->Bool}{Bs:List PB}(ok:FnOK Bs):FnOK (zS (swS am t) p 0 Bs):=ok.sw λB h=>by
 unfold Mine.Internal.swS
 split
 ·exact h.withSt (List.length_filter_le _ _) λp hp=>h.wf p (List.mem_filter.mp hp).1
 ·exact h
theorem zAS {f:Addr}{pr:List Int}{sl:Zg}{bls:List Addr}{Bs:List PB}{W0:List Int}{AH:List (Int×Nat)}{Q:QE}(T:Tops X)(hf:Zk G f pr sl bls)(hB:Zd G 0 bls Bs)(hnd:bls.Nodup)(ok:FnOK Bs)(ht:(z5 Bs).length<=900)(hp:pr.length<=50)(hw:∀p∈z5 Bs,Yc sl p)(hsl:sl.length<=16)
  (hpo:zDZ Bs=some W0) (hW:PoOK Bs W0) (hL:∀l∈zo Bs,l.length<=16) (hgo:naGo sl (zK pr (z5 Bs)).1 Bs (zo Bs) 100 W0 0 (AH0 W0) (IW0 W0)=some AH)
  (kk:∀G',ExtB bls G G'->Zd G' 0 bls (ul sl (zK pr (z5 Bs)) AH Bs).1->Q (.bool (ul sl (zK pr (z5 Bs)) AH Bs).2) G'):Cal X (n+7) wP [.ref f] G Q:=by
 refine' Cal.start (os:=?os) T.d_sweep_func ?q ?b;case q=>walk_at"r"
 case b=>
 have hok:=zHT (pa:=pr) hw hsl
 refine SnB.assign2Q (Sn.ref T.f_slot_registers (by walk_at"r") (λ_ _=>rfl) (vs:=[.ref f]) (by walk_at"r") (uE T hf hB ht hp hw hsl λad ta G1 x1 a1 s1=>⟨.ref ad,.ref ta,_,_,rfl,by walk_at"r",by walk_at"r",?_⟩))
 generalize zK pr (z5 Bs)=R at *
 refine SnB.assignQ (Sn.ref T.f_sweep_steps (by walk_at"r") (λ_ _=>rfl) (vs:=[.ref f,.ref ad]) (by walk_at"r") (vY T (hf.ext x1) a1 hok (hB.ext x1) hnd ok hpo hW hL hgo λG2 x2 hB2=>⟨_,by walk_at"r",?_⟩))
 have hB1:=hB.ext x1
 have a2:=x2 _ _ (hB1.off a1 rfl) a1
 have s2:Zf G2 ta R.2:=by obtain⟨fr,s⟩:=s1;exact⟨fr,x2 _ _ (hB1.off s rfl) s⟩
 have hf2:=(hf.ext x1).extB hB1 x2
 have x12:ExtB bls G G2:=x1.toB.trans x2
 have ok2:=FnOK.swB (sl:=sl) (am:=R.1) (AH:=AH) (p:=λi=>(lk AH i).isSome) ok
 unfold ul at kk
 generalize zS (swB sl R.1 AH) (λi=>(lk AH i).isSome) 0 Bs=Bs1 at *
 generalize zn (λB=>chgB (wv sl R.1 AH B) B) (λi=>(lk AH i).isSome) 0 Bs=c1 at *
 refine .cons (.ifs (.val (Sn.ref T.f_sweep_stores (by walk_at"r") (λ_ _=>rfl) (vs:=[.ref f,.ref ad,.ref ta]) (by walk_at"r") (uu T hf2 hB2 hnd ok2 a2 hok s2 (λe=>⟨false,.bool _,(λq=>Bool.noConfusion q),λ_=>.nilT ?_⟩) λhne G3 x3 hB3=>⟨_,.bool _,λe=>?_,λe=>.nilT ?_⟩))))
 ·have e':zCe sl R Bs1 c1=(Bs1,c1):=if_pos e
  rw[e'] at kk
  exact SnB.retB (Rd.to (v:=.bool c1) (by walk_at"r") (kk G2 x12 hB2))
 all_goals
  have e':zCe sl R Bs1 c1=(zS (swS R.1 (zj sl R.1 Bs1 R.2)) (λ_=>true) 0 Bs1,c1||zn (chS R.1 (zj sl R.1 Bs1 R.2)) (λ_=>true) 0 Bs1):=if_neg (by rw[hne];decide)
  rw[e',e] at kk
  have kk:=kk G3 (x12.trans x3) hB3
 ·rw[Bool.or_true] at kk
  exact SnB.assign (v:=.bool true) .tru (by walk_at"r") (.nilT (SnB.retB (Rd.to (v:=.bool true) (by walk_at"r") kk)))
 ·rw[Bool.or_false] at kk
  exact SnB.retB (Rd.to (v:=.bool c1) (by walk_at"r") kk)
end
noncomputable section
variable {X:Cx}{n:Nat}{G:Gh}{sc:Scope}{os:List (Option Val)}{m:M}
inductive RowV (G:Gh)(p:PS)(v:Val):Prop where
 | mk (la:Addr) (e:v=.tup [.str (opS p.op),.int p.dst,.ref la,p.more,.bool p.vol]) (h:G la=some (.list (p.args.map opdV))) (ho:p.op<36)
inductive Zm (G:Gh):List PS->List Val->Prop where
 | nil:Zm G [] []
 | cons {p:PS} {ps:List PS} {v:Val} {vs:List Val}:RowV G p v->Zm G ps vs->Zm G (p::ps) (v::vs)
inductive RowL (G:Gh)(ps:List PS)(a:Addr):Prop where
 | mk (vs:List Val) (e:G a=some (.list vs)) (h:Zm G ps vs)
theorem RowV.ext {G':Gh}{p:PS}{v:Val}(h:RowV G p v)(x:Ext G G'):RowV G' p v:=by obtain⟨la,e,h,ho⟩:=h;exact⟨la,e,x _ _ h,ho⟩
theorem Zm.ext {G':Gh}{ps:List PS}{vs:List Val}(h:Zm G ps vs)(x:Ext G G'):Zm G' ps vs:=by
 induction h with
 | nil=>exact .nil
 | cons a _ ih=>exact .cons (a.ext x) ih
theorem RowL.ext {G':Gh}{ps:List PS}{a:Addr}(h:RowL G ps a)(x:Ext G G'):RowL G' ps a:=by obtain⟨vs,e,h⟩:=h;exact⟨vs,x _ _ e,h.ext x⟩
theorem Zm.append {ps qs:List PS}{vs ws:List Val}(h:Zm G ps vs)(k:Zm G qs ws):Zm G (ps++qs) (vs++ws):=by
 induction h with
 | nil=>exact k
 | cons a _ ih=>exact .cons a ih
theorem Zm.length {ps:List PS}{vs:List Val}(h:Zm G ps vs):vs.length=ps.length:=by
 induction h with
 | nil=>rfl
 | cons _ _ ih=>exact congrArg (· + 1) ih
theorem Sn.newN {Q:QE}{k:Cls}{fi:Addr}{id:Str}{es:List Expr}{vs:List Val}{p pos:Pos}(hc:Z0 X id k fi)(hco:Z5 X)(hk:Ze sc id)(hn:Zj es)(h:Rds X n sc es m G vs)
  (q:∀a G',G a=none->Ext G G'->G' a=some (.inst k λ_=>none)->Cal X n fi (.ref a::vs) G' λv G2=>v=.none/\Q (.ref a) G2):Sn X n sc (.Call (.Name id p) es [] pos) m G Q:=
 Sn.new hc hco hk hn (h.to λa ha=>q a _ ha (.new ha) (Gh.upd_same ..))
inductive SAP (X:Cx)(n:Nat)(sc:Scope)(o:Expr)(f:Fld)(sts:List Stmt)(m:M)(Q:QS)(v:Val)(G₁:Gh):Prop where
 | mk (a:Addr) (c:Cls) (fs:Fld->Option Val) (h1:Rd X n sc o m G₁ (.ref a)) (h2:G₁ a=some (.inst c fs)) (q:∀G',Ext1 a G₁ G'->G' a=some (.inst c (fput fs f v))->SnB X n sc sts m G' Q)
theorem SnB.setAQ {Q:QS}{o e:Expr}{attr:Str}{f:Fld}{p pos:Pos}{sts:List Stmt}(hc:Z5 X)(ha:Zs attr f)(h:Sn X n sc e m G (SAP X n sc o f sts m Q))
  (hsw:∀env,swapsWith e (some (.Attribute o attr p)) pos.line env=pure false:=by intro _;rfl):SnB X n sc (.Assign [.Attribute o attr p] e pos::sts) m G Q:=
 .cons (.setAttr hc f ha.eq (h.mono λv G1 q=>by obtain⟨a,c,fs,ho,e1,k⟩:=q;exact ho.to ⟨a,c,fs,rfl,e1,.next (k _ .upd (Gh.upd_same ..))⟩) hsw)
theorem Sn.newBlock {Q:QE}{e:Expr}{i:Int}{p pos:Pos}(T:Tops X)(hk:Ze sc "Block")(hn:Zj [e])(h:Rds X (n+1) sc [e] m G [.int i])
  (k:∀b st fs G',G b=none->G st=none->b≠st->Ext G G'->G' b=some (.inst .block fs)->fs .number=some (.int i)->fs .steps=some (.ref st)->G' st=some (.list [])->Q (.ref b) G'):Sn X (n+1) sc (.Call (.Name "Block" p) [e] [] pos) m G Q:=by
 refine Sn.newN T.f_Block T.cls hk hn h λb G1 hb x1 b1=>?_
 refine' Cal.start (os:=?os) T.d_Block ?q ?b;case q=>walk_at"r"
 case b=>
 refine SnB.setAN (f:=.number) T.cls (by walk_at"r") (by walk_at"r") (by walk_at"r") b1 λG2 x2 b2=>?_
 refine SnB.setAQ (f:=.steps) T.cls (by walk_at"r") (Sn.listN .nil λst G3 hst x3 s3=>⟨b,.block,_,by walk_at"r",x3 _ _ b2,λG4 x4 b4=>?_⟩)
 refine SnB.setAN (f:=.end_) T.cls (by walk_at"r") (v:=.none) (by walk_at"r") (by walk_at"r") b4 λG5 x5 b5=>?_
 have x12:=x1.fresh hb x2
 have bs:=ne_new b2 hst
 exact .nil (.next ⟨rfl,k b st _ G5 hb (x12.none hst) bs ((x12.trans x3).fresh hb (x4.trans x5)) b5 rfl rfl (x5 _ _ (Ne.symm bs) (x4 _ _ (Ne.symm bs) s3))⟩)
theorem Sn.newStepN {Q:QE}{es:List Expr}{p pos:Pos}{s:PS}(T:Tops X)(hk:Ze sc "Step")(hn:Zj es)(h:SnEs X (n+1) sc es m G λvs G1=>∃la,vs=[.str (opS s.op),.int s.dst,.ref la,s.more]/\∀a fs G',G1 a=none->Ext G1 G'->Zw fs ⟨s.op,s.dst,s.args,s.more,false⟩ la->G' a=some (.inst .step fs)->Q (.ref a) G') :
  Sn X (n+1) sc (.Call (.Name "Step" p) es [] pos) m G Q:=Sn.new T.f_Step T.cls hk hn ⟨λhy=>h.use hy λys s₁ vs G1 hv hy1 f1 q=>.mk vs G1 hv hy1.hr f1 (by obtain⟨la,e,k⟩:=q;subst e;exact λa ha=>zEB T λfs hfs=>⟨rfl,k a fs _ ha (.new ha) hfs (Gh.upd_same ..)⟩)⟩
end
noncomputable section
def Sub (a b:Nat):Prop:=∀r:Nat,a.testBit r=true->b.testBit r=true
theorem Sub.refl {a:Nat}:Sub a a:=λ_ h=>h
theorem Sub.trans {a b c:Nat}(h:Sub a b)(k:Sub b c):Sub a c:=λr q=>k r (h r q)
theorem Sub.or {a b c d:Nat}(h:Sub a b)(k:Sub c d):Sub (a ||| c) (b ||| d):=λr q=>by
 rw[Nat.testBit_or,Bool.or_eq_true] at q ⊢
 exact q.elim (λq=>.inl (h r q)) λq=>.inr (k r q)
theorem Sub.setb {a b:Nat}(h:Sub a b)(k:Int):Sub (setb a k) (setb b k):=h.or .refl
theorem zCg {a:Nat}(k:Int):Sub a (Mine.Internal.setb a k):=λr q=>by
 unfold Mine.Internal.setb
 rw[Nat.testBit_or,q];rfl
theorem Sub.addA {args:List Opd}:∀{a b:Nat},Sub a b->Sub (addA a args) (addA b args):=by
 induction args with
 | nil=>exact λh=>h
 | cons o l ih=>
  intro a b h
  refine ih (a:=if o.1 then Mine.Internal.setb a o.2 else a) (b:=if o.1 then Mine.Internal.setb b o.2 else b) ?_
  split
  ·exact h.setb _
  ·exact h
theorem jX {args:List Opd}:∀{a:Nat},Sub a (Mine.Internal.addA a args):=by
 induction args with
 | nil=>exact Sub.refl
 | cons o l ih=>
  intro a
  refine Sub.trans ?_ (ih (a:=if o.1 then Mine.Internal.setb a o.2 else a))
  split
  ·exact zCg _
  ·exact .refl
theorem j6 {m:Nat}{k:Int}(h:zF m k=true)(r:Nat):(clrb m k).testBit r=(m.testBit r&&!decide (k.toNat=r)):=by
 unfold zF at h
 obtain⟨_,h⟩:=Bool.and_eq_true_iff.mp h
 unfold clrb
 rw[Nat.testBit_xor,Nat.testBit_two_pow]
 by_cases q:k.toNat=r
 ·subst q;rw[h];simp
 ·rw[decide_eq_false q];simp
theorem yi {a b:Nat}(h:Sub a b){k:Int}(q:zF a k=true):zF b k=true:=by
 unfold zF at q ⊢
 obtain⟨q1,q2⟩:=Bool.and_eq_true_iff.mp q
 exact Bool.and_eq_true_iff.mpr ⟨q1,h _ q2⟩
theorem Sub.needStep {sl:Zg}{ad:Za}{p:PS}{a b:Nat}(h:Sub a b):Sub (needStep sl ad a p) (needStep sl ad b p):=by
 unfold Mine.Internal.needStep
 cases qa:zF a p.dst with
 | true=>
  rw[yi h qa,if_pos rfl,if_pos rfl]
  refine Sub.addA λr q=>?_
  rw[j6 qa] at q
  rw[j6 (yi h qa)]
  obtain⟨q1,q2⟩:=Bool.and_eq_true_iff.mp q
  exact Bool.and_eq_true_iff.mpr ⟨h _ q1,q2⟩
 | false=>
  rw[if_neg Bool.false_ne_true]
  cases qb:zF b p.dst with
  | false=>
   rw[if_neg Bool.false_ne_true]
   split
   ·exact h
   ·exact h.addA
  | true=>
   have ne:∀r,a.testBit r=true->(clrb b p.dst).testBit r=true:=λr q=>by
    rw[j6 qb,h r q,Bool.true_and,Bool.not_eq_true',decide_eq_false_iff_not]
    intro e
    unfold zF at qa qb
    rw[(Bool.and_eq_true_iff.mp qb).1,e,q] at qa
    cases qa
   rw[if_pos rfl]
   split
   ·exact Sub.trans ne jX
   ·exact Sub.addA ne
theorem Sub.needP {sl:Zg}{ad:Za}{ps:List PS}{en:List Opd}{a b:Nat}(h:Sub a b):Sub (needP sl ad ps en a) (needP sl ad ps en b):=by
 unfold Mine.Internal.needP
 have key:∀(l:List PS) {a b:Nat},Sub a b->Sub (l.foldl (Mine.Internal.needStep sl ad) a) (l.foldl (Mine.Internal.needStep sl ad) b):=λl=>by
  induction l with
  | nil=>exact λh=>h
  | cons p l ih=>exact λh=>ih h.needStep
 exact key _ h.addA
end
noncomputable section
section
variable {β:Type}
theorem yb (e:Int×β)(l:List (Int×β))(k:Int):lk (e::l) k=if e.1=k then some e.2 else lk l k:=by
 unfold lk
 rw[List.find?_cons]
 by_cases h:e.1=k
 ·rw[decide_eq_true h,if_pos h];rfl
 ·rw[decide_eq_false h,if_neg h]
theorem zAe (l:List (Int×β))(k j:Int)(v:β):lk (st l k v) j=if j=k then some v else lk l j:=by
 unfold st
 by_cases a:l.any (λe=>decide (e.1=k))=true
 ·rw[if_pos a]
  induction l with
  | nil=>cases a
  | cons e l ih=>
   rw[List.map_cons,yb,yb]
   by_cases h:e.1=k
   ·rw[if_pos h]
    by_cases q:j=k
    ·rw[if_pos q,if_pos (h.trans q.symm)]
    ·rw[if_neg q,if_neg (λz=>q (z.symm.trans h)),if_neg (λz=>q (z.symm.trans h))]
     clear ih a
     induction l with
     | nil=>rfl
     | cons e' l ih=>
      rw[List.map_cons,yb,yb,ih]
      by_cases h':e'.1=k
      ·rw[if_pos h',if_neg (λz=>q (z.symm.trans h')),if_neg (λz=>q (z.symm.trans h'))]
      ·rw[if_neg h']
   ·rw[if_neg h,ih (by rw[List.any_cons,decide_eq_false h] at a;exact a)]
    by_cases q:j=k
    ·rw[if_pos q,if_neg (λz=>h (z.trans q)),if_pos q]
    ·rw[if_neg q,if_neg q]
 ·rw[if_neg a]
  induction l with
  | nil=>rw[List.nil_append,yb];exact ite_congr (propext eq_comm) (λ_=>rfl) λ_=>rfl
  | cons e l ih=>
   rw[List.any_cons,Bool.or_eq_true,not_or] at a
   have h:e.1≠k:=λz=>a.1 (decide_eq_true z)
   rw[List.cons_append,yb,yb,ih a.2]
   by_cases q:j=k
   ·rw[if_pos q,if_neg (λz=>h (z.trans q)),if_pos q]
   ·rw[if_neg q,if_neg q]
end
noncomputable abbrev Kn:=List (Int×(Int×Option Int))
noncomputable abbrev Me:=List (Int×Int)
noncomputable abbrev Nt:=List (Val×List Int×List Int)
noncomputable abbrev MSt:=Kn×Me×Nt
noncomputable abbrev Gv:=List (Int×Option Int)
noncomputable def sz:Int:=4294967296
noncomputable def argT (kn:Kn)(o:Opd):Option (Int×Option Int):=if o.1 then(lk kn o.2).bind λe=>if Int.fmod e.1 sz=e.1 then some e else none else some (o.2,none)
noncomputable def wX (kn:Kn)(args:List Opd):Option Gv:=args.foldr (λo a=>(argT kn o).bind λv=>a.map (v::·)) (some [])
noncomputable def getM (m:Me)(a:Int):Int:=(lk m a).getD 0
noncomputable def getW (m:Me)(at_:Int)(w:Nat):Int:=(List.range w).foldl (λ(v:Int) (i:Nat)=>v+getM m (at_+i) * 256 ^ i) 0
noncomputable def getS (m:Me)(at_:Int)(w:Nat)(sg:Bool):Int:=if sg&&decide (getW m at_ w >= Int.fdiv (256 ^ w) 2) then getW m at_ w - 256 ^ w else getW m at_ w
noncomputable def putM (m:Me)(at_:Int)(w:Nat)(v:Int):Me:=(List.range w).foldl (λm (i:Nat)=>st m (at_+i) (Int.fmod (Int.fdiv v (256 ^ i)) 256)) m
noncomputable def wG (a w:Int):Bool:=(decide (4096<=a)&&decide (a+w<=4104))||(decide (4112<=a)&&decide (a+w<=4116))||(decide (8192<=a)&&decide (a+w<=8200))
noncomputable def u9 (e:Int×Option Int):Bool:=e.2.elim (decide (8192<=e.1)&&decide (e.1<=8207)) λs=>decide (0<=s)&&decide (s<=1)&&decide (e.1=4096+16 * s)
noncomputable def sgnP (v:Int):Int:=if v >= 2147483648 then v - sz else v
noncomputable def zC8 (x y:Int):Int:=if decide (x<0)=decide (y<0) then Int.fdiv x.natAbs y.natAbs else -(Int.fdiv x.natAbs y.natAbs)
noncomputable def zFx (op:Nat)(a b:Int):Int:=
 if op=6 then Int.fdiv a b else if op=8 then Int.fmod a b else if op=5 then zC8 (sgnP a) (sgnP b) else sgnP a - zC8 (sgnP a) (sgnP b) * sgnP b
noncomputable def zF9 (op:Nat)(a b:Int):Int:=
 if wH op then zFx op a b else if op=13 then a+b else if op=14 then a - b else if op=15 then a * b else if op=16 then Builtin.bitAnd a b
 else if op=17 then Builtin.bitOr a b else if op=18 then Builtin.bitXor a b else if op=22 then b2i (decide (sgnP a<sgnP b)) else if op=23 then b2i (decide (a<b))
 else if op=24 then b2i (decide (a=b)) else if op=25 then b2i (!decide (a=b)) else if op=19 then a * 2 ^ b.toNat else if op=20 then Int.fdiv a (2 ^ b.toNat) else Int.fdiv (sgnP a) (2 ^ b.toNat)
noncomputable def zDq (op:Nat)(a:Int):Int:=
 if op=26 then -a else if op=27 then -1 - a else if op=28 then Int.fmod (a+128) 256 - 128 else if op=29 then Int.fmod (a+32768) 65536 - 32768
 else if op=30 then Int.fmod a 256 else if op=31 then Int.fmod a 65536 else a
noncomputable abbrev Eff:=Option (Option ((Int×Option Int)×Me×Nt))
noncomputable def g0 (g:Gv):Int×Option Int:=g.getD 0 (0,none)
noncomputable def g1 (g:Gv):Int×Option Int:=g.getD 1 (0,none)
noncomputable def zGE (op:Nat)(g:Gv)(w v:Int):Val×List Int×List Int:=(.str (opS op),g.map (·.1),[w,v])
noncomputable def accE (op:Nat)(g:Gv)(w:Int)(vol:Bool)(v:Int)(mem:Me)(nt:Nt):Eff:=some (some ((v,none),mem,if vol then nt++[zGE op g w v] else nt))
noncomputable def sgP:Val->Bool
 | .tup [_,.bool b]=>b
 | _=>false
noncomputable def zCP (g:Gv)(w:Int)(sg vol:Bool)(mem:Me)(nt:Nt):Eff:=if u9 (g0 g) then(if wG (g0 g).1 w then accE 0 g w vol (getS mem (g0 g).1 w.toNat sg) mem nt else some none) else none
noncomputable def jd (g:Gv)(w:Int)(vol:Bool)(mem:Me)(nt:Nt):Eff:=if u9 (g0 g) then(if wG (g0 g).1 w then accE 1 g w vol 0 (putM mem (g0 g).1 w.toNat (g1 g).1) nt else some none) else none
noncomputable def zEb (g:Gv)(w:Int)(vol:Bool)(mem:Me)(nt:Nt):Eff:=if u9 (g0 g)&&u9 (g1 g) then(if wG (g0 g).1 w&&wG (g1 g).1 w then accE 2 g w vol 0 (putM mem (g0 g).1 w.toNat (getW mem (g1 g).1 w.toNat)) nt else some none) else none
noncomputable def vm (more:Val)(g:Gv)(mem:Me)(nt:Nt):Eff:=if u9 (g0 g) then some (some ((getW mem (g0 g).1 4 * 5+(g1 g).1,none),putM mem (g0 g).1 4 (getW mem (g0 g).1 4 * 3+(g1 g).1+(nt.length+1)),nt++[(more,g.map (·.1),[getW mem (g0 g).1 4])])) else none
noncomputable def arV (op:Nat)(g:Gv):Int:=if g.length=2 then zF9 op (g0 g).1 (g1 g).1 else zDq op (g0 g).1
noncomputable def arE (op:Nat)(g:Gv)(mem:Me)(nt:Nt):Eff:=if wH op&&decide ((g1 g).1=0) then some none else some (some ((arV op g,if op=10 then(g0 g).2 else none),mem,nt))
noncomputable def kd (op:Nat):Nat:=if op<=3 then op else if op=9 then 4 else if op=12 then 5 else 6
noncomputable def effT (p:PS)(g:Gv)(mem:Me)(nt:Nt):Eff:=
 if kd p.op=0 then zCP g (zD2 p.more) (sgP p.more) p.vol mem nt else if kd p.op=1 then jd g (yw p.more) p.vol mem nt else if kd p.op=2 then zEb g (zD2 p.more) p.vol mem nt
 else if kd p.op=3 then vm p.more g mem nt else if kd p.op=4 then some (some ((4096+16 * yw p.more,some (yw p.more)),mem,nt)) else if kd p.op=5 then some (some ((8192,none),mem,nt)) else arE p.op g mem nt
noncomputable def setK (kn:Kn)(d:Int)(e:Int×Option Int):Kn:=if 0<=d then st kn d (Int.fmod e.1 sz,e.2) else kn
noncomputable def zBA (p:PS)(s:MSt):Option (Option MSt):=(wX s.1 p.args).bind λg=>(effT p g s.2.1 s.2.2).map λo=>o.map λr=>(setK s.1 p.dst r.1,r.2.1,r.2.2)
noncomputable def runS (ps:List PS):MSt->Option (Bool×MSt):=ps.foldr (λp k s=>(zBA p s).bind λo=>o.elim (some (false,s)) k) λs=>some (true,s)
noncomputable abbrev Out1:=Val×Nt×Int
noncomputable def outT (v:Val)(s:MSt):Out1:=(v,s.2.2,getW s.2.1 8192 8)
noncomputable def endV (e:PS)(kn:Kn):Option Int:=if e.op=32 then some 0 else(wX kn e.args).map λg=>(g0 g).1
noncomputable def wayI (e:PS)(ways:List Int)(v:Int):Nat:=
 if e.op=32 then 0 else if e.op=33 then(if v=0 then 1 else 0) else
 if Int.fmod (v - zD2 e.more) sz<(ways.length:Int) - 1 then(Int.fmod (v - zD2 e.more) sz).toNat else ways.length - 1
noncomputable def runG (Bs:List PB)(k:Nat):Int->MSt->Option Out1:=
 Nat.rec (motive:=λ_=>Int->MSt->Option Out1) (λ_ s=>some (.str "long",s.2.2,0)) (λ_ go i s=>(Bs[i.toNat]?).bind λB=>(runS B.steps s).bind λr=>
  if r.1 then(endV B.fin r.2.1).bind λv=>if B.fin.op=35 then some (outT (.int v) r.2) else(B.ways[wayI B.fin B.ways v]?).bind λj=>go j r.2
  else some (outT (.str "fault") r.2)) k
theorem jt (Bs:List PB)(k:Nat)(i:Int)(s:MSt):runG Bs (k+1) i s=(Bs[i.toNat]?).bind λB=>(runS B.steps s).bind λr=>
  if r.1 then(endV B.fin r.2.1).bind λv=>if B.fin.op=35 then some (outT (.int v) r.2) else(B.ways[wayI B.fin B.ways v]?).bind λj=>runG Bs k j r.2
  else some (outT (.str "fault") r.2):=rfl
theorem wx (p:PS)(ps:List PS)(s:MSt):runS (p::ps) s=(zBA p s).bind λo=>o.elim (some (false,s)) (runS ps):=rfl
noncomputable def w6 (op:Nat):Bool:=(Nat.ble 13 op&&Nat.ble op 25)||wH op
noncomputable def yd (op:Nat):Bool:=Nat.beq op 10||Nat.beq op 11||(Nat.ble 26 op&&Nat.ble op 31)
noncomputable def isSh (op:Nat):Bool:=Nat.ble 19 op&&Nat.ble op 21
inductive DrS:PS->Prop
 | two {op:Nat} {d:Int} {a b:Opd} (h1:w6 op=true) (h2:isSh op=true->b.1=false/\b.2<32):DrS ⟨op,d,[a,b],.int 0,false⟩
 | one {op:Nat} {d:Int} {a:Opd} (h:yd op=true):DrS ⟨op,d,[a],.int 0,false⟩
 | load {d w:Int} {a:Opd} {sg v:Bool} (hw:w=1\/w=2\/w=4) (ha:a.1=true):DrS ⟨0,d,[a],.tup [.int w,.bool sg],v⟩
 | store {w:Int} {a b:Opd} {v:Bool} (hw:w=1\/w=2\/w=4) (ha:a.1=true):DrS ⟨1,-1,[a,b],.int w,v⟩
 | move {a b:Opd} {v:Bool} (ha:a.1=true) (hb:b.1=true):DrS ⟨2,-1,[a,b],.tup [.int 4,.int 4],v⟩
 | call {d:Int} {a b:Opd} (ha:a.1=true):DrS ⟨3,d,[a,b],.str "poke",false⟩
 | slot {d s:Int} (hs:s=0\/s=1):DrS ⟨9,d,[],.int s,false⟩
 | name {d:Int}:DrS ⟨12,d,[],.tup [.str "g",.int 0],false⟩
structure DrW (p:PS):Prop where
 dr:DrS p
 args:∀o∈p.args,0<=o.2/\(o.1=true->o.2<9)/\o.2<sz
theorem uU {op:Nat}(h:w6 op=true):op<26:=by
 unfold w6 wH at h
 rw[Bool.or_eq_true,Bool.and_eq_true,Bool.and_eq_true] at h
 exact h.elim (λq=>Nat.lt_succ_of_le (Nat.le_of_ble_eq_true q.2)) λq=>Nat.lt_of_le_of_lt (Nat.le_of_ble_eq_true q.2) (by decide)
theorem zCb {op:Nat}(h:w6 op=true):kd op=6:=(by decide:∀k:Fin 26,w6 k.1=true->kd k.1=6) ⟨op,uU h⟩ h
theorem zAA {op:Nat}(h:yd op=true):op<32:=by
 unfold yd at h
 rw[Bool.or_eq_true,Bool.or_eq_true,Bool.and_eq_true] at h
 rcases h with (h | h) | h
 ·rw[Nat.eq_of_beq_eq_true h];decide
 ·rw[Nat.eq_of_beq_eq_true h];decide
 ·exact Nat.lt_succ_of_le (Nat.le_of_ble_eq_true h.2)
theorem uZ {op:Nat}(h:yd op=true):kd op=6/\wH op=false:=(by decide:∀k:Fin 32,yd k.1=true->kd k.1=6/\wH k.1=false) ⟨op,zAA h⟩ h
theorem u3 {p:PS}(h:kd p.op=6)(g:Gv)(mem:Me)(nt:Nt):effT p g mem nt=arE p.op g mem nt:=by unfold effT;rw[h];rfl
theorem DrS.freed {p:PS}(h:DrS p)(hc:yO p.op=true):DrS (wI p):=by
 have key:∀k:Fin 32,yO k.1=true->w6 k.1=false/\yd k.1=false:=by decide
 cases h with
 | two h1 _=>rw[(key ⟨_,Nat.lt_trans (uU h1) (by decide)⟩ hc).1] at h1;cases h1
 | one h=>rw[(key ⟨_,zAA h⟩ hc).2] at h;cases h
 | call ha=>exact .call ha
 | load=>cases hc
 | store=>cases hc
 | move=>cases hc
 | slot=>cases hc
 | name=>cases hc
theorem DrW.freed {p:PS}(h:DrW p)(hc:yO p.op=true):DrW (wI p):=⟨h.dr.freed hc,h.args⟩
end
noncomputable section
noncomputable def AgrK (m:Nat)(k1 k2:Kn):Prop:=∀r,zF m r=true->lk k1 r=lk k2 r
theorem AgrK.sub {a b:Nat}{k1 k2:Kn}(h:AgrK b k1 k2)(s:Sub a b):AgrK a k1 k2:=λr q=>h r (yi s q)
theorem zIV {k1 k2:Kn}{o:Opd}(h:o.1=true->lk k1 o.2=lk k2 o.2):argT k1 o=argT k2 o:=by
 unfold argT
 cases e:o.1 with
 | true=>rw[h e]
 | false=>rfl
theorem zG9 {k1 k2:Kn}{args:List Opd}(h:∀o∈args,o.1=true->lk k1 o.2=lk k2 o.2):wX k1 args=wX k2 args:=by
 induction args with
 | nil=>rfl
 | cons o l ih=>
  show (argT k1 o).bind _=(argT k2 o).bind _
  rw[zIV (h o (.head _))]
  exact congrArg _ (funext λv=>congrArg _ (ih (zH h)))
theorem zGg {args:List Opd}{o:Opd}(ho:o∈args)(h1:o.1=true)(h0:0<=o.2):∀{m:Nat},zF (Mine.Internal.addA m args) o.2=true:=by
 induction args with
 | nil=>cases ho
 | cons a l ih=>
  intro m
  rcases List.mem_cons.mp ho with rfl | q
  ·refine yi (a:=if o.1 then Mine.Internal.setb m o.2 else m) jX ?_
   rw[if_pos h1,<-congrFun (jO h0 (m:=m)) o.2,decide_eq_true rfl,Bool.or_true]
  ·exact ih q
theorem AgrK.args {m:Nat}{k1 k2:Kn}{args:List Opd}(h:AgrK (Mine.Internal.addA m args) k1 k2)(h0:∀o∈args,o.1=true->0<=o.2):wX k1 args=wX k2 args:=zG9 λo ho h1=>h _ (zGg ho h1 (h0 o ho h1))
noncomputable def KI (am:Za)(P:Int->Prop)(kn:Kn):Prop:=∀r e,lk kn r=some e->(∀s,lk am r=some s->e.2=some s)/\∀s,e.2=some s->lk am r=some s\/P s
structure SR (am:Za)(P:Int->Prop)(p:PS):Prop where
 only:0<=p.dst->∀s,lk am p.dst=some s->p.op=9/\p.more=.int s
 slot:p.op=9->∀s,p.more=.int s->lk am p.dst=some s\/P s
 copy:p.op=10->∀o∈p.args,o.1=true->∀s,lk am o.2=some s->P s
theorem jx {kn:Kn}{a:Opd}{l:List Opd}{g:Gv}(h:wX kn (a::l)=some g):argT kn a=some (g0 g)/\∃g',wX kn l=some g'/\g=g0 g::g':=by
 obtain⟨v,h1,h2⟩:=Option.bind_eq_some_iff.mp (show (argT kn a).bind _=some g from h)
 obtain⟨g',h3,h4⟩:=Option.map_eq_some_iff.mp h2
 subst h4
 exact⟨h1,g',h3,rfl⟩
theorem yX {kn:Kn}{a:Opd}{e:Int×Option Int}(h:argT kn a=some e)(ha:a.1=true):lk kn a.2=some e/\Int.fmod e.1 sz=e.1:=by
 unfold argT at h
 rw[if_pos ha] at h
 obtain⟨v,h1,h2⟩:=Option.bind_eq_some_iff.mp h
 by_cases q:Int.fmod v.1 sz=v.1
 ·rw[if_pos q] at h2;cases h2;exact⟨h1,q⟩
 ·rw[if_neg q] at h2;cases h2
theorem yG {kn:Kn}{a:Opd}{e:Int×Option Int}(h:argT kn a=some e)(ha:a.1=false):e=(a.2,none):=by
 unfold argT at h
 rw[if_neg (by rw[ha];decide)] at h
 exact(Option.some.inj h).symm
theorem zC6 {op:Nat}{g:Gv}{w:Int}{vol:Bool}{v:Int}{mem:Me}{nt:Nt}{o:(Int×Option Int)×Me×Nt}(h:accE op g w vol v mem nt=some (some o)):o.1.2=none:=by
 unfold accE at h
 rw[<-Option.some.inj (Option.some.inj h)]
theorem jA {α:Type}{c:Prop}[Decidable c]{a b:Option α}{x:α}(h:(if c then a else b)=some x)(hb:b=none):c/\a=some x:=by
 by_cases q:c
 ·rw[if_pos q] at h;exact⟨q,h⟩
 ·rw[if_neg q,hb] at h;cases h
theorem zAk {α:Type}{c:Prop}[Decidable c]{a:Option (Option α)}{x:α}(h:(if c then a else some none)=some (some x)):c/\a=some (some x):=by
 by_cases q:c
 ·rw[if_pos q] at h;exact⟨q,h⟩
 ·rw[if_neg q] at h;cases h
theorem zID {p:PS}(hd:DrS p){g:Gv}{mem:Me}{nt:Nt}{o:(Int×Option Int)×Me×Nt}(h:effT p g mem nt=some (some o)){s:Int}(hs:o.1.2=some s):(p.op=9/\p.more=.int s)\/(p.op=10/\(g0 g).2=some s):=by
 have no:o.1.2=none->(p.op=9/\p.more=.int s)\/(p.op=10/\(g0 g).2=some s):=λq=>by rw[q] at hs;cases hs
 have ar:kd p.op=6->(p.op=9/\p.more=.int s)\/(p.op=10/\(g0 g).2=some s):=λq=>by
  rw[u3 q] at h
  unfold arE at h
  by_cases c:(wH p.op&&decide ((g1 g).1=0))=true
  ·rw[if_pos c] at h;cases h
  ·rw[if_neg c] at h
   rw[<-Option.some.inj (Option.some.inj h)] at hs
   by_cases e:p.op=10
   ·rw[if_pos e] at hs;exact .inr ⟨e,hs⟩
   ·rw[if_neg e] at hs;cases hs
 cases hd with
 | two h1 _=>exact ar (zCb h1)
 | one h1=>exact ar (uZ h1).1
 | load=>
  have h:zCP g _ _ _ mem nt=some (some o):=h
  unfold zCP at h;exact no (zC6 (zAk (jA h rfl).2).2)
 | store=>
  have h:jd g _ _ mem nt=some (some o):=h
  unfold jd at h;exact no (zC6 (zAk (jA h rfl).2).2)
 | move=>
  have h:zEb g _ _ mem nt=some (some o):=h
  unfold zEb at h;exact no (zC6 (zAk (jA h rfl).2).2)
 | call=>
  have h:vm _ g mem nt=some (some o):=h
  unfold vm at h;exact no (by rw[<-Option.some.inj (Option.some.inj (jA h rfl).2)])
 | slot=>
  have h:=Option.some.inj (Option.some.inj h)
  rw[<-h] at hs
  exact .inl ⟨rfl,congrArg Val.int (Option.some.inj hs)⟩
 | name=>exact no (by rw[<-Option.some.inj (Option.some.inj h)])
theorem wN {kn:Kn}{d j:Int}{e:Int×Option Int}:lk (setK kn d e) j=if 0<=d/\j=d then some (Int.fmod e.1 sz,e.2) else lk kn j:=by
 unfold setK
 by_cases q:0<=d
 ·rw[if_pos q,zAe]
  by_cases z:j=d
  ·rw[if_pos z,if_pos ⟨q,z⟩]
  ·rw[if_neg z,if_neg λc=>z c.2]
 ·rw[if_neg q,if_neg λc=>q c.1]
theorem zAN {p:PS}{s:MSt}{o:Option MSt}(h:zBA p s=some o):∃g o',wX s.1 p.args=some g/\effT p g s.2.1 s.2.2=some o'/\o=o'.map λr=>(setK s.1 p.dst r.1,r.2.1,r.2.2):=by
 obtain⟨g,h1,h2⟩:=Option.bind_eq_some_iff.mp h
 obtain⟨o',h3,h4⟩:=Option.map_eq_some_iff.mp h2
 exact⟨g,o',h1,h3,h4.symm⟩
theorem KI.step {am:Za}{P:Int->Prop}{p:PS}{kn:Kn}{g:Gv}{mem:Me}{nt:Nt}{o:(Int×Option Int)×Me×Nt}(hd:DrS p)(hr:SR am P p)(h:KI am P kn)(hg:wX kn p.args=some g)(he:effT p g mem nt=some (some o)):KI am P (setK kn p.dst o.1):=λr e hl=>by
 rw[wN] at hl
 by_cases q:0<=p.dst/\r=p.dst
 ·rw[if_pos q] at hl
  obtain⟨q0,rfl⟩:=q
  rw[<-Option.some.inj hl]
  refine⟨λs hs=>?_,λs hs=>?_⟩
  ·obtain⟨h1,h2⟩:=hr.only q0 s hs
   have e4:effT p g mem nt=some (some ((4096+16 * s,some s),mem,nt)):=by unfold effT;rw[h1,h2];rfl
   rw[e4] at he
   rw[<-Option.some.inj (Option.some.inj he)]
  ·rcases zID hd he hs with ⟨h1,h2⟩ | ⟨h1,h2⟩
   ·exact hr.slot h1 s h2
   ·refine .inr ?_
    have hc:=hr.copy h1
    cases p with | mk op dst args more vol=>
    cases args with
    | nil=>
     have:g=[]:=(Option.some.inj hg).symm
     rw[this] at h2;cases h2
    | cons a l=>
     have ha:=(jx hg).1
     cases a1:a.1 with
     | false=>rw[yG ha a1] at h2;cases h2
     | true=>exact((h _ _ (yX ha a1).1).2 s h2).elim (hc a (.head _) a1 s) id
 ·rw[if_neg q] at hl
  exact h r e hl
end
noncomputable section
noncomputable def cntP (p:PS):Bool:=p.vol||Nat.beq p.op 3||Nat.beq p.op 2||(wH p.op&&(p.args.getD 1 (false,0)).1)
inductive LsK:List PS->List (PS×Bool)->Prop
 | nil:LsK [] []
 | drop {p:PS} {ps:List PS} {kq:List (PS×Bool)} (h:cntP p=false) (t:LsK ps kq):LsK (p::ps) kq
 | keep {p:PS} {ps:List PS} {kq:List (PS×Bool)} (t:LsK ps kq):LsK (p::ps) ((p,false)::kq)
 | free {p:PS} {ps:List PS} {kq:List (PS×Bool)} (h:p.op=3) (h0:0<=p.dst) (t:LsK ps kq):LsK (p::ps) ((wI p,true)::kq)
theorem LsK.len {ps:List PS}{kq:List (PS×Bool)}(h:LsK ps kq):kq.length<=ps.length:=by
 induction h with
 | nil=>exact Nat.le_refl _
 | drop _ _ ih=>exact Nat.le_succ_of_le ih
 | keep _ ih=>exact Nat.succ_le_succ ih
 | free _ _ _ ih=>exact Nat.succ_le_succ ih
theorem LsK.same {ps:List PS}{kq:List (PS×Bool)}(h:LsK ps kq)(h1:Nat.blt kq.length ps.length=false)(h2:kq.any (·.2)=false):kq.map (·.1)=ps:=by
 induction h with
 | nil=>rfl
 | @drop p ps kq _ t ih=>
  have:Nat.blt kq.length (p::ps).length=true:=Nat.ble_eq_true_of_le (Nat.succ_le_succ t.len)
  rw[this] at h1;cases h1
 | keep _ ih=>exact congrArg _ (ih h1 h2)
 | free _ _ _ ih=>cases h2
theorem LsK.map {kq:List (PS×Bool)}{B:PB}(h:LsK B.steps kq):(if chgB kq B then withSt B (kq.map (·.1)) else B)=withSt B (kq.map (·.1)):=by
 by_cases q:chgB kq B=true
 ·rw[if_pos q]
 ·rw[if_neg q]
  unfold chgB at q
  rw[Bool.or_eq_true,not_or,Bool.not_eq_true,Bool.not_eq_true] at q
  rw[h.same q.1 q.2];rfl
theorem uy {p:PS}(hd:DrS p)(h:zT p=true):p.op=10/\p.args=[(true,p.dst)]:=by
 unfold zT at h
 obtain⟨h1,h2⟩:=Bool.and_eq_true_iff.mp h
 have h1:=Nat.eq_of_beq_eq_true h1
 refine⟨h1,?_⟩
 cases hd with
 | @two op _ _ _ q _=>rw[show op=10 from h1] at q;cases q
 | one q=>
  obtain⟨h3,h4⟩:=Bool.and_eq_true_iff.mp h2
  exact congrArg (·::[]) (Prod.ext h3 (eq_of_beq h4))
 | load=>cases h1
 | store=>cases h1
 | move=>cases h1
 | call=>cases h1
 | slot=>cases h1
 | name=>cases h1
theorem zEI {m:Nat}{k:Int}(h:zF m k=true):setb (clrb m k) k=m:=Nat.eq_of_testBit_eq λi=>by
 unfold setb
 rw[Nat.testBit_or,j6 h,Nat.testBit_two_pow]
 by_cases q:k.toNat=i
 ·unfold zF at h
  rw[<-q,(Bool.and_eq_true_iff.mp h).2,decide_eq_true rfl];rfl
 ·rw[decide_eq_false q,Bool.or_false,Bool.not_false,Bool.and_true]
theorem zDO {sl:Zg}{am:Za}{p:PS}(hd:DrS p)(s:Nat×List (PS×Bool)):(zM sl am s p).1=needStep sl am s.1 p:=by
 unfold zM needStep
 by_cases h:zF s.1 p.dst=true
 ·rw[if_pos h,if_pos h]
  by_cases q:zT p=true
  ·rw[if_pos q,(uy hd q).2]
   exact(zEI h).symm
  ·rw[if_neg q]
 ·rw[if_neg h,if_neg h]
  by_cases q:zY sl am p=true
  ·rw[if_pos q,if_pos q]
  ·rw[if_neg q,if_neg q]
   by_cases c:(decide (p.dst >= 0)&&yO p.op)=true
   ·rw[if_pos c]
   ·rw[if_neg c]
noncomputable def swF (sl:Zg)(am:Za)(ps:List PS)(m:Nat):Nat×List (PS×Bool):=ps.foldr (λp s=>zM sl am s p) (m,[])
theorem uA {sl:Zg}{am:Za}{ps:List PS}{en:List Opd}{m:Nat}:jn sl am ps en m=(swF sl am ps (addA m en)).2:=by
 unfold jn swF
 rw[List.foldl_reverse]
theorem zFf {sl:Zg}{am:Za}{ps:List PS}{en:List Opd}{m:Nat}(h:∀p∈ps,DrS p):(swF sl am ps (addA m en)).1=needP sl am ps en m:=by
 unfold needP swF
 rw[List.foldl_reverse]
 generalize addA m en=m
 induction ps with
 | nil=>rfl
 | cons p ps ih=>
  show (zM sl am _ p).1=needStep sl am _ p
  rw[zDO (h p (.head _)),<-ih (zH h)]
noncomputable abbrev sl0:Zg:=[(8,4),(4,4)]
theorem vt {s w:Int}(h0:0<=s)(h1:s<=1)(hw:w<=zk sl0 s):wG (4096+16 * s) w=true:=by
 unfold wG
 rcases zHH ⟨h0,Int.lt_of_le_of_lt h1 (by decide)⟩ with rfl | rfl
 ·have:w<=8:=hw
  rw[decide_eq_true (p:=4096<=_) (by decide),decide_eq_true (p:=(4096+16 * 0+w:Int)<=(4104:Int)) (Int.add_le_add_left this 4096)];rfl
 ·have:w<=4:=hw
  rw[decide_eq_true (p:=4112<=_) (by decide),decide_eq_true (p:=(4096+16 * 1+w:Int)<=(4116:Int)) (Int.add_le_add_left this 4112),Bool.true_and,Bool.or_true];rfl
theorem zAt {e:Int×Option Int}{s:Int}(h:u9 e=true)(hs:e.2=some s):0<=s/\s<=1/\e.1=4096+16 * s:=by
 unfold u9 at h
 rw[hs] at h
 obtain⟨h,h3⟩:=Bool.and_eq_true_iff.mp h
 obtain⟨h1,h2⟩:=Bool.and_eq_true_iff.mp h
 exact⟨of_decide_eq_true h1,of_decide_eq_true h2,of_decide_eq_true h3⟩
theorem zDB {sl:Zg}{am:Za}{p:PS}(h:zY sl am p=true):zAg p.op=false:=by
 unfold zY at h
 have key:∀k:Nat,yV k=false->zAg k=false:=λk hk=>by
  unfold yV at hk
  unfold zAg
  rw[Bool.and_eq_false_iff]
  exact .inr (Bool.eq_false_iff.mpr λq=>Bool.eq_false_iff.mp hk (Nat.ble_eq_true_of_le (Nat.le_trans (Nat.le_of_ble_eq_true q) (by decide))))
 by_cases q:(!yV p.op)=true
 ·exact key _ (by rw[Bool.not_eq_true'] at q;exact q)
 ·rw[if_neg q] at h
  by_cases c:(!(Nat.beq p.op 0)||p.vol)=true
  ·rw[if_pos c] at h
   unfold j5 at h
   have:=(Bool.and_eq_true_iff.mp h).1
   rw[Bool.not_eq_true',Bool.or_eq_false_iff] at this
   exact this.1
  ·rw[Bool.or_eq_true,not_or,Bool.not_eq_true',Bool.not_eq_false] at c
   rw[Nat.eq_of_beq_eq_true c.1];rfl
theorem zGR {op:Nat}(h:wH op=true):op<9:=Nat.lt_succ_of_le (Nat.le_of_ble_eq_true (Bool.and_eq_true_iff.mp h).2)
theorem zDC {sl:Zg}{am:Za}{op:Nat}{d:Int}{a b:Opd}(h:zY sl am ⟨op,d,[a,b],.int 0,false⟩=true)(hd:wH op=true):b.1=false/\b.2≠0:=by
 have h9:=zGR hd
 have h2:yV op=true/\Nat.beq op 0=false:=(by decide:∀k:Fin 9,wH k.1=true->yV k.1=true/\Nat.beq k.1 0=false) ⟨op,h9⟩ hd
 unfold zY at h
 rw[if_neg (by rw[h2.1];decide),if_pos (by rw[h2.2];rfl)] at h
 unfold j5 at h
 have h:=(Bool.and_eq_true_iff.mp h).2
 unfold wz at h
 rw[if_neg (by rw[h2.2];exact Bool.false_ne_true),if_neg (by rw[hd];decide)] at h
 have h:(!(b.1||Int.fmod b.2 4294967296 == 0))=true:=h
 rw[Bool.not_eq_true',Bool.or_eq_false_iff] at h
 exact⟨h.1,λq=>by rw[q] at h;cases h.2⟩
theorem zB6 {am:Za}{d w:Int}{a:Opd}{sg v:Bool}(h:zY sl0 am ⟨0,d,[a],.tup [.int w,.bool sg],v⟩=true):v=false/\∃s,lk am a.2=some s/\w<=zk sl0 s:=by
 cases v with
 | true=>cases h
 | false=>
  have h:(a.1&&(vg am a.2).elim false λs=>decide (w<=zk sl0 s))=true:=by
   have h2:zY sl0 am ⟨0,d,[a],.tup [.int w,.bool sg],false⟩=(a.1&&(match vg am a.2 with | some s=>decide (w<=zk sl0 s) | none=>false)):=rfl
   rw[h2] at h
   cases q:vg am a.2 with
   | none=>rw[q] at h;exact h
   | some s=>rw[q] at h;exact h
  obtain⟨h1,h2⟩:=Bool.and_eq_true_iff.mp h
  cases q:vg am a.2 with
  | none=>rw[q] at h2;cases h2
  | some s=>rw[q] at h2;exact⟨rfl,s,q,of_decide_eq_true h2⟩
end
noncomputable section
theorem zF1 {op:Nat}{g:Gv}{mem:Me}{nt:Nt}(h:wH op=true->(g1 g).1≠0):∃e,arE op g mem nt=some (some (e,mem,nt)):=by
 unfold arE
 rw[if_neg]
 ·exact⟨_,rfl⟩
 ·rw[Bool.and_eq_true]
  exact λq=>h q.1 (of_decide_eq_true q.2)
theorem zFM {op:Nat}(h:zAg op=false):¬(op=1\/op=2\/op=3):=λq=>by rcases q with rfl | rfl | rfl<;>cases h
theorem zGU {am:Za}{P:Int->Prop}{p:PS}{kn:Kn}{g:Gv}{mem:Me}{nt:Nt}(hd:DrS p)(hf:zY sl0 am p=true)(hk:KI am P kn)(hg:wX kn p.args=some g){o:Option ((Int×Option Int)×Me×Nt)}(he:effT p g mem nt=some o):∃e,o=some (e,mem,nt):=by
 have fin:∀{r},effT p g mem nt=some r->(∃e,r=some (e,mem,nt))->∃e,o=some (e,mem,nt):=λh q=>by rw[h] at he;rw[<-Option.some.inj he];exact q
 have ne:=zFM (zDB hf)
 cases hd with
 | two h1 _=>
  obtain⟨e,h⟩:=zF1 (op:=_) (g:=g) (mem:=mem) (nt:=nt) λq=>by
   obtain⟨b1,b2⟩:=zDC hf q
   obtain⟨_,g',h2,h3⟩:=jx hg
   obtain⟨h4,g'',h5,h6⟩:=jx h2
   rw[h3,h6]
   show (g0 g').1≠0
   rw[yG h4 b1];exact b2
  exact fin ((u3 (zCb h1) ..).trans h) ⟨e,rfl⟩
 | one h1=>
  obtain⟨e,h⟩:=zF1 (op:=_) (g:=g) (mem:=mem) (nt:=nt) λq=>by rw[(uZ h1).2] at q;cases q
  exact fin ((u3 (uZ h1).1 ..).trans h) ⟨e,rfl⟩
 | @load d w a sg v _ ha=>
  obtain⟨hv,s,h1,h2⟩:=zB6 hf
  subst hv
  have he:zCP g w sg false mem nt=some o:=he
  unfold zCP at he
  obtain⟨c,he⟩:=jA he rfl
  have hs:=(hk _ _ (yX (jx hg).1 ha).1).1 s h1
  obtain⟨s0,s1,e1⟩:=zAt c hs
  rw[e1,if_pos (vt s0 s1 h2)] at he
  exact⟨_,(Option.some.inj he).symm⟩
 | store=>exact absurd (.inl rfl) ne
 | move=>exact absurd (.inr (.inl rfl)) ne
 | call=>exact absurd (.inr (.inr rfl)) ne
 | slot=>exact fin rfl ⟨_,rfl⟩
 | name=>exact fin rfl ⟨_,rfl⟩
theorem zGV {am:Za}{p:PS}(hd:DrS p)(hf:zY sl0 am p=true):cntP p=false:=by
 have ne:=zFM (zDB hf)
 have key:∀k:Fin 32,w6 k.1=true->(Nat.beq k.1 3||Nat.beq k.1 2)=false:=by decide
 cases hd with
 | @two op _ a b h1 _=>
  have h:=key ⟨op,Nat.lt_trans (uU h1) (by decide)⟩ h1
  rw[Bool.or_eq_false_iff] at h
  show (false||Nat.beq op 3||Nat.beq op 2||(wH op&&b.1))=false
  rw[h.1,h.2]
  cases q:wH op with
  | false=>rfl
  | true=>rw[(zDC hf q).1];rfl
 | @one op _ _ h1=>
  have h:∀k:Fin 32,yd k.1=true->(Nat.beq k.1 3||Nat.beq k.1 2)=false:=by decide
  have h:=h ⟨op,zAA h1⟩ h1
  rw[Bool.or_eq_false_iff] at h
  show (false||Nat.beq op 3||Nat.beq op 2||(wH op&&_))=false
  rw[h.1,h.2,(uZ h1).2];rfl
 | load=>rw[(zB6 hf).1];rfl
 | store=>exact absurd (.inl rfl) ne
 | move=>exact absurd (.inr (.inl rfl)) ne
 | call=>exact absurd (.inr (.inr rfl)) ne
 | slot=>rfl
 | name=>rfl
theorem zFk {p:PS}(hd:DrS p)(h:zT p=true):cntP p=false:=by
 have e:=(uy hd h).1
 cases hd with
 | @two op _ _ _ q _=>rw[show op=10 from e] at q;cases q
 | @one op _ _ q=>
  have e:op=10:=e
  subst e;rfl
 | load=>cases e
 | store=>cases e
 | move=>cases e
 | call=>cases e
 | slot=>cases e
 | name=>cases e
theorem zJ0 {p:PS}(hd:DrS p)(h:yO p.op=true):p.op=3:=by
 have key:∀k:Fin 32,yO k.1=true->w6 k.1=false/\yd k.1=false:=by decide
 cases hd with
 | two h1 _=>rw[(key ⟨_,Nat.lt_trans (uU h1) (by decide)⟩ h).1] at h1;cases h1
 | one h1=>rw[(key ⟨_,zAA h1⟩ h).2] at h1;cases h1
 | call=>rfl
 | load=>cases h
 | store=>cases h
 | move=>cases h
 | slot=>cases h
 | name=>cases h
theorem zCf {am:Za}{m:Nat}:∀{ps:List PS},(∀p∈ps,DrS p)->LsK ps (swF sl0 am ps m).2:=λ{ps} h=>by
 induction ps with
 | nil=>exact .nil
 | cons p ps ih=>
  have t:=ih (zH h)
  have hd:=h p (.head _)
  show LsK (p::ps) (zM sl0 am (swF sl0 am ps m) p).2
  generalize swF sl0 am ps m=s at t
  unfold zM
  by_cases c1:zF s.1 p.dst=true
  ·rw[if_pos c1]
   by_cases q:zT p=true
   ·rw[if_pos q];exact .drop (zFk hd q) t
   ·rw[if_neg q];exact .keep t
  ·rw[if_neg c1]
   by_cases q:zY sl0 am p=true
   ·rw[if_pos q];exact .drop (zGV hd q) t
   ·rw[if_neg q]
    by_cases c:(decide (p.dst >= 0)&&yO p.op)=true
    ·rw[if_pos c]
     obtain⟨c3,c4⟩:=Bool.and_eq_true_iff.mp c
     exact .free (zJ0 hd c4) (of_decide_eq_true c3) t
    ·rw[if_neg c];exact .keep t
inductive RelA (m:Nat)(b:Bool)(s:MSt)(o:Option (Bool×MSt)):Prop where
 | mk (kn:Kn) (e:o=some (b,(kn,s.2))) (h:b=true->AgrK m s.1 kn)
theorem AgrK.set {m:Nat}{k1 k2:Kn}{d:Int}{e:Int×Option Int}(h:∀r,zF m r=true->r≠d->lk k1 r=lk k2 r)(h0:0<=d):AgrK m (setK k1 d e) (setK k2 d e):=λr q=>by
 rw[wN,wN]
 by_cases c:0<=d/\r=d
 ·rw[if_pos c,if_pos c]
 ·rw[if_neg c,if_neg c]
  exact h r q λz=>c ⟨h0,z⟩
theorem AgrK.setl {m:Nat}{k1 k2:Kn}{d:Int}{e:Int×Option Int}(h:AgrK m k1 k2)(n:zF m d≠true):AgrK m (setK k1 d e) k2:=λr q=>by
 rw[wN,if_neg λc:0<=d/\r=d=>n (c.2▸q)]
 exact h r q
theorem AgrK.set2 {m:Nat}{k1 k2:Kn}{d:Int}{e:Int×Option Int}(h:AgrK m k1 k2):AgrK m (setK k1 d e) (setK k2 d e):=λr q=>by
 rw[wN,wN]
 by_cases c:0<=d/\r=d
 ·rw[if_pos c,if_pos c]
 ·rw[if_neg c,if_neg c]
  exact h r q
theorem zAO {p:PS}{s:MSt}{g:Gv}{o:Option ((Int×Option Int)×Me×Nt)}(h1:wX s.1 p.args=some g)(h2:effT p g s.2.1 s.2.2=some o):zBA p s=some (o.map λr=>(setK s.1 p.dst r.1,r.2.1,r.2.2)):=by
 unfold zBA
 rw[h1]
 show (effT p g s.2.1 s.2.2).map _=_
 rw[h2];rfl
theorem zFN {p:PS}(h:p.op=3)(g:Gv)(mem:Me)(nt:Nt):effT (wI p) g mem nt=effT p g mem nt:=by
 have e:∀q:PS,q.op=3->effT q g mem nt=vm q.more g mem nt:=λq hq=>by unfold effT;rw[hq];rfl
 exact(e (wI p) h).trans (e p h).symm
theorem zFj {p:PS}{s:MSt}{g:Gv}{o:Option ((Int×Option Int)×Me×Nt)}(hd:DrS p)(hs:zT p=true)(h1:wX s.1 p.args=some g)(h2:effT p g s.2.1 s.2.2=some o):∃e,o=some (e,s.2)/\lk s.1 p.dst=some e/\Int.fmod e.1 sz=e.1:=by
 obtain⟨e1,e2⟩:=uy hd hs
 rw[e2] at h1
 obtain⟨h3,g',h4,h5⟩:=jx h1
 have:g'=[]:=(Option.some.inj h4).symm
 subst this
 obtain⟨h6,h7⟩:=yX h3 rfl
 rw[u3 (by rw[e1];rfl),e1] at h2
 unfold arE at h2
 rw[if_neg (by rw[show wH 10=false from rfl,Bool.false_and];decide),if_pos rfl] at h2
 refine⟨_,(Option.some.inj h2).symm,?_,?_⟩
 ·rw[h5]
  show lk s.1 p.dst=some (zDq 10 (g0 g).1,(g0 g).2)
  exact h6
 ·rw[h5];exact h7
theorem zDU {am:Za}{P:Int->Prop}{m0:Nat}:∀{ps:List PS},(∀p∈ps,DrW p/\SR am P p)->∀{s1:MSt} {k2:Kn},KI am P s1.1->AgrK (swF sl0 am ps m0).1 s1.1 k2->∀{b:Bool} {s1':MSt},runS ps s1=some (b,s1')->RelA m0 b s1' (runS ((swF sl0 am ps m0).2.map (·.1)) (k2,s1.2))/\KI am P s1'.1:=λ{ps}=>by
 induction ps with
 | nil=>
  intro _ s1 k2 hk ha b s1' h
  have h:some (true,s1)=some (b,s1'):=h
  cases Option.some.inj h
  exact⟨⟨k2,rfl,λ_=>ha⟩,hk⟩
 | cons p ps ih=>
  intro hp s1 k2 hk ha b s1' h
  have ih:=@ih (zH hp)
  obtain⟨hd,hr⟩:=hp p (.head _)
  obtain⟨o,h1,h2⟩:=Option.bind_eq_some_iff.mp ((wx p ps s1).symm.trans h)
  obtain⟨g,o',hg,he,rfl⟩:=zAN h1
  have go:∀{kk:Kn} {q:PS} {kq:List PS},wX kk q.args=some g->effT q g s1.2.1 s1.2.2=some o'->(∀r,o'=some r->AgrK (swF sl0 am ps m0).1 (setK s1.1 p.dst r.1) (setK kk q.dst r.1))->kq=(swF sl0 am ps m0).2.map (·.1)->RelA m0 b s1' (runS (q::kq) (kk,s1.2))/\KI am P s1'.1:=λ{kk q kq} hq he' hag hkq=>by
   rw[wx,zAO (s:=(kk,s1.2)) hq he']
   cases o' with
   | none=>
    have h2:some (false,s1)=some (b,s1'):=h2
    cases Option.some.inj h2
    exact⟨⟨kk,rfl,λq=>nomatch q⟩,hk⟩
   | some r=>
    rw[hkq]
    exact ih (s1:=(setK s1.1 p.dst r.1,r.2.1,r.2.2)) (KI.step hd.dr hr hk hg he) (hag r rfl) h2
  have out:(∃e,o'=some (e,s1.2)/\AgrK (swF sl0 am ps m0).1 (setK s1.1 p.dst e) k2)->RelA m0 b s1' (runS ((swF sl0 am ps m0).2.map (·.1)) (k2,s1.2))/\KI am P s1'.1:=λ⟨e,h3,h4⟩=>by
   subst h3
   exact ih (s1:=(setK s1.1 p.dst e,s1.2)) (KI.step hd.dr hr hk hg he) h4 h2
  have e0:swF sl0 am (p::ps) m0=zM sl0 am (swF sl0 am ps m0) p:=rfl
  rw[e0] at ha ⊢
  generalize swF sl0 am ps m0=s at *
  have h0:∀o∈p.args,o.1=true->0<=o.2:=λo ho _=>(hd.args o ho).1
  unfold zM at ha ⊢
  by_cases c1:zF s.1 p.dst=true
  ·rw[if_pos c1] at ha ⊢
   by_cases q:zT p=true
   ·rw[if_pos q] at ha ⊢
    obtain⟨e,h3,h4,h5⟩:=zFj hd.dr q hg he
    refine out ⟨e,h3,λr hr=>?_⟩
    rw[wN,h5]
    by_cases c:0<=p.dst/\r=p.dst
    ·rw[if_pos c,c.2];exact h4.symm.trans (ha _ c1)
    ·rw[if_neg c];exact ha r hr
   ·rw[if_neg q] at ha ⊢
    refine go (kk:=k2) ((ha.args h0).symm.trans hg) he (λr _=>.set (λj hj hn=>ha j ?_) (yx c1)) rfl
    refine yi jX ?_
    unfold zF at hj ⊢
    obtain⟨j1,j2⟩:=Bool.and_eq_true_iff.mp hj
    rw[j1,j6 c1,j2,decide_eq_false λz=>hn ?_];rfl
    have:=yx c1
    have:=of_decide_eq_true j1
    rw[<-Int.toNat_of_nonneg ‹0<=j›,<-Int.toNat_of_nonneg ‹0<=p.dst›,z]
  ·rw[if_neg c1] at ha ⊢
   by_cases q:zY sl0 am p=true
   ·rw[if_pos q] at ha ⊢
    obtain⟨e,h3⟩:=zGU hd.dr q hk hg he
    exact out ⟨e,h3,ha.setl c1⟩
   ·rw[if_neg q] at ha ⊢
    by_cases c:(decide (p.dst >= 0)&&yO p.op)=true
    ·rw[if_pos c] at ha ⊢
     exact go (kk:=k2) (q:=wI p) ((ha.args h0).symm.trans hg) ((zFN (zJ0 hd.dr (Bool.and_eq_true_iff.mp c).2) ..).trans he) (λr _=>(ha.sub jX).setl c1) rfl
    ·rw[if_neg c] at ha ⊢
     exact go (kk:=k2) ((ha.args h0).symm.trans hg) he (λr _=>(ha.sub jX).set2) rfl
end
noncomputable section
theorem zDQ {AH:List (Int×Nat)}{ways:List Int}{j:Int}(h:j∈ways):Sub (zb AH j) (zL AH ways):=by
 unfold zL
 have up:∀(l:List Int) (m:Nat),Sub m (l.foldl (λm j=>m ||| zb AH j) m):=λl=>by
  induction l with
  | nil=>exact λ_=>.refl
  | cons a l ih=>exact λm=>Sub.trans (λr q=>by rw[Nat.testBit_or,q];rfl) (ih _)
 have key:∀(l:List Int) (m:Nat),j∈l->Sub (zb AH j) (l.foldl (λm j=>m ||| zb AH j) m):=λl=>by
  induction l with
  | nil=>exact λ_ q=>nomatch q
  | cons a l ih=>
   intro m q
   rcases List.mem_cons.mp q with rfl | q
   ·exact Sub.trans (λr q=>by rw[Nat.testBit_or,q,Bool.or_true]) (up l _)
   ·exact ih _ q
 exact key ways 0 h
structure BsOK (am:Za)(P:Int->Prop)(Bs:List PB):Prop where
 steps:∀B∈Bs,∀p∈B.steps,DrW p/\SR am P p
 ends : ∀ B ∈ Bs, OpOK B.fin.args
theorem zIB {e:PS}{k1 k2:Kn}(h:wX k1 e.args=wX k2 e.args):endV e k1=endV e k2:=by
 unfold endV
 rw[h]
theorem zGl {am:Za}{AH:List (Int×Nat)}{B:PB}(h:∀p∈B.steps,DrS p):swB sl0 am AH B=withSt B ((swF sl0 am B.steps (addA (zL AH B.ways) B.fin.args)).2.map (·.1)):=by
 unfold swB wv
 rw[uA]
 exact(zCf h).map
theorem simA {am:Za}{P:Int->Prop}{Bs:List PB}{W0:List Int}{AH:List (Int×Nat)}(ok:BsOK am P Bs)(hW:PoOK Bs W0)(hk:∀i∈W0,(lk AH i).isSome=true)
  (hfix:∀i∈W0,∀B,Bs[i.toNat]?=some B->needP sl0 am B.steps B.fin.args (zL AH B.ways)=zb AH i) :
  ∀(k:Nat) {i:Int},i∈W0->∀{s1:MSt} {k2:Kn},KI am P s1.1->AgrK (zb AH i) s1.1 k2->∀{o:Out1},runG Bs k i s1=some o->runG (zS (swB sl0 am AH) (λi=>(lk AH i).isSome) 0 Bs) k i (k2,s1.2)=some o:=λk=>by
 induction k with
 | zero=>exact λ_ _ _ _ _ o h=>h
 | succ k ih=>
  intro i hi s1 k2 hK ha o h
  rw[jt] at h ⊢
  obtain⟨B,hB,h⟩:=Option.bind_eq_some_iff.mp h
  obtain⟨r,hr,h⟩:=Option.bind_eq_some_iff.mp h
  have hBm:=List.mem_of_getElem? hB
  have hd:=ok.steps B hBm
  have hg:=jW (F:=swB sl0 am AH) (p:=λi=>(lk AH i).isSome) (i:=0) hB
  rw[Int.zero_add,Int.toNat_of_nonneg (hW.2 i hi).1,if_pos (hk i hi),zGl λp hp=>(hd p hp).1.dr] at hg
  rw[hg]
  show (runS ((swF sl0 am B.steps (addA (zL AH B.ways) B.fin.args)).2.map (·.1)) (k2,s1.2)).bind _=_
  have hm:=zFf (sl:=sl0) (am:=am) (en:=B.fin.args) (m:=zL AH B.ways) λp hp=>(hd p hp).1.dr
  rw[hfix i hi B hB] at hm
  obtain⟨b,s'⟩:=r
  obtain⟨⟨kn,e,ha2⟩,hK2⟩:=zDU hd hK (hm▸ha) hr
  rw[e]
  cases b with
  | false=>exact h
  | true=>
   have ha2:=ha2 rfl
   have hend:=zIB (e:=B.fin) (ha2.args λo ho h1=>(ok.ends B hBm o ho h1).1)
   obtain⟨v,hv,h⟩:=Option.bind_eq_some_iff.mp (show (endV B.fin s'.1).bind _=some o from h)
   show (endV B.fin kn).bind _=some o
   rw[<-hend,hv]
   show (if B.fin.op=35 then _ else _)=some o
   by_cases q:B.fin.op=35
   ·rw[if_pos q] at h ⊢;exact h
   ·rw[if_neg q] at h ⊢
    obtain⟨j,hj,h⟩:=Option.bind_eq_some_iff.mp h
    show (B.ways[wayI B.fin B.ways v]?).bind _=some o
    rw[hj]
    have hjm:=List.mem_of_getElem? hj
    obtain⟨_,B',hB',hcl⟩:=hW.2 i hi
    rw[hB] at hB'
    cases hB'
    exact ih (hcl j hjm) hK2 (ha2.sub (Sub.trans (zDQ hjm) jX)) h
end
noncomputable section
theorem zHy {m:Me}{k v a:Int}:getM (st m k v) a=if a=k then v else getM m a:=by
 unfold getM
 rw[zAe]
 by_cases q:a=k
 ·rw[if_pos q,if_pos q];rfl
 ·rw[if_neg q,if_neg q]
theorem zEx {m1 m2:Me}{a:Int}:∀{w:Nat},(∀i:Nat,i<w->getM m1 (a+i)=getM m2 (a+i))->getW m1 a w=getW m2 a w:=λ{w}=>by
 unfold getW
 induction w with
 | zero=>exact λ_=>rfl
 | succ w ih=>
  intro h
  rw[List.range_succ,List.foldl_append,List.foldl_append,ih λi hi=>h i (Nat.lt_succ_of_lt hi)]
  show _+getM m1 _ * _=_+getM m2 _ * _
  rw[h w (Nat.lt_succ_self w)]
theorem zIe {at_ a:Int}{w:Nat}(h:at_<=a/\a<at_+((w+1:Nat):Int))(n:a≠at_+w):at_<=a/\a<at_+w:=⟨h.1,Int.lt_iff_le_and_ne.mpr ⟨Int.le_of_lt_add_one (by rw[Int.add_assoc];exact h.2),n⟩⟩
theorem lt_w {w:Nat}:(w:Int)<((w+1:Nat):Int):=Int.ofNat_lt.mpr (Nat.lt_succ_self w)
theorem zJ2 {at_ a:Int}{w:Nat}(e:a=at_+w):at_<=a/\a<at_+((w+1:Nat):Int):=by rw[e];exact⟨Int.le_add_of_nonneg_right (Int.natCast_nonneg w),Int.add_lt_add_left lt_w at_⟩
theorem zHW {at_ a:Int}{w:Nat}(h:¬(at_<=a/\a<at_+((w+1:Nat):Int))):a≠at_+w/\¬(at_<=a/\a<at_+w):=⟨λe=>h (zJ2 e),λq=>h ⟨q.1,Int.lt_trans q.2 (Int.add_lt_add_left lt_w at_)⟩⟩
theorem zAl {m:Me}{at_ v a:Int}:∀{w:Nat},getM (putM m at_ w v) a=if at_<=a/\a<at_+w then Int.fmod (Int.fdiv v (256 ^ (a - at_).toNat)) 256 else getM m a:=λ{w}=>by
 unfold putM
 induction w with
 | zero=>rw[if_neg λq=>Int.not_lt.mpr q.1 (Int.lt_of_lt_of_le q.2 (Int.le_of_eq (Int.add_zero at_)))];rfl
 | succ w ih=>
  rw[List.range_succ,List.foldl_append]
  show getM (st _ _ _) a=_
  rw[zHy]
  by_cases q:a=at_+w
  ·rw[if_pos q,if_pos (zJ2 q),q,show at_+(w:Int) - at_=w by rw[Int.add_comm,Int.add_sub_cancel]];rfl
  ·rw[if_neg q,ih]
   by_cases c:at_<=a/\a<at_+((w+1:Nat):Int)
   ·rw[if_pos c,if_pos (zIe c q)]
   ·rw[if_neg c,if_neg (zHW c).2]
inductive Yr (t:Nat)(a:Int):Prop where
 | mk (s:Int) (h:zF t s=false) (h0:0<=s) (h1:s<=1) (h2:4096+16 * s<=a) (h3:a<4112+16 * s)
noncomputable def MR (t:Nat)(m1 m2:Me):Prop:=∀a,¬Yr t a->getM m1 a=getM m2 a
noncomputable def GOK (t:Nat)(e:Int×Option Int):Prop:=∀s,e.2=some s->zF t s=true
theorem zIW {t:Nat}{e:Int×Option Int}{w x:Int}(h:u9 e=true)(g:GOK t e)(hw:w<=16)(h1:e.1<=x)(h2:x<e.1+w):¬Yr t x:=λ⟨s,f,f0,f1,f2,f3⟩=>by
 obtain⟨v,tg⟩:=e
 cases tg with
 | none=>
  have h:=of_decide_eq_true (Bool.and_eq_true_iff.mp (show (decide (8192<=v)&&decide (v<=8207))=true from h)).1
  have h1:v<=x:=h1
  exact Int.lt_irrefl x (Int.lt_of_lt_of_le f3 (Int.le_trans (Int.add_le_add_left (Int.mul_le_mul_of_nonneg_left f1 (by decide)) 4112) (Int.le_trans (by decide:(4112+16 * 1:Int)<=8192) (Int.le_trans h h1))))
 | some s'=>
  obtain⟨a1,a2,a3⟩:=zAt h rfl
  have h1:v<=x:=h1
  have h2:x<v+w:=h2
  have a3:v=4096+16 * s':=a3
  have e:s=s':=by clear f g h;lia
  rw[e,g s' rfl] at f;cases f
theorem wle {c a w d:Int}(h1:c<=a)(h2:a+w<=d)(e:d<=c+8):w<=8:=Int.le_of_add_le_add_left (a:=c) (Int.le_trans (Int.add_le_add_right h1 w) (Int.le_trans h2 e))
theorem zCc {a w:Int}(h:wG a w=true):w<=8:=by
 unfold wG at h
 rw[Bool.or_eq_true,Bool.or_eq_true,Bool.and_eq_true,Bool.and_eq_true,Bool.and_eq_true] at h
 rcases h with (h | h) | h
 ·have h1:=of_decide_eq_true h.1
  have h2:=of_decide_eq_true h.2
  exact wle h1 h2 (by decide)
 ·have h1:=of_decide_eq_true h.1
  have h2:=of_decide_eq_true h.2
  exact wle h1 h2 (by decide)
 ·have h1:=of_decide_eq_true h.1
  have h2:=of_decide_eq_true h.2
  exact wle h1 h2 (by decide)
theorem in_w {a w:Int}{i:Nat}(h:i<w.toNat):a<=a+i/\a+i<a+w:=⟨Int.le_add_of_nonneg_right (Int.natCast_nonneg i),Int.add_lt_add_left (Int.lt_toNat.mp h) a⟩
theorem MR.get {t:Nat}{m1 m2:Me}(h:MR t m1 m2){e:Int×Option Int}{w:Int}(ha:u9 e=true)(g:GOK t e)(hw:w<=16):getW m1 e.1 w.toNat=getW m2 e.1 w.toNat:=zEx λi hi=>h _ (zIW ha g hw (in_w hi).1 (in_w hi).2)
theorem MR.put {t:Nat}{m1 m2:Me}(h:MR t m1 m2){a v:Int}{w:Nat}:MR t (putM m1 a w v) (putM m2 a w v):=λx n=>by
 rw[zAl,zAl,h x n]
theorem zHV {s a w:Int}(h1:4096+16 * s<=a)(h2:a<4096+16 * s+(w.toNat:Int))(hw:w<=16):a<4112+16 * s:=by lia
theorem MR.put1 {t:Nat}{m1 m2:Me}(h:MR t m1 m2){s v w:Int}(hs:zF t s=false)(h0:0<=s)(h1:s<=1)(hw:w<=16):MR t (putM m1 (4096+16 * s) w.toNat v) m2:=λx n=>by
 rw[zAl,if_neg λc=>n ⟨s,hs,h0,h1,c.1,zHV c.1 c.2 hw⟩]
 exact h x n
inductive RelE (t:Nat):Option ((Int×Option Int)×Me×Nt)->Option ((Int×Option Int)×Me×Nt)->Prop
 | none:RelE t none none
 | some {e:Int×Option Int} {m1 m2:Me} {nt:Nt} (h:MR t m1 m2):RelE t (some (e,m1,nt)) (some (e,m2,nt))
noncomputable def accR (op:Nat)(g:Gv)(w:Int)(vol:Bool)(v:Int)(mem:Me)(nt:Nt):Option ((Int×Option Int)×Me×Nt):=some ((v,none),mem,if vol then nt++[zGE op g w v] else nt)
noncomputable def EqE (t:Nat)(e1 e2:Eff):Prop:=∀o,e1=some o->∃o2,e2=some o2/\RelE t o o2
theorem EqE.ite {t:Nat}{c:Prop}[Decidable c]{a1 a2 b1 b2:Eff}(h1:c->EqE t a1 a2)(h2:¬c->EqE t b1 b2):EqE t (if c then a1 else b1) (if c then a2 else b2):=by
 by_cases q:c
 ·rw[if_pos q,if_pos q];exact h1 q
 ·rw[if_neg q,if_neg q];exact h2 q
theorem EqE.same {t:Nat}{e:Int×Option Int}{nt:Nt}{m1 m2:Me}(h:MR t m1 m2):EqE t (some (some (e,m1,nt))) (some (some (e,m2,nt))):=λo q=>by
 cases Option.some.inj q
 exact⟨_,rfl,.some h⟩
theorem EqE.flt {t:Nat}:EqE t (some none) (some none):=λo q=>by
 cases Option.some.inj q
 exact⟨_,rfl,.none⟩
theorem EqE.bad {t:Nat}:EqE t none none:=λo q=>nomatch q
theorem EqE.acc {t op:Nat}{g:Gv}{m1 m2:Me}{nt:Nt}{w x:Int}{v:Bool}(hm:MR t m1 m2):EqE t (accE op g w v x m1 nt) (accE op g w v x m2 nt):=EqE.same hm
theorem zJs {t:Nat}{g:Gv}{m1 m2:Me}{nt:Nt}{w:Int}{sg v:Bool}(h0:GOK t (g0 g))(hm:MR t m1 m2):EqE t (zCP g w sg v m1 nt) (zCP g w sg v m2 nt):=
 .ite (λc1=>.ite (λc2=>by unfold getS;rw[hm.get c1 h0 (Int.le_trans (zCc c2) (by decide))];exact .acc hm) λ_=>.flt) λ_=>.bad
theorem zI3 {t:Nat}{g:Gv}{m1 m2:Me}{nt:Nt}{w:Int}{v:Bool}(hm:MR t m1 m2):EqE t (jd g w v m1 nt) (jd g w v m2 nt):=.ite (λc1=>.ite (λc2=>.acc hm.put) λ_=>.flt) λ_=>.bad
theorem zJq {t:Nat}{g:Gv}{m1 m2:Me}{nt:Nt}{w:Int}{v:Bool}(h1:GOK t (g1 g))(hm:MR t m1 m2):EqE t (zEb g w v m1 nt) (zEb g w v m2 nt):=
 .ite (λc1=>.ite (λc2=>by rw[hm.get (Bool.and_eq_true_iff.mp c1).2 h1 (Int.le_trans (zCc (Bool.and_eq_true_iff.mp c2).2) (by decide))];exact .acc hm.put) λ_=>.flt) λ_=>.bad
theorem zJz {t:Nat}{g:Gv}{m1 m2:Me}{nt:Nt}{v:Val}(h0:GOK t (g0 g))(hm:MR t m1 m2):EqE t (vm v g m1 nt) (vm v g m2 nt):=
 .ite (λc1=>by rw[show getW m1 (g0 g).1 4=getW m2 (g0 g).1 4 from hm.get (w:=4) c1 h0 (by decide)];exact .same hm.put) λ_=>.bad
theorem zGu {op k:Nat}(h:kd op=k)(hk:k<=3):op=k:=by
 unfold kd at h
 by_cases q:op<=3
 ·rw[if_pos q] at h;exact h
 ·rw[if_neg q] at h
  by_cases q1:op=9
  ·rw[if_pos q1] at h;subst h;exact absurd hk (by decide)
  ·rw[if_neg q1] at h
   by_cases q2:op=12
   ·rw[if_pos q2] at h;subst h;exact absurd hk (by decide)
   ·rw[if_neg q2] at h;subst h;exact absurd hk (by decide)
theorem effB {t:Nat}{p:PS}{g:Gv}{m1 m2:Me}{nt:Nt}(h0:GOK t (g0 g))(h1:p.op=2->GOK t (g1 g))(hm:MR t m1 m2):EqE t (effT p g m1 nt) (effT p g m2 nt):=
 .ite (λ_=>zJs h0 hm) λ_=>.ite (λ_=>zI3 hm) λ_=>.ite (λc=>zJq (h1 (zGu c (by decide))) hm) λ_=>.ite (λ_=>zJz h0 hm) λ_=>.ite (λ_=>.same hm) λ_=>.ite (λ_=>.same hm) λ_=>.ite (λ_=>.flt) λ_=>.same hm
end
noncomputable section
noncomputable def TkS (am:Za)(t:Nat)(p:PS):Prop:=∀i o,p.args[i]?=some o->o.1=true->∀s,lk am o.2=some s->zl sl0 p i s=true\/zF t s=true
theorem zCy {am:Za}{t:Nat}{p:PS}(h:yE am t p=true):p.op=1/\∃o s,p.args[0]?=some o/\o.1=true/\lk am o.2=some s/\zF t s=false:=by
 unfold yE at h
 by_cases q:(!(Nat.beq p.op 1))=true
 ·rw[if_pos q] at h;cases h
 ·rw[if_neg q] at h
  rw[Bool.not_eq_true',Bool.not_eq_false] at q
  refine⟨Nat.eq_of_beq_eq_true q,?_⟩
  cases e:p.args[0]? with
  | none=>rw[e] at h;cases h
  | some o=>
   rw[e] at h
   obtain⟨h1,h2⟩:=Bool.and_eq_true_iff.mp h
   cases e2:lk am o.2 with
   | none=>rw[e2] at h2;cases h2
   | some s=>
    rw[e2] at h2
    exact⟨o,s,rfl,h1,e2,by rw[<-Bool.not_eq_true'];exact h2⟩
theorem ju {p:PS}{i:Nat}{s:Int}(h:zl sl0 p i s=true):p.op=1/\i=0/\p.vol=false/\yw p.more<=zk sl0 s:=by
 unfold zl at h
 by_cases q:(!(Nat.beq p.op 1)||!(Nat.beq i 0)||p.vol)=true
 ·rw[if_pos q] at h;cases h
 ·rw[if_neg q] at h
  rw[Bool.or_eq_true,Bool.or_eq_true,not_or,not_or,Bool.not_eq_true',Bool.not_eq_true',Bool.not_eq_false,Bool.not_eq_false,Bool.not_eq_true] at q
  exact⟨Nat.eq_of_beq_eq_true q.1.1,Nat.eq_of_beq_eq_true q.1.2,q.2,of_decide_eq_true h⟩
theorem zHv {am:Za}{t:Nat}{p:PS}{o:Opd}{s:Int}(h1:p.op=1)(h2:p.args[0]?=some o)(h3:o.1=true)(h4:lk am o.2=some s):yE am t p=!zF t s:=by
 unfold yE
 rw[if_neg (by rw[h1];decide),h2]
 show (o.1&&_)=_
 rw[h3,h4];rfl
theorem TkS.kept {am:Za}{t:Nat}{p:PS}(h:TkS am t p)(n:yE am t p=false){i:Nat}{o:Opd}(ho:p.args[i]?=some o)(h1:o.1=true){s:Int}(hs:lk am o.2=some s):zF t s=true:=by
 refine(h i o ho h1 s hs).elim (λq=>?_) id
 obtain⟨q1,rfl,_⟩:=ju q
 rw[zHv q1 ho h1 hs] at n
 rw[<-Bool.not_eq_false'];exact n
theorem ui {kn:Kn}:∀{args:List Opd} {g:Gv},wX kn args=some g->∀{i:Nat} {o:Opd},args[i]?=some o->argT kn o=some (g.getD i (0,none)):=λ{args}=>by
 induction args with
 | nil=>exact λ_ _ _ h=>nomatch h
 | cons a l ih=>
  intro g h i o ho
  obtain⟨h1,g',h2,h3⟩:=jx h
  rw[h3]
  cases i with
  | zero=>cases Option.some.inj ho;exact h1
  | succ i=>exact ih h2 ho
theorem zGv {am:Za}{t:Nat}{p:PS}{kn:Kn}{g:Gv}(h:TkS am t p)(n:yE am t p=false)(hk:KI am (zF t ·=true) kn)(hg:wX kn p.args=some g){i:Nat}(hi:i<p.args.length):GOK t (g.getD i (0,none)):=λs hs=>by
 have ho:p.args[i]?=some p.args[i]:=List.getElem?_eq_getElem hi
 have ha:=ui hg ho
 generalize p.args[i]=o at ho ha
 cases c:o.1 with
 | false=>rw[yG ha c] at hs;cases hs
 | true=>exact((hk _ _ (yX ha c).1).2 s hs).elim (λq=>h.kept n ho c q) id
theorem vR {kn:Kn}:∀{args:List Opd} {g:Gv},wX kn args=some g->g.length=args.length:=λ{args}=>by
 induction args with
 | nil=>exact λh=>by rw[<-Option.some.inj h];rfl
 | cons a l ih=>
  intro g h
  obtain⟨_,g',h2,h3⟩:=jx h
  rw[h3]
  exact congrArg (· + 1) (ih h2)
theorem gok0 {am:Za}{t:Nat}{p:PS}{kn:Kn}{g:Gv}(h:TkS am t p)(n:yE am t p=false)(hk:KI am (zF t ·=true) kn)(hg:wX kn p.args=some g):GOK t (g0 g):=by
 by_cases q:0<p.args.length
 ·exact zGv h n hk hg q
 ·rw[<-vR hg] at q
  cases g with
  | nil=>exact λs hs=>nomatch hs
  | cons=>exact absurd (Nat.succ_pos _) q
theorem zGI {p:PS}(h:DrS p)(e:p.op=2):1<p.args.length:=by
 cases h with
 | two=>exact Nat.lt_succ_self 1
 | @one op _ _ q=>rw[show op=2 from e] at q;cases q
 | load=>cases e
 | store=>exact Nat.lt_succ_self 1
 | move=>exact Nat.lt_succ_self 1
 | call=>exact Nat.lt_succ_self 1
 | slot=>cases e
 | name=>cases e
theorem zDy {am:Za}{t:Nat}{p:PS}{kn:Kn}{g:Gv}{mem:Me}{nt:Nt}(hd:DrS p)(h:TkS am t p)(hs:yE am t p=true)(hk:KI am (zF t ·=true) kn)(hg:wX kn p.args=some g){o:Option ((Int×Option Int)×Me×Nt)}(he:effT p g mem nt=some o) :
  p.dst=-1/\∃mem',o=some ((0,none),mem',nt)/\∀m2,MR t mem m2->MR t mem' m2:=by
 obtain⟨e1,o1,s,e2,e3,e4,e5⟩:=zCy hs
 obtain⟨_,_,v0,wl⟩:=ju ((h 0 o1 e2 e3 s e4).resolve_right (by rw[e5];decide))
 have hx:=yX (ui hg e2) e3
 have hs2:=(hk _ _ hx.1).1 s e4
 cases hd with
 | @two op _ _ _ q _=>rw[show op=1 from e1] at q;cases q
 | @one op _ _ q=>rw[show op=1 from e1] at q;cases q
 | @store w a b v _ ha=>
  have v0:v=false:=v0
  subst v0
  refine⟨rfl,?_⟩
  have he:jd g w false mem nt=some o:=he
  unfold jd at he
  obtain⟨c,he⟩:=jA he rfl
  obtain⟨s0,s1,ea⟩:=zAt (e:=g0 g) c hs2
  have hw:w<=16:=by
   have h1:w<=zk sl0 s:=wl
   rcases(by clear he;lia:s=0\/s=1) with rfl | rfl
   ·exact Int.le_trans (show w<=8 from h1) (by decide)
   ·exact Int.le_trans (show w<=4 from h1) (by decide)
  rw[ea,if_pos (vt s0 s1 (show w<=zk sl0 s from wl))] at he
  exact⟨_,(Option.some.inj he).symm,λm2 hm=>hm.put1 e5 s0 s1 hw⟩
 | load=>cases e1
 | move=>cases e1
 | call=>cases e1
 | slot=>cases e1
 | name=>cases e1
inductive RelB (t:Nat)(b:Bool)(s:MSt)(o:Option (Bool×MSt)):Prop where
 | mk (m:Me) (e:o=some (b,(s.1,m,s.2.2))) (h:MR t s.2.1 m)
theorem zCx {am:Za}{t:Nat}{p:PS}{r:List PS}(h:yE am t p=false):yA am t (p::r)=p::yA am t r:=List.filter_cons_of_pos (p:=λp=>!yE am t p) (by rw[h];rfl)
theorem zEk {am:Za}{t:Nat}{p:PS}{r:List PS}(h:yE am t p=true):yA am t (p::r)=yA am t r:=List.filter_cons_of_neg (p:=λp=>!yE am t p) (by rw[h];decide)
theorem zDT {am:Za}{t:Nat}:∀{ps:List PS},(∀p∈ps,DrW p/\SR am (zF t ·=true) p/\TkS am t p)->∀{s1:MSt} {m2:Me},KI am (zF t ·=true) s1.1->MR t s1.2.1 m2->∀{b:Bool} {s1':MSt},runS ps s1=some (b,s1')->RelB t b s1' (runS (yA am t ps) (s1.1,m2,s1.2.2))/\KI am (zF t ·=true) s1'.1:=λ{ps}=>by
 induction ps with
 | nil=>
  intro _ s1 m2 hk hm b s1' h
  have h:some (true,s1)=some (b,s1'):=h
  cases Option.some.inj h
  exact⟨⟨m2,rfl,hm⟩,hk⟩
 | cons p ps ih=>
  intro hp s1 m2 hk hm b s1' h
  have ih:=@ih (zH hp)
  obtain⟨hd,hr,ht⟩:=hp p (.head _)
  obtain⟨o,h1,h2⟩:=Option.bind_eq_some_iff.mp ((wx p ps s1).symm.trans h)
  obtain⟨g,o',hg,he,rfl⟩:=zAN h1
  cases c:yE am t p with
  | true=>
   rw[zEk c]
   obtain⟨d,mem',h3,h4⟩:=zDy hd.dr ht c hk hg he
   subst h3
   have hk2:=KI.step hd.dr hr hk hg he
   have e:setK s1.1 p.dst (0,none)=s1.1:=by unfold setK;rw[d];exact if_neg (by decide)
   rw[e] at hk2
   have h2:runS ps (setK s1.1 p.dst (0,none),mem',s1.2.2)=some (b,s1'):=h2
   rw[e] at h2
   exact ih (s1:=(s1.1,mem',s1.2.2)) hk2 (h4 _ hm) h2
  | false=>
   rw[zCx c,wx]
   obtain⟨o2,he2,hrel⟩:=effB (gok0 ht c hk hg) (λq=>zGv ht c hk hg (zGI hd.dr q)) hm _ he
   rw[zAO (s:=(s1.1,m2,s1.2.2)) hg he2]
   cases hrel with
   | none=>
    have h2:some (false,s1)=some (b,s1'):=h2
    cases Option.some.inj h2
    exact⟨⟨m2,rfl,hm⟩,hk⟩
   | @some e n1 n2 nt hm2=>exact ih (s1:=(setK s1.1 p.dst e,n1,nt)) (KI.step hd.dr hr hk hg he) hm2 h2
theorem zHa {t:Nat}{x:Int}(h:8192<=x):¬Yr t x:=λ⟨s,f,f0,f1,f2,f3⟩=>Int.lt_irrefl x (Int.lt_of_lt_of_le f3 (Int.le_trans (Int.add_le_add_left (Int.mul_le_mul_of_nonneg_left f1 (by decide)) 4112) (Int.le_trans (by decide:(4112+16 * 1:Int)<=8192) h)))
theorem zEX {t:Nat}{kn k2:Kn}{m1 m2:Me}{nt:Nt}{v:Val}(h:MR t m1 m2):outT v (kn,m1,nt)=outT v (k2,m2,nt):=by
 unfold outT
 rw[show getW m1 8192 8=getW m2 8192 8 from zEx λi _=>h _ (zHa (Int.le_add_of_nonneg_right (Int.natCast_nonneg i)))]
theorem LsK.filter {am:Za}{t:Nat}:∀{ps:List PS},(∀p∈ps,DrS p/\TkS am t p)->LsK ps ((yA am t ps).map λp=>(p,false)):=λ{ps} h=>by
 induction ps with
 | nil=>exact .nil
 | cons p ps ih=>
  have t1:=ih (zH h)
  cases c:yE am t p with
  | false=>rw[zCx c];exact .keep t1
  | true=>
   rw[zEk c]
   refine .drop ?_ t1
   obtain⟨e1,o1,s,e2,e3,e4,e5⟩:=zCy c
   obtain⟨_,_,v0,_⟩:=ju (((h p (.head _)).2 0 o1 e2 e3 s e4).resolve_right (by rw[e5];decide))
   unfold cntP
   rw[v0,e1];rfl
theorem zGk {am:Za}{t:Nat}{B:PB}(h:∀p∈B.steps,DrS p/\TkS am t p):swS am t B=withSt B (yA am t B.steps):=by
 have e:=(LsK.filter h).map
 have e1:((yA am t B.steps).map λp=>(p,false)).map (·.1)=yA am t B.steps:=by rw[List.map_map];exact List.map_id _
 have e2:chgB ((yA am t B.steps).map λp=>(p,false)) B=chS am t B:=by
  unfold chgB chS
  rw[List.length_map,List.any_map,show (yA am t B.steps).any ((λx:PS×Bool=>x.2) ∘ λp=>(p,false))=false from List.any_eq_false.mpr λ_ _=>Bool.false_ne_true,Bool.or_false]
 rw[e1,e2] at e
 exact e
theorem simB {am:Za}{t:Nat}{Bs:List PB}(ok:∀B∈Bs,∀p∈B.steps,DrW p/\SR am (zF t ·=true) p/\TkS am t p)(ways:∀B∈Bs,∀j∈B.ways,(0:Int)<=j) :
  ∀(k:Nat) {i:Int},0<=i->∀{s1:MSt} {m2:Me},KI am (zF t ·=true) s1.1->MR t s1.2.1 m2->∀{o:Out1},runG Bs k i s1=some o->runG (zS (swS am t) (λ_=>true) 0 Bs) k i (s1.1,m2,s1.2.2)=some o:=λk=>by
 induction k with
 | zero=>exact λ_ _ _ _ _ o h=>h
 | succ k ih=>
  intro i hi s1 m2 hK hm o h
  rw[jt] at h ⊢
  obtain⟨B,hB,h⟩:=Option.bind_eq_some_iff.mp h
  obtain⟨r,hr,h⟩:=Option.bind_eq_some_iff.mp h
  have hBm:=List.mem_of_getElem? hB
  have hd:=ok B hBm
  have hg:=jW (F:=swS am t) (p:=λ_=>true) (i:=0) hB
  rw[if_pos rfl,zGk λp hp=>⟨(hd p hp).1.dr,(hd p hp).2.2⟩] at hg
  rw[hg]
  show (runS (yA am t B.steps) (s1.1,m2,s1.2.2)).bind _=_
  obtain⟨b,s'⟩:=r
  obtain⟨⟨m',e,hm2⟩,hK2⟩:=zDT hd hK hm hr
  rw[e]
  cases b with
  | false=>
   have h:some (outT (.str "fault") s')=some o:=h
   exact(congrArg some (zEX hm2).symm).trans h
  | true=>
   obtain⟨v,hv,h⟩:=Option.bind_eq_some_iff.mp (show (endV B.fin s'.1).bind _=some o from h)
   show (endV B.fin s'.1).bind _=some o
   rw[hv]
   show (if B.fin.op=35 then _ else _)=some o
   by_cases q:B.fin.op=35
   ·rw[if_pos q] at h ⊢;exact(congrArg some (zEX hm2).symm).trans h
   ·rw[if_neg q] at h ⊢
    obtain⟨j,hj,h⟩:=Option.bind_eq_some_iff.mp h
    show (B.ways[wayI B.fin B.ways v]?).bind _=some o
    rw[hj]
    exact ih (ways B hBm j (List.mem_of_getElem? hj)) hK2 hm2 h
end
noncomputable section
noncomputable def MSub (a b:Nat):Prop:=∀s,zF a s=true->zF b s=true
theorem MSub.setb {a:Nat}{k:Int}:MSub a (Mine.Internal.setb a k):=λ_ h=>yi (zCg k) h
theorem zAB {a:Nat}{k:Int}(h:0<=k):zF (Mine.Internal.setb a k) k=true:=by rw[<-congrFun (jO h (m:=a)) k,decide_eq_true rfl,Bool.or_true]
theorem zBi {am:Za}{p:PS}{i t:Nat}{o:Opd}:MSub t (wY sl0 am p i o t):=by
 unfold wY
 by_cases c:o.1=true
 ·rw[if_pos c]
  cases e:lk am o.2 with
  | none=>exact λ_ h=>h
  | some s=>
   show MSub t (if _ then t else _)
   by_cases q:zl sl0 p i s=true
   ·rw[if_pos q];exact λ_ h=>h
   ·rw[if_neg q];exact .setb
 ·rw[if_neg c];exact λ_ h=>h
theorem zAz {am:Za}{p:PS}{i t:Nat}{o:Opd}{s:Int}(c:o.1=true)(e:lk am o.2=some s)(h0:0<=s):zl sl0 p i s=true\/zF (wY sl0 am p i o t) s=true:=by
 unfold wY
 rw[if_pos c,e]
 show _\/zF (if _ then t else _) s=true
 by_cases q:zl sl0 p i s=true
 ·exact .inl q
 ·rw[if_neg q];exact .inr (zAB h0)
theorem uW {am:Za}{p:PS}:∀{args:List Opd} {i t:Nat},MSub t (z7 sl0 am p i args t):=λ{args}=>by
 induction args with
 | nil=>exact λ_ h=>h
 | cons o l ih=>exact λs h=>ih s (zBi s h)
theorem zAM {am:Za}{p:PS}:∀{args:List Opd} {i t:Nat} {k:Nat} {o:Opd},args[k]?=some o->o.1=true->∀{s:Int},lk am o.2=some s->0<=s->zl sl0 p (i+k) s=true\/zF (z7 sl0 am p i args t) s=true:=λ{args}=>by
 induction args with
 | nil=>exact λh=>nomatch h
 | cons a l ih=>
  intro i t k o hk c s e h0
  cases k with
  | zero=>
   cases Option.some.inj hk
   exact(zAz (p:=p) (i:=i) (t:=t) c e h0).imp id λq=>uW (args:=l) (i:=i+1) s q
  | succ k=>
   have:=ih (i:=i+1) (t:=wY sl0 am p i a t) (k:=k) hk c e h0
   rw[Nat.add_right_comm] at this
   exact this
theorem zAy {am:Za}{p:PS}{t:Nat}:MSub t (wJ sl0 am t p):=uW
theorem jm {am:Za}:∀{ps:List PS} {t:Nat},MSub t (ps.foldl (wJ sl0 am) t):=λ{ps}=>by
 induction ps with
 | nil=>exact λ_ h=>h
 | cons p l ih=>exact λs h=>ih s (zAy s h)
theorem uV {am:Za}:∀{args:List Opd} {t:Nat},MSub t (args.foldl (z6 am) t):=λ{args}=>by
 induction args with
 | nil=>exact λ_ h=>h
 | cons o l ih=>
  refine λs h=>ih s ?_
  unfold z6
  by_cases c:o.1=true
  ·rw[if_pos c]
   cases e:lk am o.2 with
   | none=>exact h
   | some s=>exact MSub.setb _ h
  ·rw[if_neg c];exact h
theorem zCd {am:Za}:∀{Bs:List PB} {t:Nat},MSub t (zj sl0 am Bs t):=λ{Bs}=>by
 induction Bs with
 | nil=>exact λ_ h=>h
 | cons B l ih=>exact λs h=>ih s (uV s (jm s h))
theorem vT {am:Za}(hpos:∀k s,lk am k=some s->0<=s):∀{ps:List PS} {t t':Nat},MSub (ps.foldl (wJ sl0 am) t) t'->∀p∈ps,TkS am t' p:=λ{ps}=>by
 induction ps with
 | nil=>exact λ_ p h=>nomatch h
 | cons a l ih=>
  intro t t' h p hp
  rcases List.mem_cons.mp hp with rfl | q
  ·intro i o ho c s e
   have:=zAM (p:=p) (i:=0) (t:=t) ho c e (hpos _ _ e)
   rw[Nat.zero_add] at this
   exact this.imp id λq=>h s (jm (ps:=l) s q)
  ·exact ih (t:=wJ sl0 am t a) h p q
theorem zDu {am:Za}(hpos:∀k s,lk am k=some s->0<=s):∀{Bs:List PB} {t t':Nat},MSub (zj sl0 am Bs t) t'->∀B∈Bs,∀p∈B.steps,TkS am t' p:=λ{Bs}=>by
 induction Bs with
 | nil=>exact λ_ B h=>nomatch h
 | cons A l ih=>
  intro t t' h B hB
  rcases List.mem_cons.mp hB with rfl | q
  ·exact vT (t:=t) hpos λs hs=>h s (zCd (Bs:=l) s (uV s hs))
  ·exact ih h B q
theorem zBY {β:Type}{l:List (Int×β)}{d j:Int}:lk (l.filter λe=>decide (e.1≠d)) j=if j=d then none else lk l j:=by
 induction l with
 | nil=>exact(ite_self none).symm
 | cons e l ih=>
  by_cases c:e.1=d
  ·rw[List.filter_cons_of_neg (by rw[decide_eq_true_iff];exact λh=>h c),ih,yb]
   by_cases q:j=d
   ·rw[if_pos q,if_pos q]
   ·rw[if_neg q,if_neg q,if_neg λz=>q (z.symm.trans c)]
  ·rw[List.filter_cons_of_pos (p:=λe:Int×β=>decide (e.1≠d)) (decide_eq_true c),yb,yb,ih]
   by_cases q:j=d
   ·rw[if_pos q,if_pos q,if_neg λz=>c (z.trans q)]
   ·rw[if_neg q,if_neg q]
noncomputable def cntD (r:Int)(ss:List PS):Nat:=(ss.filter λp=>decide (p.dst=r)).length
theorem zFR (r:Int)(p:PS)(ss:List PS):cntD r (p::ss)=(if p.dst=r then 1 else 0)+cntD r ss:=by
 unfold cntD
 by_cases q:p.dst=r
 ·rw[List.filter_cons_of_pos (p:=λp:PS=>decide (p.dst=r)) (decide_eq_true q),if_pos q,Nat.add_comm];rfl
 ·rw[List.filter_cons_of_neg (by rw[decide_eq_true_iff];exact q),if_neg q,Nat.zero_add]
theorem zDr {rg:Za}{r:Int}(hr:(lk rg r).isSome=true):∀{ss:List PS} {T:List (Int×Int)},(lk (ss.foldl (zU rg) T) r).getD 0=(lk T r).getD 0+cntD r ss:=λ{ss}=>by
 induction ss with
 | nil=>exact λ{T}=>(Int.add_zero _).symm
 | cons p l ih=>
  intro T
  rw[List.foldl_cons,ih,zFR]
  unfold zU
  by_cases q:p.dst=r
  ·rw[if_pos q,q,if_pos hr,zAe,if_pos rfl]
   show _+1+(cntD r l:Int)=_+((1+cntD r l:Nat):Int)
   lia
  ·rw[if_neg q,Nat.zero_add]
   by_cases c:(lk rg p.dst).isSome=true
   ·rw[if_pos c,zAe,if_neg λz=>q z.symm]
   ·rw[if_neg c]
theorem zDF {r:Int}{p q:PS}{ss:List PS}(h:cntD r ss=1)(hp:p∈ss)(ep:p.dst=r)(hq:q∈ss)(eq:q.dst=r):p=q:=by
 obtain⟨x,hx⟩:=List.length_eq_one_iff.mp h
 have h1:p∈[x]:=hx▸List.mem_filter.mpr ⟨hp,decide_eq_true ep⟩
 have h2:q∈[x]:=hx▸List.mem_filter.mpr ⟨hq,decide_eq_true eq⟩
 rw[List.mem_singleton.mp h1,List.mem_singleton.mp h2]
theorem zHU:∀{ps:List PS} {l:Za} {r s:Int},lk (ps.foldl (λl p=>st l p.dst (yw p.more)) l) r=some s->lk l r=some s\/∃p∈ps,p.dst=r/\yw p.more=s:=λ{ps}=>by
 induction ps with
 | nil=>exact λh=>.inl h
 | cons p ps ih=>
  intro l r s h
  rcases ih h with h | ⟨q,h1,h2⟩
  ·rw[zAe] at h
   by_cases q:r=p.dst
   ·rw[if_pos q] at h;exact .inr ⟨p,.head _,q.symm,Option.some.inj h⟩
   ·rw[if_neg q] at h;exact .inl h
  ·exact .inr ⟨q,.tail _ h1,h2⟩
theorem zGY {O:List (Int×Int)}:∀{ps:List PS} {s:Za×Nat},(∀r v,lk (ps.foldl (zX O) s).1 r=some v->lk s.1 r=some v/\∀p∈ps,p.dst=r->(lk O r).getD 0=1) /\
  (∀r v,lk s.1 r=some v->(lk O r).getD 0=1->lk (ps.foldl (zX O) s).1 r=some v)/\MSub s.2 (ps.foldl (zX O) s).2/\∀p∈ps,(lk O p.dst).getD 0≠1->0<=yw p.more->zF (ps.foldl (zX O) s).2 (yw p.more)=true:=λ{ps}=>by
 induction ps with
 | nil=>exact λ{s}=>⟨λr v h=>⟨h,λp q=>nomatch q⟩,λr v h _=>h,λ_ h=>h,λp q=>nomatch q⟩
 | cons p ps ih=>
  intro s
  rw[List.foldl_cons]
  have i:=@ih (zX O s p)
  by_cases c:(lk O p.dst).getD 0=1
  ·have e:zX O s p=s:=if_pos (beq_iff_eq.mpr c)
   rw[e] at i ⊢
   obtain⟨i1,i2,i3,i4⟩:=i
   refine⟨λr v h=>?_,i2,i3,λq hq n=>?_⟩
   ·obtain⟨h1,h2⟩:=i1 r v h
    exact⟨h1,λq hq e=>(List.mem_cons.mp hq).elim (λz=>e▸z▸c) λz=>h2 q z e⟩
   ·exact(List.mem_cons.mp hq).elim (λz=>absurd (z▸c) n) λz=>i4 q z n
  ·have e:zX O s p=(s.1.filter λe=>decide (e.1≠p.dst),setb s.2 (yw p.more)):=if_neg λz=>c (beq_iff_eq.mp z)
   rw[e] at i ⊢
   obtain⟨i1,i2,i3,i4⟩:=i
   refine⟨λr v h=>?_,λr v h h1=>?_,λx hx=>i3 x (MSub.setb x hx),λq hq n h0=>?_⟩
   ·obtain⟨h1,h2⟩:=i1 r v h
    rw[zBY] at h1
    by_cases z:r=p.dst
    ·rw[if_pos z] at h1;cases h1
    ·rw[if_neg z] at h1
     exact⟨h1,λq hq e=>(List.mem_cons.mp hq).elim (λy=>absurd (e.symm.trans (congrArg PS.dst y)) z) λy=>h2 q y e⟩
   ·refine i2 r v ?_ h1
    rw[zBY,if_neg λz:r=p.dst=>c (z▸h1)]
    exact h
   ·exact(List.mem_cons.mp hq).elim (λz=>by rw[z] at h0 ⊢;exact i3 _ (zAB h0)) λz=>i4 q z n h0
theorem zBL {ps:List PS}{p:PS}(h:p∈ps):(lk (j7 ps) p.dst).isSome=true:=(w5 _ _).mpr (vA ps [] p.dst (.inr ⟨p,h,rfl⟩))
theorem zEH {ss:List PS}{p:PS}(h:p∈ss)(e:p.op=9):p∈zi ss:=List.mem_filter.mpr ⟨h,by rw[e];rfl⟩
theorem zBs {ss:List PS}(hw:∀p∈ss,Yc sl0 p):(∀p∈ss,∀s,lk (zK [] ss).1 p.dst=some s->p.op=9/\p.more=.int s) /\
  (∀p∈ss,p.op=9->∀s,p.more=.int s->lk (zK [] ss).1 p.dst=some s\/zF (zK [] ss).2 s=true)/\∀k s,lk (zK [] ss).1 k=some s->0<=s/\k∈(zi ss).map PS.dst:=by
 unfold zK
 obtain⟨d1,d2,_,d4⟩:=@zGY (jF [] (j7 (zi ss)) ss) (zi ss) (j7 (zi ss),0)
 have src:∀r s,lk (j7 (zi ss)) r=some s->∃q∈zi ss,q.dst=r/\yw q.more=s:=λr s h=>(zHU h).resolve_left λz=>nomatch z
 have cnt:∀q∈zi ss,(lk (jF [] (j7 (zi ss)) ss) q.dst).getD 0=(cntD q.dst ss:Int):=λq hq=>(zDr (zBL hq)).trans (Int.zero_add _)
 refine⟨λp hp s h=>?_,λp hp e s hs=>?_,λk s h=>?_⟩
 ·obtain⟨h1,h2⟩:=d1 _ _ h
  obtain⟨q,hq,e1,e2⟩:=src _ _ h1
  have h3:=h2 q hq e1
  rw[<-e1,cnt q hq] at h3
  obtain⟨q1,q2⟩:=yB hq
  have:=zDF (r:=q.dst) (ss:=ss) (Int.ofNat_inj.mp h3) hp e1.symm q1 rfl
  subst this
  obtain⟨i,ei,_⟩:=hw p hp q2
  rw[ei] at e2
  exact⟨q2,by rw[ei];exact congrArg Val.int e2⟩
 ·have hq:=zEH hp e
  obtain⟨i,ei,h0,_⟩:=hw p hp e
  have es:i=s:=by rw[hs] at ei;cases ei;rfl
  subst es
  by_cases c:(lk (jF [] (j7 (zi ss)) ss) p.dst).getD 0=1
  ·refine .inl ?_
   obtain⟨v,hv⟩:=Option.isSome_iff_exists.mp (zBL hq)
   obtain⟨q,hq',e1,e2⟩:=src _ _ hv
   have h3:=c
   rw[cnt p hq] at h3
   have:=zDF (r:=p.dst) (ss:=ss) (Int.ofNat_inj.mp h3) (yB hq').1 e1 hp rfl
   subst this
   rw[hs] at e2
   have e2:i=v:=e2
   subst e2
   exact d2 _ _ hv c
  ·have:=d4 p hq c (by rw[hs];exact h0)
   rw[hs] at this
   exact .inr this
 ·obtain⟨h1,h2⟩:=d1 _ _ h
  obtain⟨q,hq,e1,e2⟩:=src _ _ h1
  obtain⟨q1,q2⟩:=yB hq
  obtain⟨i,ei,h0,_⟩:=hw q q1 q2
  rw[ei] at e2
  have e2:i=s:=e2
  exact⟨e2▸h0,e1▸List.mem_map_of_mem hq⟩
end
noncomputable section
noncomputable def flW (IW:List (Int×Bool))(j:Int):Prop:=(lk IW j).getD false=true
theorem zCV {IW:List (Int×Bool)}{i j:Int}{b:Bool}:flW (st IW i b) j↔if j=i then b=true else flW IW j:=by
 unfold flW
 rw[zAe]
 by_cases q:j=i
 ·rw[if_pos q,if_pos q];exact Iff.rfl
 ·rw[if_neg q,if_neg q]
structure WkR (AH:List (Int×Nat))(W:List Int)(IW:List (Int×Bool))(l:List Int)(r:List Int×List (Int×Bool))(ext:List Int):Prop where
 e:r.1=W++ext
 len:ext.length<=l.length
 inA:∀x∈ext,(lk AH x).isSome=true
 up:∀j,flW IW j->flW r.2 j
 all:∀o∈l,(lk AH o).isSome=true->flW r.2 o
 src:∀j,flW r.2 j->flW IW j\/j∈ext
theorem zFc {AH:List (Int×Nat)}:∀{l W:List Int} {IW:List (Int×Bool)},∃ext,WkR AH W IW l (l.foldl (wake AH) (W,IW)) ext:=λ{l}=>by
 induction l with
 | nil=>exact λ{W IW}=>⟨[],(List.append_nil W).symm,Nat.le_refl _,zD,λ_ h=>h,zD,λ_ h=>.inl h⟩
 | cons o l ih=>
  intro W IW
  show ∃ext,WkR AH W IW (o::l) (l.foldl (wake AH) (wake AH (W,IW) o)) ext
  by_cases c:((lk AH o).isSome&&!((lk IW o).getD false))=true
  ·have e:wake AH (W,IW) o=(W++[o],st IW o true):=if_pos c
   rw[e]
   obtain⟨ext,r⟩:=@ih (W++[o]) (st IW o true)
   refine⟨o::ext,by rw[r.e,List.append_assoc];rfl,Nat.succ_le_succ r.len,zB (Bool.and_eq_true_iff.mp c).1 r.inA,λj h=>r.up j ?_,zB (λ_=>r.up o ?_) r.all,λj h=>?_⟩
   ·rw[zCV]
    by_cases q:j=o
    ·rw[if_pos q]
    ·rw[if_neg q];exact h
   ·rw[zCV,if_pos rfl]
   ·rcases r.src j h with h | h
    ·rw[zCV] at h
     by_cases q:j=o
     ·exact .inr (q▸.head _)
     ·rw[if_neg q] at h;exact .inl h
    ·exact .inr (.tail _ h)
  ·have e:wake AH (W,IW) o=(W,IW):=if_neg c
   rw[e]
   obtain⟨ext,r⟩:=@ih W IW
   refine⟨ext,r.e,Nat.le_succ_of_le r.len,r.inA,r.up,zB (λh=>r.up o ?_) r.all,r.src⟩
   rw[h,Bool.true_and,Bool.not_eq_true',Bool.not_eq_false] at c
   exact c
theorem zEa {sl:Zg}{am:Za}{Bs:List PB}{L:List (List Int)}{k:Nat}{W:List Int}{a:Nat}{AH:List (Int×Nat)}{IW:List (Int×Bool)}(h:W[a]?=none):naGo sl am Bs L (k+1) W a AH IW=some AH:=by
 show (match W[a]? with | none=>_ | some i=>_)=_
 rw[h]
theorem zE8 {sl:Zg}{am:Za}{Bs:List PB}{L:List (List Int)}{k:Nat}{W:List Int}{a:Nat}{AH:List (Int×Nat)}{IW:List (Int×Bool)}{i:Int}{B:PB}(h:W[a]?=some i)(hB:Bs[i.toNat]?=some B):naGo sl am Bs L (k+1) W a AH IW =
  if Nat.beq (needP sl am B.steps B.fin.args (zL AH B.ways)) (zb AH i) then naGo sl am Bs L k W (a+1) AH (st IW i false)
  else naGo sl am Bs L k ((L.getD i.toNat []).foldl (wake (st AH i (needP sl am B.steps B.fin.args (zL AH B.ways)))) (W,st IW i false)).1 (a+1) (st AH i (needP sl am B.steps B.fin.args (zL AH B.ways))) ((L.getD i.toNat []).foldl (wake (st AH i (needP sl am B.steps B.fin.args (zL AH B.ways)))) (W,st IW i false)).2:=by
 show (match W[a]? with | none=>_ | some i=>_)=_
 rw[h]
 show (match Bs[i.toNat]? with | none=>_ | some B=>_)=_
 rw[hB]
 rfl
noncomputable def pc (m:Nat):Nat:=((List.range 9).filter m.testBit).length
noncomputable def B9 (m:Nat):Prop:=∀r,m.testBit r=true->r<9
theorem zFE {l:List Nat}{p q:Nat->Bool}(h:∀x∈l,p x=true->q x=true):(l.filter p).length<=(l.filter q).length:=by
 induction l with
 | nil=>exact Nat.le_refl _
 | cons a l ih=>
  have i:=ih λx hx=>h x (.tail _ hx)
  cases c:p a with
  | true=>rw[List.filter_cons_of_pos c,List.filter_cons_of_pos (h a (.head _) c)];exact Nat.succ_le_succ i
  | false=>
   rw[List.filter_cons_of_neg (by rw[c];decide)]
   cases d:q a with
   | true=>rw[List.filter_cons_of_pos d];exact Nat.le_succ_of_le i
   | false=>rw[List.filter_cons_of_neg (by rw[d];decide)];exact i
theorem zFD {l:List Nat}{p q:Nat->Bool}(h:∀x∈l,p x=true->q x=true){y:Nat}(hy:y∈l)(y1:p y=false)(y2:q y=true):(l.filter p).length<(l.filter q).length:=by
 induction l with
 | nil=>cases hy
 | cons a l ih=>
  have hh:∀x∈l,p x=true->q x=true:=λx hx=>h x (.tail _ hx)
  rcases List.mem_cons.mp hy with rfl | z
  ·rw[List.filter_cons_of_neg (by rw[y1];decide),List.filter_cons_of_pos y2]
   exact Nat.lt_succ_of_le (zFE hh)
  ·have i:=ih hh z
   cases c:p a with
   | true=>rw[List.filter_cons_of_pos c,List.filter_cons_of_pos (h a (.head _) c)];exact Nat.succ_lt_succ i
   | false=>
    rw[List.filter_cons_of_neg (by rw[c];decide)]
    cases d:q a with
    | true=>rw[List.filter_cons_of_pos d];exact Nat.lt_succ_of_lt i
    | false=>rw[List.filter_cons_of_neg (by rw[d];decide)];exact i
theorem zJk {m:Nat}:pc m<=9:=List.length_filter_le (p:=m.testBit) (List.range 9)
theorem zH1 {a b:Nat}(h:Sub a b)(hb:B9 b)(n:b≠a):pc a<pc b:=by
 obtain⟨r,h1⟩:=Classical.not_forall.mp λz=>n (Nat.eq_of_testBit_eq z)
 have:b.testBit r=true/\a.testBit r=false:=by
  cases c:a.testBit r with
  | true=>rw[c] at h1;exact absurd (h r c) h1
  | false=>rw[c] at h1;exact⟨by rw[<-Bool.not_eq_false];exact h1,rfl⟩
 exact zFD (λx _=>h x) (List.mem_range.mpr (hb r this.1)) this.2 this.1
theorem B9.or {a b:Nat}(h:B9 a)(k:B9 b):B9 (a ||| b):=λr q=>by
 rw[Nat.testBit_or,Bool.or_eq_true] at q
 exact q.elim (h r) (k r)
theorem B9.add {args:List Opd}:∀{m:Nat},B9 m->(∀o∈args,o.1=true->o.2.toNat<9)->B9 (addA m args):=by
 induction args with
 | nil=>exact λh _=>h
 | cons o l ih=>
  intro m h k
  refine ih (m:=if o.1 then setb m o.2 else m) ?_ λx hx=>k x (.tail _ hx)
  by_cases c:o.1=true
  ·rw[if_pos c]
   refine h.or λr q=>?_
   rw[Nat.testBit_two_pow,decide_eq_true_iff] at q
   exact q▸k o (.head _) c
  ·rw[if_neg c];exact h
theorem B9.step {sl:Zg}{am:Za}{m:Nat}{p:PS}(h:B9 m)(k:∀o∈p.args,o.1=true->o.2.toNat<9):B9 (needStep sl am m p):=by
 unfold needStep
 by_cases c:zF m p.dst=true
 ·rw[if_pos c]
  refine B9.add (λr q=>?_) k
  rw[j6 c] at q
  exact h r (Bool.and_eq_true_iff.mp q).1
 ·rw[if_neg c]
  by_cases d:zY sl am p=true
  ·rw[if_pos d];exact h
  ·rw[if_neg d];exact h.add k
theorem B9.need {sl:Zg}{am:Za}{ps:List PS}{en:List Opd}{m:Nat}(h:B9 m)(k1:∀p∈ps,∀o∈p.args,o.1=true->o.2.toNat<9)(k2:∀o∈en,o.1=true->o.2.toNat<9):B9 (needP sl am ps en m):=by
 unfold needP
 rw[List.foldl_reverse]
 have h:=h.add k2
 generalize addA m en=m at h
 induction ps with
 | nil=>exact h
 | cons p ps ih=>exact B9.step (ih (zH k1)) (k1 p (.head _))
theorem B9.behind {AH:List (Int×Nat)}{ways:List Int}(h:∀j∈ways,B9 (zb AH j)):B9 (zL AH ways):=by
 unfold zL
 have key:∀(l:List Int) (m:Nat),B9 m->(∀j∈l,B9 (zb AH j))->B9 (l.foldl (λm j=>m ||| zb AH j) m):=λl=>by
  induction l with
  | nil=>exact λ_ h _=>h
  | cons a l ih=>exact λm h k=>ih _ (h.or (k a (.head _))) (zH k)
 exact key ways 0 (λr q=>by rw[Nat.zero_testBit] at q;cases q) h
theorem zDk {A1 A2:List (Int×Nat)}{ways:List Int}(h:∀j,Sub (zb A1 j) (zb A2 j)):Sub (zL A1 ways) (zL A2 ways):=by
 unfold zL
 have key:∀(l:List Int) (a b:Nat),Sub a b->Sub (l.foldl (λm j=>m ||| zb A1 j) a) (l.foldl (λm j=>m ||| zb A2 j) b):=λl=>by
  induction l with
  | nil=>exact λ_ _ h=>h
  | cons a l ih=>exact λ_ _ k=>ih _ _ (k.or (h a))
 exact key ways 0 0 .refl
theorem zFX {A1 A2:List (Int×Nat)}{ways:List Int}(h:∀j∈ways,zb A1 j=zb A2 j):zL A1 ways=zL A2 ways:=by
 unfold zL
 generalize 0=m
 induction ways generalizing m with
 | nil=>rfl
 | cons a l ih=>rw[List.foldl_cons,List.foldl_cons,h a (.head _)];exact ih (zH h) _
theorem yy {AH:List (Int×Nat)}{i j:Int}{b:Nat}:zb (st AH i b) j=if j=i then b else zb AH j:=by
 show (lk (st AH i b) j).getD 0=_
 rw[zAe]
 by_cases q:j=i
 ·rw[if_pos q,if_pos q];rfl
 ·rw[if_neg q,if_neg q];rfl
noncomputable def wgt (W0:List Int)(AH:List (Int×Nat)):Nat:=(W0.map λi=>9 - pc (zb AH i)).sum
theorem zGm {l:List Int}{f g:Int->Nat}(h:∀x∈l,f x<=g x):(l.map f).sum<=(l.map g).sum:=by
 induction l with
 | nil=>exact Nat.le_refl _
 | cons a l ih=>rw[List.map_cons,List.map_cons,List.sum_cons,List.sum_cons];exact Nat.add_le_add (h a (.head _)) (ih (zH h))
theorem zI2 {l:List Int}{f g:Int->Nat}(h:∀x∈l,f x<=g x){y:Int}(hy:y∈l)(k:f y<g y):(l.map f).sum<(l.map g).sum:=by
 induction l with
 | nil=>cases hy
 | cons a l ih=>
  rw[List.map_cons,List.map_cons,List.sum_cons,List.sum_cons]
  rcases List.mem_cons.mp hy with rfl | z
  ·exact Nat.add_lt_add_of_lt_of_le k (zGm (zH h))
  ·exact Nat.add_lt_add_of_le_of_lt (h a (.head _)) (ih (zH h) z)
structure CfOK (am:Za)(Bs:List PB)(W0:List Int)(L:List (List Int)):Prop where
 bl:∀i∈W0,∃B,Bs[i.toNat]?=some B/\∀j∈B.ways,j∈W0
 st9:∀B∈Bs,(∀p∈B.steps,∀o∈p.args,o.1=true->o.2.toNat<9)/\∀o∈B.fin.args,o.1=true->o.2.toNat<9
 pre:∀j∈W0,∀B,Bs[j.toNat]?=some B->∀i∈B.ways,j∈L.getD i.toNat []
 two:∀i:Int,(L.getD i.toNat []).length<=2
noncomputable def fOf (am:Za)(B:PB)(AH:List (Int×Nat)):Nat:=needP sl0 am B.steps B.fin.args (zL AH B.ways)
structure NaI (am:Za)(Bs:List PB)(W0 W:List Int)(a:Nat)(AH:List (Int×Nat))(IW:List (Int×Bool)):Prop where
 keys:∀j,(lk AH j).isSome=true↔j∈W0
 queue:∀j∈W.drop a,j∈W0
 wait:∀j∈W0,flW IW j->j∈W.drop a
 fix:∀j∈W0,¬flW IW j->∀B,Bs[j.toNat]?=some B->fOf am B AH=zb AH j
 low:∀j∈W0,∀B,Bs[j.toNat]?=some B->Sub (zb AH j) (fOf am B AH)
 b9:∀j∈W0,B9 (zb AH j)
theorem zJJ {n a s k:Nat}(h:n - a+2 * s<k+1)(ha:a<n):n - (a+1)+2 * s<k:=by
 rw[show n - a=(n - (a+1))+1 from(Nat.sub_add_cancel (Nat.sub_pos_of_lt ha)).symm,Nat.add_right_comm] at h
 exact Nat.lt_of_succ_lt_succ h
theorem zJw {n a s s' k e:Nat}(h:n - a+2 * s<k+1)(ha:a<n)(he:e<=2)(hs:s'<s):n+e - (a+1)+2 * s'<k:=by
 rw[Nat.sub_add_comm ha,Nat.add_assoc]
 exact Nat.lt_of_le_of_lt (Nat.add_le_add_left (Nat.le_trans (Nat.add_le_add_right he _) (by rw[Nat.add_comm];exact Nat.mul_le_mul_left 2 hs)) _) (zJJ h ha)
theorem zIv {am:Za}{Bs:List PB}{W0:List Int}{L:List (List Int)}(cf:CfOK am Bs W0 L):∀(k:Nat) {W:List Int} {a:Nat} {AH:List (Int×Nat)} {IW:List (Int×Bool)},NaI am Bs W0 W a AH IW->W.length - a+2 * wgt W0 AH<k ->
  ∃AH',naGo sl0 am Bs L k W a AH IW=some AH'/\(∀j,(lk AH' j).isSome=true↔j∈W0)/\∀j∈W0,∀B,Bs[j.toNat]?=some B->fOf am B AH'=zb AH' j:=λk=>by
 induction k with
 | zero=>exact λ_ h=>absurd h (Nat.not_lt_zero _)
 | succ k ih=>
  intro W a AH IW I hf
  cases e:W[a]? with
  | none=>
   refine⟨AH,zEa e,I.keys,λj hj B hB=>I.fix j hj (λq=>?_) B hB⟩
   have:=I.wait j hj q
   rw[List.drop_eq_nil_of_le (List.getElem?_eq_none_iff.mp e)] at this
   cases this
  | some i=>
   obtain⟨ha,hd⟩:=jT e
   have hi:i∈W0:=I.queue i (hd▸.head _)
   obtain⟨B,hB,hw⟩:=cf.bl i hi
   rw[zE8 e hB]
   show ∃AH',(if Nat.beq (fOf am B AH) (zb AH i)=true then naGo sl0 am Bs L k W (a+1) AH (st IW i false) else _)=some AH'/\_
   by_cases c:Nat.beq (fOf am B AH) (zb AH i)=true
   ·rw[if_pos c]
    have c:=Nat.eq_of_beq_eq_true c
    refine ih ⟨I.keys,λj hj=>I.queue j (hd▸.tail _ hj),λj hj q=>?_,λj hj q B' hB'=>?_,I.low,I.b9⟩ (zJJ hf ha)
    ·rw[zCV] at q
     by_cases z:j=i
     ·rw[if_pos z] at q;cases q
     ·rw[if_neg z] at q
      exact(List.mem_cons.mp (hd▸I.wait j hj q)).resolve_left z
    ·by_cases z:j=i
     ·subst z
      rw[hB] at hB'
      cases hB'
      exact c
     ·exact I.fix j hj (λy=>q (by rw[zCV,if_neg z];exact y)) B' hB'
   ·rw[if_neg c]
    have c:fOf am B AH≠zb AH i:=λz=>c (by rw[z];exact Nat.beq_refl _)
    show ∃AH',naGo sl0 am Bs L k ((L.getD i.toNat []).foldl (wake (st AH i (fOf am B AH))) (W,st IW i false)).1 (a+1) (st AH i (fOf am B AH)) ((L.getD i.toNat []).foldl (wake (st AH i (fOf am B AH))) (W,st IW i false)).2=some AH'/\_
    have hb9:B9 (fOf am B AH):=by
     obtain⟨k1,k2⟩:=cf.st9 B (List.mem_of_getElem? hB)
     exact B9.need (.behind λj hj=>I.b9 j (hw j hj)) k1 k2
    have hlow:=I.low i hi B hB
    have up:∀j,Sub (zb AH j) (zb (st AH i (fOf am B AH)) j):=λj=>by
     rw[yy]
     by_cases z:j=i
     ·rw[if_pos z,z];exact hlow
     ·rw[if_neg z];exact .refl
    have upF:∀B',Sub (fOf am B' AH) (fOf am B' (st AH i (fOf am B AH))):=λB'=>(zDk up).needP
    have hkeys:∀j,(lk (st AH i (fOf am B AH)) j).isSome=true↔j∈W0:=λj=>by
     rw[zAe]
     by_cases z:j=i
     ·rw[if_pos z];exact⟨λ_=>z▸hi,λ_=>rfl⟩
     ·rw[if_neg z];exact I.keys j
    obtain⟨ext,r⟩:=@zFc (st AH i (fOf am B AH)) (L.getD i.toNat []) W (st IW i false)
    generalize (L.getD i.toNat []).foldl (wake (st AH i (fOf am B AH))) (W,st IW i false)=rr at r
    have hdr:rr.1.drop (a+1)=W.drop (a+1)++ext:=by rw[r.e,List.drop_append_of_le_length ha]
    refine ih ⟨hkeys,λj hj=>?_,λj hj q=>?_,λj hj q B' hB'=>?_,λj hj B' hB'=>?_,λj hj=>?_⟩ ?_
    ·rw[hdr] at hj
     exact(List.mem_append.mp hj).elim (λz=>I.queue j (hd▸.tail _ z)) λz=>(hkeys j).mp (r.inA j z)
    ·rw[hdr]
     refine List.mem_append.mpr ((r.src j q).imp (λq=>?_) id)
     rw[zCV] at q
     by_cases z:j=i
     ·rw[if_pos z] at q;cases q
     ·rw[if_neg z] at q
      exact(List.mem_cons.mp (hd▸I.wait j hj q)).resolve_left z
    ·have np:i∉B'.ways:=λz=>q (r.all j (cf.pre j hj B' hB' i z) ((hkeys j).mpr hj))
     have ef:fOf am B' (st AH i (fOf am B AH))=fOf am B' AH:=congrArg (needP sl0 am B'.steps B'.fin.args) (zFX λx hx=>by rw[yy,if_neg λz:x=i=>np (z▸hx)])
     rw[ef,yy]
     by_cases z:j=i
     ·rw[if_pos z]
      subst z
      rw[hB] at hB'
      cases hB';rfl
     ·rw[if_neg z]
      exact I.fix j hj (λy=>q (r.up j (by rw[zCV,if_neg z];exact y))) B' hB'
    ·refine Sub.trans ?_ (upF B')
     rw[yy]
     by_cases z:j=i
     ·rw[if_pos z]
      subst z
      rw[hB] at hB'
      cases hB';exact .refl
     ·rw[if_neg z];exact I.low j hj B' hB'
    ·rw[yy]
     by_cases z:j=i
     ·rw[if_pos z];exact hb9
     ·rw[if_neg z];exact I.b9 j hj
    ·rw[r.e,List.length_append]
     refine zJw hf ha (Nat.le_trans r.len (cf.two i)) (zI2 (λx _=>?_) hi ?_)
     ·rw[yy]
      by_cases z:x=i
      ·rw[if_pos z,z];exact Nat.sub_le_sub_left (Nat.le_of_lt (zH1 hlow hb9 c)) 9
      ·rw[if_neg z];exact Nat.le_refl _
     ·rw[yy,if_pos rfl]
      exact Nat.sub_lt_sub_left (Nat.lt_of_lt_of_le (zH1 hlow hb9 c) zJk) (zH1 hlow hb9 c)
theorem lk0 {β:Type}(v:β)(W:List Int):∀(l:List (Int×β)) (j:Int),lk (W.foldl (λl i=>st l i v) l) j=if j∈W then some v else lk l j:=by
 induction W with
 | nil=>exact λl j=>(if_neg List.not_mem_nil).symm
 | cons i W ih=>
  intro l j
  rw[List.foldl_cons,ih,zAe]
  by_cases q:j∈W
  ·rw[if_pos q,if_pos (List.mem_cons_of_mem _ q)]
  ·rw[if_neg q]
   by_cases z:j=i
   ·rw[if_pos z,if_pos (z▸List.mem_cons_self)]
   ·rw[if_neg z,if_neg λy=>(List.mem_cons.mp y).elim z q]
theorem zJp {am:Za}{Bs:List PB}{W0:List Int}{L:List (List Int)}(cf:CfOK am Bs W0 L)(hl:W0.length<=4):∃AH,naGo sl0 am Bs L 100 W0 0 (AH0 W0) (IW0 W0)=some AH/\(∀j,(lk AH j).isSome=true↔j∈W0)/\∀j∈W0,∀B,Bs[j.toNat]?=some B->fOf am B AH=zb AH j:=by
 have hz:∀j,zb (AH0 W0) j=0:=λj=>by
  show (lk (W0.foldl (λl i=>st l i 0) []) j).getD 0=0
  rw[lk0]
  by_cases q:j∈W0
  ·rw[if_pos q];rfl
  ·rw[if_neg q];rfl
 have n0:∀r,Nat.testBit 0 r≠true:=λr q=>by rw[Nat.zero_testBit] at q;cases q
 refine zIv cf 100 ⟨λj=>?_,λj h=>h,λj h _=>h,λj hj q=>absurd ?_ q,λj hj B hB=>?_,λj hj=>?_⟩ ?_
 ·show (lk (W0.foldl (λl i=>st l i 0) []) j).isSome=true↔_
  rw[lk0]
  by_cases q:j∈W0
  ·rw[if_pos q];exact⟨λ_=>q,λ_=>rfl⟩
  ·rw[if_neg q];exact⟨λz=>(nomatch z),λz=>absurd z q⟩
 ·unfold flW IW0
  rw[lk0,if_pos hj];rfl
 ·rw[hz];exact λr q=>absurd q (n0 r)
 ·rw[hz];exact λr q=>absurd q (n0 r)
 ·have h1:wgt W0 (AH0 W0)<=(W0.map λ_=>9).sum:=zGm λx _=>Nat.sub_le _ _
  have h2:∀l:List Int,(l.map λ_=>9).sum=9 * l.length:=λl=>by
   induction l with
   | nil=>rfl
   | cons a l ih=>rw[List.map_cons,List.sum_cons,ih,List.length_cons,Nat.mul_succ,Nat.add_comm]
  rw[h2] at h1
  exact Nat.lt_of_le_of_lt (Nat.add_le_add (show W0.length - 0<=4 from hl) (Nat.mul_le_mul_left 2 (Nat.le_trans h1 (Nat.mul_le_mul_left 9 hl)))) (by decide)
end
noncomputable section
inductive Lss:List PS->List PS->Prop
 | nil:Lss [] []
 | drop {p:PS} {ps qs:List PS} (h:cntP p=false) (t:Lss ps qs):Lss (p::ps) qs
 | keep {p:PS} {ps qs:List PS} (t:Lss ps qs):Lss (p::ps) (p::qs)
 | free {p:PS} {ps qs:List PS} (h:p.op=3) (h0:0<=p.dst) (t:Lss ps qs):Lss (p::ps) (wI p::qs)
theorem Lss.refl {ps:List PS}:Lss ps ps:=by
 induction ps with
 | nil=>exact .nil
 | cons p ps ih=>exact .keep ih
theorem LsK.lss {ps:List PS}{kq:List (PS×Bool)}(h:LsK ps kq):Lss ps (kq.map (·.1)):=by
 induction h with
 | nil=>exact .nil
 | drop h _ ih=>exact .drop h ih
 | keep _ ih=>exact .keep ih
 | free h h0 _ ih=>exact .free h h0 ih
theorem cnt3 {p:PS}(h:p.op=3):cntP p=true:=by unfold cntP;rw[h];cases p.vol<;>rfl
theorem Lss.trans {a b c:List PS}(h:Lss a b)(k:Lss b c):Lss a c:=by
 induction h generalizing c with
 | nil=>exact k
 | drop h _ ih=>exact .drop h (ih k)
 | keep _ ih=>
  cases k with
  | drop h t=>exact .drop h (ih t)
  | keep t=>exact .keep (ih t)
  | free h h0 t=>exact .free h h0 (ih t)
 | free h h0 _ ih=>
  cases k with
  | drop h' t=>rw[cnt3 (p:=wI _) h] at h';cases h'
  | keep t=>exact .free h h0 (ih t)
  | free _ h1 t=>exact absurd h1 (by show ¬(0:Int)<=-1;decide)
noncomputable def wt1 (p:PS):Nat:=if p.op=3/\0<=p.dst then 2 else 1
noncomputable def wtS (ps:List PS):Nat:=(ps.map wt1).sum
theorem wm (p:PS)(ps:List PS):wtS (p::ps)=wt1 p+wtS ps:=by unfold wtS;rw[List.map_cons,List.sum_cons]
theorem uk (p:PS):0<wt1 p:=by
 unfold wt1
 by_cases c:p.op=3/\0<=p.dst
 ·rw[if_pos c];decide
 ·rw[if_neg c];decide
theorem zDo {p:PS}(h:p.op=3)(h0:0<=p.dst):wt1 (wI p)<wt1 p:=by
 have e:wt1 (wI p)=1:=if_neg λc=>absurd c.2 (by show ¬(0:Int)<=-1;decide)
 rw[e,show wt1 p=2 from if_pos ⟨h,h0⟩]
 decide
theorem LsK.wt {ps:List PS}{kq:List (PS×Bool)}(h:LsK ps kq):wtS (kq.map (·.1))<=wtS ps/\((Nat.blt kq.length ps.length||kq.any (·.2))=true->wtS (kq.map (·.1))<wtS ps):=by
 induction h with
 | nil=>exact⟨Nat.le_refl _,λq=>nomatch q⟩
 | @drop p ps kq _ _ ih=>
  rw[wm]
  have:=Nat.lt_of_le_of_lt ih.1 (Nat.lt_add_of_pos_left (uk p))
  exact⟨Nat.le_of_lt this,λ_=>this⟩
 | @keep p ps kq _ ih=>
  rw[List.map_cons,wm,wm]
  exact⟨Nat.add_le_add_left ih.1 _,λq=>Nat.add_lt_add_left (ih.2 q) _⟩
 | @free p ps kq h h0 _ ih=>
  rw[List.map_cons,wm,wm]
  have:=Nat.add_lt_add_of_lt_of_le (zDo h h0) ih.1
  exact⟨Nat.le_of_lt this,λ_=>this⟩
structure SwO (F:PB->PB)(c:PB->Bool)(B:PB):Prop where
 same:c B=false->F B=B
 fin:(F B).fin=B.fin
 ways:(F B).ways=B.ways
 lss:Lss B.steps (F B).steps
 le:wtS (F B).steps<=wtS B.steps
 lt:c B=true->wtS (F B).steps<wtS B.steps
noncomputable def wtB (Bs:List PB):Nat:=(Bs.map λB=>wtS B.steps).sum
inductive Zu:List PB->List PB->Prop
 | nil:Zu [] []
 | cons {B B':PB} {Bs Bs':List PB} (h1:B'.fin=B.fin) (h2:B'.ways=B.ways) (h3:Lss B.steps B'.steps) (t:Zu Bs Bs'):Zu (B::Bs) (B'::Bs')
theorem Zu.refl {Bs:List PB}:Zu Bs Bs:=by
 induction Bs with
 | nil=>exact .nil
 | cons B Bs ih=>exact .cons rfl rfl .refl ih
theorem Zu.trans {a b c:List PB}(h:Zu a b)(k:Zu b c):Zu a c:=by
 induction h generalizing c with
 | nil=>exact k
 | cons h1 h2 h3 _ ih=>cases k with | cons k1 k2 k3 k4=>exact .cons (k1.trans h1) (k2.trans h2) (h3.trans k3) (ih k4)
structure SwR (Bs Bs':List PB)(f:Bool):Prop where
 rel:Zu Bs Bs'
 same:f=false->Bs'=Bs
 le:wtB Bs'<=wtB Bs
 lt:f=true->wtB Bs'<wtB Bs
theorem zGj {F:PB->PB}{c:PB->Bool}{p:Int->Bool}:∀{Bs:List PB} {i:Int},(∀B∈Bs,SwO F c B)->SwR Bs (zS F p i Bs) (zn c p i Bs):=λ{Bs}=>by
 induction Bs with
 | nil=>exact λ_=>⟨.nil,λ_=>rfl,Nat.le_refl _,λq=>nomatch q⟩
 | cons B Bs ih=>
  intro i h
  have r:=@ih (i+1) (zH h)
  have o:=h B (.head _)
  have e:∀A As,wtB (A::As)=wtS A.steps+wtB As:=λA As=>by unfold wtB;rw[List.map_cons,List.sum_cons]
  show SwR (B::Bs) ((if p i then F B else B)::zS F p (i+1) Bs) ((p i&&c B)||zn c p (i+1) Bs)
  cases q:p i with
  | false=>exact⟨.cons rfl rfl .refl r.rel,λz=>congrArg _ (r.same z),by rw[e,e];exact Nat.add_le_add_left r.le _,λz=>by rw[e,e];exact Nat.add_lt_add_left (r.lt z) _⟩
  | true=>
   rw[Bool.true_and,if_pos rfl]
   refine⟨.cons o.fin o.ways o.lss r.rel,λz=>?_,by rw[e,e];exact Nat.add_le_add o.le r.le,λz=>?_⟩
   ·rw[Bool.or_eq_false_iff] at z
    rw[o.same z.1,r.same z.2]
   ·rw[e,e]
    rw[Bool.or_eq_true] at z
    exact z.elim (λz=>Nat.add_lt_add_of_lt_of_le (o.lt z) r.le) λz=>Nat.add_lt_add_of_le_of_lt o.le (r.lt z)
theorem SwR.trans {a b c:List PB}{f g:Bool}(h:SwR a b f)(k:SwR b c g):SwR a c (f||g):=
 ⟨h.rel.trans k.rel,λq=>by rw[Bool.or_eq_false_iff] at q;exact(k.same q.2).trans (h.same q.1),Nat.le_trans k.le h.le,λq=>(Bool.or_eq_true _ _▸q).elim (λq=>Nat.lt_of_le_of_lt k.le (h.lt q)) λq=>Nat.lt_of_lt_of_le (k.lt q) h.le⟩
theorem zJc {am:Za}{AH:List (Int×Nat)}{B:PB}(h:∀p∈B.steps,DrS p):SwO (swB sl0 am AH) (λB=>chgB (wv sl0 am AH B) B) B:=by
 have ls:LsK B.steps (wv sl0 am AH B):=by unfold wv;rw[uA];exact zCf h
 have e:swB sl0 am AH B=withSt B ((wv sl0 am AH B).map (·.1)):=ls.map
 refine⟨λq=>if_neg (by rw[q];decide),by rw[e];rfl,by rw[e];rfl,by rw[e];exact ls.lss,by rw[e];exact ls.wt.1,λq=>by rw[e];exact ls.wt.2 q⟩
theorem zJb {am:Za}{t:Nat}{B:PB}(h:∀p∈B.steps,DrS p/\TkS am t p):SwO (swS am t) (chS am t) B:=by
 have ls:=LsK.filter h
 have e:=zGk h
 have e1:((yA am t B.steps).map λp=>(p,false)).map (·.1)=yA am t B.steps:=by rw[List.map_map];exact List.map_id _
 have w:=ls.wt
 have l:=ls.lss
 rw[e1] at w l
 refine⟨λq=>if_neg (by rw[q];decide),by rw[e];rfl,by rw[e];rfl,by rw[e];exact l,by rw[e];exact w.1,λq=>?_⟩
 rw[e]
 refine w.2 ?_
 rw[List.length_map,show Nat.blt (yA am t B.steps).length B.steps.length=true from q];rfl
end
noncomputable section
noncomputable abbrev W0:List Int:=[3,2,1,0]
noncomputable abbrev cfg (mid:List Int):List (List Int):=[[1],mid,[1,3],[]]
noncomputable def Mid (mid:List Int):Prop:=mid=[2]\/mid=[2,3]\/mid=[2,3,2]
structure Gd (mid:List Int)(Bs:List PB):Prop where
 shape:Bs.map (·.ways)=cfg mid
 steps:∀B∈Bs,∀p∈B.steps,DrW p
 ends : ∀ B ∈ Bs, ∀ o ∈ B.fin.args, o.1 = true -> o.2.toNat < 9
 ok:FnOK Bs
 few:wtB Bs<=900
inductive Shp (mid:List Int):List PB->Prop
 | mk (s0 s1 s2 s3:List PS) (f0 f1 f2 f3:PS):Shp mid [⟨s0,f0,[1]⟩,⟨s1,f1,mid⟩,⟨s2,f2,[1,3]⟩,⟨s3,f3,[]⟩]
theorem zI7 {mid:List Int}{Bs:List PB}(h:Bs.map (·.ways)=cfg mid):Shp mid Bs:=by
 obtain⟨⟨s0,f0,_⟩,t1,rfl,rfl,h1⟩:=List.map_eq_cons_iff.mp h
 obtain⟨⟨s1,f1,_⟩,t2,rfl,rfl,h2⟩:=List.map_eq_cons_iff.mp h1
 obtain⟨⟨s2,f2,_⟩,t3,rfl,rfl,h3⟩:=List.map_eq_cons_iff.mp h2
 obtain⟨⟨s3,f3,_⟩,t4,rfl,rfl,h4⟩:=List.map_eq_cons_iff.mp h3
 obtain rfl:=List.map_eq_nil_iff.mp h4
 exact .mk ..
structure CfgR (Bs:List PB):Prop where
 po:zDZ Bs=some W0
 len:Bs.length=4
 ways:∀i∈W0,∃B,Bs[i.toNat]?=some B/\∀j∈B.ways,j∈W0
 pre:∀j∈W0,∀B,Bs[j.toNat]?=some B->∀i∈B.ways,j∈(zo Bs).getD i.toNat []
 two:∀l∈zo Bs,l.length<=2
theorem zFd {P:Int->Prop}(h0:P 0)(h1:P 1)(h2:P 2)(h3:P 3):∀i∈W0,P i:=zB h3 (zB h2 (zB h1 (zB h0 zD)))
noncomputable def chkC (C L:List (List Int)):Prop:=(∀j∈W0,j.toNat<C.length/\∀i∈C.getD j.toNat [],i∈W0/\j∈L.getD i.toNat [])/\∀l∈L,l.length<=2
theorem zC0 {Bs:List PB}{C L:List (List Int)}(hC:Bs.map (·.ways)=C)(hL:zo Bs=L)(po:zDZ Bs=some W0)(h4:C.length=4)(h:chkC C L):CfgR Bs:=by
 have hl:Bs.length=4:=by rw[<-h4,<-hC,List.length_map]
 have key:∀{j:Int} {B:PB},Bs[j.toNat]?=some B->C.getD j.toNat []=B.ways:=λq=>by rw[<-hC,List.getD_eq_getElem?_getD,List.getElem?_map,q];rfl
 refine⟨po,hl,λi hi=>?_,λj hj B hB i hi=>?_,hL▸h.2⟩
 ·obtain⟨q1,q2⟩:=h.1 i hi
  have hB:Bs[i.toNat]?=some Bs[i.toNat]:=List.getElem?_eq_getElem (by rw[hl,<-h4];exact q1)
  exact⟨_,hB,λj hj=>(q2 j (key hB▸hj)).1⟩
 ·exact hL▸((h.1 j hj).2 i (key hB▸hi)).2
theorem cfgR {mid:List Int}(hm:Mid mid){Bs:List PB}(h:Shp mid Bs):CfgR Bs:=by
 cases h with | mk s0 s1 s2 s3 f0 f1 f2 f3=>
 rcases hm with rfl | rfl | rfl
 ·exact zC0 (C:=cfg [2]) (L:=[[],[0,2],[1],[2]]) rfl rfl rfl rfl (by unfold chkC;decide +kernel)
 ·exact zC0 (C:=cfg [2,3]) (L:=[[],[0,2],[1],[1,2]]) rfl rfl rfl rfl (by unfold chkC;decide +kernel)
 ·exact zC0 (C:=cfg [2,3,2]) (L:=[[],[0,2],[1],[1,2]]) rfl (by kernel_rfl) (by kernel_rfl) rfl (by unfold chkC;decide +kernel)
theorem CfgR.pok {Bs:List PB}(h:CfgR Bs):PoOK Bs W0:=⟨by decide,λi hi=>⟨zFd (P:=λi=>0<=i) (by decide) (by decide) (by decide) (by decide) i hi,h.ways i hi⟩⟩
theorem zEE {p:PS}(h:DrS p):Yc sl0 p:=λe=>by
 cases h with
 | @two op _ _ _ q _=>rw[show op=9 from e] at q;cases q
 | @one op _ _ q=>rw[show op=9 from e] at q;cases q
 | @slot d s hs=>
  refine⟨s,rfl,?_⟩
  rcases hs with rfl | rfl<;>decide
 | load=>cases e
 | store=>cases e
 | move=>cases e
 | call=>cases e
 | name=>cases e
theorem Zu.maps {Bs Bs':List PB}(h:Zu Bs Bs'):Bs'.map (·.fin)=Bs.map (·.fin)/\Bs'.map (·.ways)=Bs.map (·.ways):=by
 induction h with
 | nil=>exact⟨rfl,rfl⟩
 | cons h1 h2 _ _ ih=>
  simp only [List.map_cons,h1,h2,ih.1,ih.2,and_self]
noncomputable abbrev s00:MSt:=([],[],[])
structure Yz (mid:List Int)(Bs:List PB)(AH:List (Int×Nat))(R:List PB×Bool):Prop where
 cf:CfgR Bs
 go:naGo sl0 (zK [] (z5 Bs)).1 Bs (zo Bs) 100 W0 0 (AH0 W0) (IW0 W0)=some AH
 sw:SwR Bs R.1 R.2
 run:∀o,runG Bs 20 0 s00=some o->runG R.1 20 0 s00=some o
 gd:Gd mid R.1
theorem zBU {Bs:List PB}{B:PB}{p:PS}(h:B∈Bs)(hp:p∈B.steps):p∈z5 Bs:=List.mem_flatMap.mpr ⟨B,h,hp⟩
theorem zCp {Bs:List PB}{p:PS}(h:p∈z5 Bs):∃B∈Bs,p∈B.steps:=List.mem_flatMap.mp h
structure P0 (am:Za)(t:Nat)(p:PS):Prop where
 dr:DrW p
 only:0<=p.dst->∀s,lk am p.dst=some s->p.op=9/\p.more=.int s
 slot:p.op=9->∀s,p.more=.int s->lk am p.dst=some s\/zF t s=true
theorem P0.freed {am:Za}{t:Nat}{p:PS}(h:P0 am t p)(hc:yO p.op=true):P0 am t (wI p):=⟨h.dr.freed hc,λq=>absurd q (by show ¬(0:Int)<=-1;decide),λq=>by rw[show p.op=9 from q] at hc;cases hc⟩
theorem ki0 {am:Za}{P:Int->Prop}:KI am P []:=λr e h=>nomatch h
theorem zF4 {Bs:List PB}:(z5 Bs).length<=wtB Bs:=by
 have key:∀ps:List PS,ps.length<=wtS ps:=λps=>by
  induction ps with
  | nil=>exact Nat.le_refl _
  | cons p ps ih=>rw[wm,List.length_cons,Nat.add_comm];exact Nat.add_le_add (uk p) ih
 induction Bs with
 | nil=>exact Nat.le_refl _
 | cons B Bs ih=>
  rw[uQ,List.length_append]
  unfold wtB
  rw[List.map_cons,List.sum_cons]
  exact Nat.add_le_add (key _) ih
theorem turn {mid:List Int}(hm:Mid mid){Bs:List PB}(g:Gd mid Bs):∃AH,Yz mid Bs AH (ul sl0 (zK [] (z5 Bs)) AH Bs):=by
 have cf:=cfgR hm (zI7 g.shape)
 have hst:∀p∈z5 Bs,DrW p:=λp hp=>by obtain⟨B,hB,hp⟩:=zCp hp;exact g.steps B hB p hp
 obtain⟨h1,h2,h3⟩:=zBs λp hp=>zEE (hst p hp).dr
 generalize eR:zK [] (z5 Bs)=R at h1 h2 h3
 have hp0:∀B∈Bs,∀p∈B.steps,P0 R.1 R.2 p:=λB hB p hp=>⟨g.steps B hB p hp,λ_=>h1 p (zBU hB hp),h2 p (zBU hB hp)⟩
 obtain⟨AH,n1,n2,n3⟩:=zJp (am:=R.1) (L:=zo Bs) (W0:=W0) (Bs:=Bs) ⟨cf.ways,λB hB=>⟨λp hp o ho h=>by
   obtain⟨a1,a2,_⟩:=(g.steps B hB p hp).args o ho
   have a2:=a2 h
   exact zDM a1 a2,g.ends B hB⟩,cf.pre,λi=>by
   rw[List.getD_eq_getElem?_getD]
   cases q:(zo Bs)[i.toNat]? with
   | none=>exact Nat.zero_le _
   | some l=>exact cf.two l (List.mem_of_getElem? q)⟩ (by decide)
 have hdr:∀B∈Bs,∀p∈B.steps,DrS p:=λB hB p hp=>(g.steps B hB p hp).dr
 have swA:=zGj (F:=swB sl0 R.1 AH) (c:=λB=>chgB (wv sl0 R.1 AH B) B) (p:=λi=>(lk AH i).isSome) (i:=0) λB hB=>zJc (hdr B hB)
 have runA:∀o,runG Bs 20 0 s00=some o->runG (zS (swB sl0 R.1 AH) (λi=>(lk AH i).isSome) 0 Bs) 20 0 s00=some o:=λo h=>
  simA (P:=λ_=>True) ⟨λB hB p hp=>⟨g.steps B hB p hp,(hp0 B hB p hp).only,λ_ _ _=>.inr trivial,λ_ _ _ _ _ _=>trivial⟩,λB hB=>(g.ok.blks B hB).ends⟩ cf.pok (λi hi=>(n2 i).mpr hi) n3 20 (i:=0) (by decide) (s1:=s00) (k2:=[]) ki0 (λ_ _=>rfl) h
 have hp1:∀B∈zS (swB sl0 R.1 AH) (λi=>(lk AH i).isSome) 0 Bs,∀p∈B.steps,P0 R.1 R.2 p:=uB (P:=λB=>∀p∈B.steps,P0 R.1 R.2 p) (λB h=>by
  rw[zGl λp hp=>(h p hp).dr.dr,<-uA]
  intro p hp
  obtain⟨q,hq,rfl⟩:=List.mem_map.mp hp
  exact(vp (λp h hc=>h.freed hc) h).2 q hq) hp0
 have ok1:=FnOK.swB (sl:=sl0) (am:=R.1) (AH:=AH) (p:=λi=>(lk AH i).isSome) g.ok
 have gd:∀{Bs':List PB} {f:Bool},SwR Bs Bs' f->(∀B∈Bs',∀p∈B.steps,DrW p)->FnOK Bs'->Gd mid Bs':=λ{Bs' f} sw hs ok=>by
  obtain⟨m1,m2⟩:=sw.rel.maps
  refine⟨m2.trans g.shape,hs,λB hB=>?_,ok,Nat.le_trans sw.le g.few⟩
  have:B.fin∈Bs.map (·.fin):=m1▸List.mem_map_of_mem hB
  obtain⟨B0,hB0,e⟩:=List.mem_map.mp this
  exact e▸g.ends B0 hB0
 refine⟨AH,?_⟩
 unfold ul
 generalize zS (swB sl0 R.1 AH) (λi=>(lk AH i).isSome) 0 Bs=Bs1 at swA runA hp1 ok1 ⊢
 generalize zn (λB=>chgB (wv sl0 R.1 AH B) B) (λi=>(lk AH i).isSome) 0 Bs=c1 at swA ⊢
 unfold zCe
 by_cases em:R.1.isEmpty=true
 ·rw[if_pos em]
  exact⟨cf,eR▸n1,swA,runA,gd swA (λB hB p hp=>(hp1 B hB p hp).dr) ok1⟩
 ·rw[if_neg em]
  have tk:=zDu (am:=R.1) (Bs:=Bs1) (t:=R.2) (λk s h=>(h3 k s h).1) (λ_ h=>h)
  have up:=zCd (am:=R.1) (Bs:=Bs1) (t:=R.2)
  generalize zj sl0 R.1 Bs1 R.2=t at tk up ⊢
  have swB':=swA.trans (zGj (F:=swS R.1 t) (c:=chS R.1 t) (p:=λ_=>true) (i:=0) λB hB=>zJb λp hp=>⟨(hp1 B hB p hp).dr.dr,tk B hB p hp⟩)
  refine⟨cf,eR▸n1,swB',λo h=>?_,gd swB' (uB (P:=λB=>∀p∈B.steps,DrW p) (λB h=>?_) λB hB p hp=>(hp1 B hB p hp).dr) ok1.swS⟩
  ·refine simB (am:=R.1) (λB hB p hp=>⟨(hp1 B hB p hp).dr,⟨(hp1 B hB p hp).only,λe s hs=>((hp1 B hB p hp).slot e s hs).imp id (up s),λe o ho h1 s hs=>?_⟩,tk B hB p hp⟩) (λB hB j hj=>((ok1.blks B hB).goals j hj).1) 20 (i:=0) (by decide) (s1:=s00) (m2:=[]) ki0 (λ_ _=>rfl) (runA o h)
   obtain⟨i,hi⟩:=List.getElem?_of_mem ho
   refine(tk B hB p hp i o hi h1 s hs).resolve_left λq=>?_
   rw[(ju q).1] at e
   cases e
  ·intro p hp
   unfold swS at hp
   by_cases c:chS R.1 t B=true
   ·rw[if_pos c] at hp;exact h p (List.mem_filter.mp hp).1
   ·rw[if_neg c] at hp;exact h p hp
end
noncomputable section
variable {X:Cx}{n:Nat}{G:Gh}{sc:Scope}{os:List (Option Val)}{m:M}
theorem Blt.listLN {Q:QE}{a:Addr}{xs:List Val}(e:G a=some (.list xs))(hl:xs.length<=2000)(q:NewL xs G Q):Blt X n (.type "list") [.ref a] G Q:=Blt.listL e (Nat.lt_of_le_of_lt hl (by decide)) q.nl
inductive EndV (G:Gh)(e:PS)(v:Val):Prop where
 | mk (el:Addr) (h:v=.tup [.str (opS e.op),.ref el,e.more]) (ha:G el=some (.list (e.args.map opdV))) (ho:e.op<36)
theorem EndV.ext {G':Gh}{e:PS}{v:Val}(h:EndV G e v)(x:Ext G G'):EndV G' e v:=by obtain⟨el,h,ha,ho⟩:=h;exact⟨el,h,x _ _ ha,ho⟩
inductive RLs (G:Gh):List (List PS)->List Addr->Prop where
 | nil:RLs G [] []
 | cons {ps:List PS} {a:Addr} {qs:List (List PS)} {as:List Addr}:RowL G ps a->RLs G qs as->RLs G (ps::qs) (a::as)
theorem RLs.map {G':Gh}{qs:List (List PS)}{as:List Addr}(h:RLs G qs as)(k:∀ps a,RowL G ps a->RowL G' ps a):RLs G' qs as:=by
 induction h with
 | nil=>exact .nil
 | cons a _ ih=>exact .cons (k _ _ a) ih
theorem RLs.snoc {qs:List (List PS)}{as:List Addr}{ps:List PS}{a:Addr}(h:RLs G qs as)(r:RowL G ps a):RLs G (qs++[ps]) (as++[a]):=by
 induction h with
 | nil=>exact .cons r .nil
 | cons a _ ih=>exact .cons a ih
theorem RLs.length {qs:List (List PS)}{as:List Addr}(h:RLs G qs as):as.length=qs.length:=by
 induction h with
 | nil=>rfl
 | cons _ _ ih=>exact congrArg (· + 1) ih
end
noncomputable section
variable {X:Cx}{n:Nat}{G:Gh}{sc:Scope}{os:List (Option Val)}{m:M}
noncomputable def ye:Val->PyData
 | .bool b=>.bool b
 | .int i=>.int i
 | .str x=>.str x
 | _=>.none
noncomputable def vf:Val->PyData
 | .tup vs=>.tuple (vs.map ye)
 | v=>ye v
noncomputable def opdD (o:Opd):PyData:=.tuple [.str (rk o.1),.int o.2]
noncomputable def psD (p:PS):PyData:=.tuple [.str (opS p.op),.int p.dst,.list (p.args.map opdD),vf p.more,.bool p.vol]
noncomputable def zFo (ps:List PS):PyData:=.list (ps.map psD)
noncomputable def lsD (qs:List (List PS)):PyData:=.list (qs.map zFo)
inductive Atom:Val->Prop where
 | none:Atom .none
 | bool (b:Bool):Atom (.bool b)
 | int (i:Int):Atom (.int i)
 | str (x:Str):PyData.strOk x=true->Atom (.str x)
inductive Zp:Val->Prop where
 | atom {v:Val}:Atom v->Zp v
 | tup {vs:List Val}:(∀v∈vs,Atom v)->Zp (.tup vs)
theorem Atom.rd {v:Val}{k:Nat}(h:Atom v):RD G k v (ye v):=by
 cases h with
 | none=>exact .none
 | bool b=>exact .bool b
 | int i=>exact .int i
 | str x h=>exact .str h
theorem Zp.rd {v:Val}{k:Nat}(h:Zp v):RD G (k+1) v (vf v):=by
 cases h with
 | atom h=>
  have e:vf v=ye v:=by cases h<;>rfl
  rw[e];exact h.rd
 | @tup vs h=>
  have:RDs G k vs (vs.map ye):=by
   have:=RDs.map (G:=G) (n:=k) id ye vs λv hv=>(h v hv).rd
   rw[List.map_id] at this
   exact this
  exact .tup' this
theorem zCK:∀k<36,PyData.strOk (opS k)=true:=by decide +kernel
theorem zJi:∀b,PyData.strOk (rk b)=true:=by decide +kernel
theorem zGs (o:Opd)(k:Nat):RD G (k+1) (opdV o) (opdD o):=.tup' (.cons (.str (zJi _)) (.cons (.int _) .nil))
theorem RowV.rd {p:PS}{v:Val}{k:Nat}(h:RowV G p v)(hm:Zp p.more):RD G (k+3) v (psD p):=by
 obtain⟨la,rfl,h,ho⟩:=h
 exact .tup' (.cons (.str (zCK _ ho)) (.cons (.int _) (.cons (.list' h (.map _ _ _ λo _=>zGs o k)) (.cons hm.rd (.cons (.bool _) .nil)))))
theorem Zm.rd {ps:List PS}{vs:List Val}{k:Nat}(h:Zm G ps vs):(∀p∈ps,Zp p.more)->RDs G (k+3) vs (ps.map psD):=by
 induction h with
 | nil=>exact λ_=>.nil
 | cons a _ ih=>exact λhm=>.cons (a.rd (hm _ (.head _))) (ih (zH hm))
theorem RowL.rd {ps:List PS}{a:Addr}{k:Nat}(h:RowL G ps a)(hm:∀p∈ps,Zp p.more):RD G (k+4) (.ref a) (zFo ps):=by
 obtain⟨vs,e,h⟩:=h
 exact .list' e (h.rd hm)
theorem RLs.rd {qs:List (List PS)}{as:List Addr}{k:Nat}(h:RLs G qs as):(∀ps∈qs,∀p∈ps,Zp p.more)->RDs G (k+4) (as.map .ref) (qs.map zFo):=by
 induction h with
 | nil=>exact λ_=>.nil
 | cons a _ ih=>exact λhm=>.cons (a.rd (hm _ (.head _))) (ih (zH hm))
noncomputable def eqL {α:Type}(f:α->α->Bool):List α->List α->Bool
 | [],[]=>true
 | a::l,b::r=>f a b&&eqL f l r
 | _,_=>false
theorem zCX {α:Type}{P:α->Prop}{f:α->α->Bool}{g:α->PyData}(h:∀a b,P a->P b->(g a).eqv (g b)=f a b)(l:List α):∀r:List α,(∀a∈l,P a)->(∀a∈r,P a)->PyData.eqvAll (l.map g) (r.map g)=eqL f l r:=by
 induction l with
 | nil=>intro r _ _;cases r<;>rfl
 | cons a l ih=>
  intro r hl hr
  cases r with
  | nil=>rfl
  | cons b r=>
   show (PyData.eqv (g a) (g b)&&PyData.eqvAll (l.map g) (r.map g))=(f a b&&eqL f l r)
   rw[h a b (hl _ (.head _)) (hr _ (.head _)),ih r (zH hl) (zH hr)]
noncomputable def zFH (a b:Opd):Bool:=(a.1 == b.1)&&(a.2 == b.2)
noncomputable def eqP (p q:PS):Bool:=Nat.beq p.op q.op&&((p.dst == q.dst)&&(eqL zFH p.args q.args&&((vf p.more).eqv (vf q.more)&&(p.vol == q.vol))))
theorem zE0:∀a<36,∀b<36,(opS a == opS b)=Nat.beq a b:=by decide +kernel
theorem zIc:∀a b,(rk a == rk b)=(a == b):=by decide +kernel
theorem zDD (a b:Opd):(opdD a).eqv (opdD b)=zFH a b:=by
 show ((rk a.1 == rk b.1)&&((a.2 == b.2)&&true))=_
 rw[zIc,Bool.and_true];rfl
theorem zFG (p q:PS)(hp:p.op<36)(hq:q.op<36):(psD p).eqv (psD q)=eqP p q:=by
 show ((opS p.op == opS q.op)&&((p.dst == q.dst)&&(PyData.eqvAll (p.args.map opdD) (q.args.map opdD)&&((vf p.more).eqv (vf q.more)&&((p.vol == q.vol)&&true)))))=_
 rw[zE0 _ hp _ hq,zCX (P:=λ_=>True) (f:=zFH) (λa b _ _=>zDD a b) _ _ (λ_ _=>trivial) (λ_ _=>trivial),Bool.and_true];rfl
noncomputable def eqLs (a b:List (List PS)):Bool:=eqL (eqL eqP) a b
noncomputable def Yq (qs:List (List PS)):Prop:=∀ps∈qs,∀p∈ps,p.op<36
theorem zHz (a b:List (List PS))(ha:Yq a)(hb:Yq b):(lsD a).eqv (lsD b)=eqLs a b:=
 zCX (P:=λps:List PS=>∀p∈ps,p.op<36) (f:=eqL eqP) (g:=zFo) (λl r hl hr=>zCX (P:=λp:PS=>p.op<36) zFG l r hl hr) a b ha hb
theorem Zm.ops {ps:List PS}{vs:List Val}(h:Zm G ps vs):∀p∈ps,p.op<36:=by
 induction h with
 | nil=>exact zD
 | cons a _ ih=>obtain⟨_,_,_,ho⟩:=a;exact zB ho ih
theorem RLs.ops {qs:List (List PS)}{as:List Addr}(h:RLs G qs as):Yq qs:=by
 induction h with
 | nil=>exact zD
 | cons a _ ih=>obtain⟨_,_,h⟩:=a;exact zB h.ops ih
noncomputable def Z9 (qs:List (List PS)):Prop:=∀ps∈qs,∀p∈ps,Zp p.more
theorem RLs.lsRd {qs:List (List PS)}{as:List Addr}{a:Addr}{k:Nat}(h:RLs G qs as)(e:G a=some (.list (as.map .ref)))(hm:Z9 qs):RD G (k+5) (.ref a) (lsD qs):=.list' e (h.rd hm)
theorem Op2.neRows {qs rs:List (List PS)}{as bs:List Addr}{a b:Addr}(h1:RLs G qs as)(e1:G a=some (.list (as.map .ref)))(m1:Z9 qs)(h2:RLs G rs bs)(e2:G b=some (.list (bs.map .ref)))(m2:Z9 rs):O2 X n (compareOp .NotEq) (.ref a) (.ref b) G (.bool (!eqLs qs rs)):=
 Op2.ne (h1.lsRd (k:=7) e1 m1) (h2.lsRd (k:=7) e2 m2) ⟨by rw[zHz _ _ h1.ops h2.ops],rfl⟩
end
noncomputable section
theorem DrS.more {p:PS}(h:DrS p):Zp p.more:=by
 cases h with
 | two=>exact .atom (.int _)
 | one=>exact .atom (.int _)
 | load=>exact .tup (zB (.int _) (zB (.bool _) zD))
 | store=>exact .atom (.int _)
 | move=>exact .tup (zB (.int _) (zB (.int _) zD))
 | call=>exact .atom (.str _ (by decide +kernel))
 | slot=>exact .atom (.int _)
 | name=>exact .tup (zB (.str _ (by decide +kernel)) (zB (.int _) zD))
theorem Atom.eqv {v:Val}(h:Atom v):(ye v).eqv (ye v)=true:=by
 cases h with
 | none=>rfl
 | bool b=>exact beq_self_eq_true b
 | int i=>exact beq_self_eq_true i
 | str x _=>exact beq_self_eq_true x
theorem Zp.eqv {v:Val}(h:Zp v):(vf v).eqv (vf v)=true:=by
 cases h with
 | atom h=>
  have e:vf v=ye v:=by cases h<;>rfl
  rw[e];exact h.eqv
 | @tup vs h=>
  show PyData.eqvAll (vs.map ye) (vs.map ye)=true
  induction vs with
  | nil=>rfl
  | cons a l ih=>
   show (PyData.eqv (ye a) (ye a)&&PyData.eqvAll (l.map ye) (l.map ye))=true
   rw[(h a (.head _)).eqv,ih (zH h)];rfl
theorem zAq {α:Type}{f:α->α->Bool}:∀{l:List α},(∀a∈l,f a a=true)->eqL f l l=true:=λ{l}=>by
 induction l with
 | nil=>exact λ_=>rfl
 | cons a l ih=>
  intro h
  show (f a a&&eqL f l l)=true
  rw[h a (.head _),ih (zH h)];rfl
theorem zAp {p:PS}(h:Zp p.more):eqP p p=true:=by
 unfold eqP
 rw[Nat.beq_refl,beq_self_eq_true,beq_self_eq_true,h.eqv,zAq λa _=>by unfold zFH;rw[beq_self_eq_true,beq_self_eq_true];rfl];rfl
theorem zJK {p q:PS}(h:eqP p q=true):wt1 p=wt1 q:=by
 unfold eqP at h
 obtain⟨h1,h⟩:=Bool.and_eq_true_iff.mp h
 have h2:=eq_of_beq (Bool.and_eq_true_iff.mp h).1
 unfold wt1
 rw[Nat.eq_of_beq_eq_true h1,h2]
theorem zFI {α:Type}{f:α->α->Bool}{w:α->Nat}(h:∀a b,f a b=true->w a=w b):∀{l r:List α},eqL f l r=true->(l.map w).sum=(r.map w).sum:=λ{l}=>by
 induction l with
 | nil=>exact λ{r} q=>by cases r with
  | nil=>rfl
  | cons _ _=>cases q
 | cons a l ih=>exact λ{r} q=>by cases r with
  | nil=>cases q
  | cons b r=>
   obtain⟨h1,h2⟩:=Bool.and_eq_true_iff.mp (show (f a b&&eqL f l r)=true from q)
   rw[List.map_cons,List.map_cons,List.sum_cons,List.sum_cons,h a b h1,ih h2]
noncomputable def lstB (Bs:List PB):List (List PS):=Bs.map (·.steps)
theorem zDn (Bs:List PB):wtB Bs=((lstB Bs).map wtS).sum:=by unfold wtB lstB;rw[List.map_map];rfl
theorem zHM {Bs Bs':List PB}{f:Bool}(s:SwR Bs Bs' f)(hd:∀B∈Bs,∀p∈B.steps,DrW p):eqLs (lstB Bs') (lstB Bs)=!f:=by
 cases f with
 | false=>
  rw[s.same rfl]
  refine zAq λps hps=>zAq λp hp=>?_
  obtain⟨B,hB,rfl⟩:=List.mem_map.mp hps
  exact zAp (hd B hB p hp).dr.more
 | true=>
  refine Bool.eq_false_iff.mpr λq=>?_
  have:=s.lt rfl
  rw[zDn,zDn,zFI (w:=wtS) (λa b h=>zFI (w:=wt1) (λ_ _=>zJK) h) q] at this
  exact Nat.lt_irrefl _ this
noncomputable def u5 (w:PS):PS:=⟨3,-1,w.args,w.more,w.vol⟩
noncomputable def mtP (x w:PS):Bool:=(eqP w x||eqP (u5 w) x)&&Nat.beq x.op w.op
noncomputable def ja (left:List PS)(k:Nat)(w:PS):Nat:=(left[k]?).elim k λx=>if mtP x w then k+1 else k
noncomputable def zEi (left was:List PS):Bool:=Nat.beq (was.foldl (ja left) 0) left.length
inductive Emb:List PS->List PS->Prop
 | nil {ws:List PS}:Emb ws []
 | skip {w:PS} {ws ls:List PS} (t:Emb ws ls):Emb (w::ws) ls
 | take {w l:PS} {ws ls:List PS} (h:mtP l w=true) (t:Emb ws ls):Emb (w::ws) (l::ls)
theorem Emb.cut:∀{ws ls:List PS} {l:PS},Emb ws (l::ls)->Emb ws ls:=λ{ws}=>by
 induction ws with
 | nil=>exact λh=>nomatch h
 | cons w ws ih=>exact λh=>by cases h with
  | skip t=>exact .skip (ih t)
  | take _ t=>exact .skip t
theorem zJO {left:List PS}:∀{ws:List PS} {k:Nat},Emb ws (left.drop k)->k<=left.length->ws.foldl (ja left) k=left.length:=λ{ws}=>by
 induction ws with
 | nil=>
  intro k h hk
  generalize e:left.drop k=r at h
  cases h
  exact Nat.le_antisymm hk (List.drop_eq_nil_iff.mp e)
 | cons w ws ih=>
  intro k h hk
  rw[List.foldl_cons]
  unfold ja
  cases q:left[k]? with
  | none=>
   have e:=List.getElem?_eq_none_iff.mp q
   exact ih (k:=k) (by rw[List.drop_eq_nil_of_le e];exact .nil) hk
  | some x=>
   obtain⟨h1,h2⟩:=jT q
   rw[h2] at h
   show ws.foldl _ (if mtP x w=true then k+1 else k)=_
   by_cases c:mtP x w=true
   ·rw[if_pos c]
    refine ih ?_ h1
    cases h with
    | skip t=>exact t.cut
    | take _ t=>exact t
   ·rw[if_neg c]
    refine ih ?_ hk
    rw[h2]
    cases h with
    | skip t=>exact t
    | take c' _=>exact absurd c' c
theorem zG5 {p:PS}(h:DrS p)(e:p.op=3):p.vol=false:=by
 cases h with
 | two=>rfl
 | one=>rfl
 | call=>rfl
 | slot=>rfl
 | name=>rfl
 | load=>cases e
 | store=>cases e
 | move=>cases e
theorem Lss.emb {ws ls:List PS}(h:Lss ws ls):(∀p∈ws,DrW p)->Emb ws ls:=by
 induction h with
 | nil=>exact λ_=>.nil
 | drop _ _ ih=>exact λd=>.skip (ih (zH d))
 | @keep p ps qs _ ih=>
  refine λd=>.take ?_ (ih (zH d))
  unfold mtP
  rw[zAp (d p (.head _)).dr.more,Nat.beq_refl];rfl
 | @free p ps qs h _ _ ih=>
  refine λd=>.take ?_ (ih (zH d))
  have e:wI p=u5 p:=by unfold wI u5;rw[h,zG5 (d p (.head _)).dr h]
  unfold mtP
  rw[e,zAp (show Zp (u5 p).more from(d p (.head _)).dr.more),Bool.or_true,show Nat.beq (u5 p).op p.op=true by rw[h];rfl];rfl
theorem zHp {ws ls:List PS}(h:Lss ws ls)(d:∀p∈ws,DrW p):zEi ls ws=true:=by
 unfold zEi
 rw[zJO (h.emb d) (Nat.zero_le _)];exact Nat.beq_refl _
noncomputable def bndP (ps:List PS):Int:=ps.foldl (λk p=>if cntP p then k+1 else k) 0
theorem zG6 {a b:List PS}(h:Lss a b):∀k:Int,a.foldl (λk p=>if cntP p then k+1 else k) k=b.foldl (λk p=>if cntP p then k+1 else k) k:=by
 induction h with
 | nil=>exact λ_=>rfl
 | drop h _ ih=>exact λk=>by rw[List.foldl_cons,h];exact ih k
 | keep _ ih=>exact λk=>ih _
 | @free p ps qs h _ _ ih=>exact λk=>by rw[List.foldl_cons,List.foldl_cons,cnt3 h,cnt3 (p:=wI p) h];exact ih _
theorem zJ1 {a b:List PS}(h:Lss a b):bndP b=bndP a:=(zG6 h 0).symm
end
noncomputable section
noncomputable def twoL:List Nat:=[13,14,15,16,17,18,22,23,24,25,19,21]
noncomputable def zIl:List Nat:=[5,6,7,8]
noncomputable def oneL:List Nat:=[10,26,27,28,29,30,31]
noncomputable def zD0 (even:Bool)(a b:Int):Opd:=if even then(false,a) else(true,1+b)
noncomputable def zDc (x:Int):Bool:=decide (Int.fmod x 2=0)
noncomputable def u8 (rest:Int):Nat:=twoL.getD (Int.fmod rest 12).toNat 0
noncomputable def zAr (pick:Int):Opd:=zD0 (zDc pick) (Int.fmod (Int.fdiv pick 2) 512) (Int.fmod (Int.fdiv pick 2) 4)
noncomputable def zAJ (rest dst:Int)(one:Opd):PS:=
 if isSh (u8 rest) then⟨u8 rest,dst,[one,(false,Int.fmod (Int.fdiv rest 12) 32)],.int 0,false⟩ else⟨u8 rest,dst,[one,zAr (Int.fdiv rest 12)],.int 0,false⟩
noncomputable def zEW (rest:Int):Nat:=zIl.getD (Int.fmod rest 4).toNat 0
noncomputable def zCk (pick:Int):Opd:=zD0 (zDc pick) (Int.fmod (Int.fdiv pick 2) 3) (Int.fmod (Int.fdiv pick 2) 4)
noncomputable def zCj (rest dst:Int)(one:Opd):PS:=⟨zEW rest,dst,[one,zCk (Int.fdiv rest 4)],.int 0,false⟩
noncomputable abbrev ld (dst w:Int)(a:Opd)(sg v:Bool):PS:=⟨0,dst,[a],.tup [.int w,.bool sg],v⟩
noncomputable abbrev sto (w:Int)(a b:Opd)(v:Bool):PS:=⟨1,-1,[a,b],.int w,v⟩
noncomputable abbrev mov (a b:Opd)(v:Bool):PS:=⟨2,-1,[a,b],.tup [.int 4,.int 4],v⟩
noncomputable abbrev cpy (d:Int)(a:Opd):PS:=⟨10,d,[a],.int 0,false⟩
noncomputable def zDX (dst:Int)(one spot:Opd)(width way:Int):List PS:=
 if Int.fmod way 4=0 then[mov spot (true,7) (decide (Int.fmod (Int.fdiv way 4) 3=0))]
 else if Int.fmod way 4=1 then[mov (true,7) spot (decide (Int.fmod (Int.fdiv way 4) 3=0))]
 else if Int.fmod way 4=2 then[cpy 8 spot,ld dst width (true,8) true (decide (Int.fmod (Int.fdiv way 4) 3=0))]
 else[cpy 8 spot,sto width (true,8) one (decide (Int.fmod (Int.fdiv way 4) 3=0))]
noncomputable def wid (i:Int):Int:=[1,2,4].getD i.toNat 0
noncomputable def zEK (kind dst:Int)(one:Opd)(rest:Int)(spot:Opd)(width way:Int):List PS:=
 if kind<3 then[zAJ rest dst one]
 else if kind=3 then[zCj rest dst one]
 else if kind=4 then[⟨oneL.getD (Int.fmod rest 7).toNat 0,dst,[one],.int 0,false⟩]
 else if kind=5 then[ld dst width spot (decide (Int.fmod way 2=1)) (decide (Int.fmod way 3=0))]
 else if kind=6 then[sto width spot one (decide (Int.fmod way 3=2))]
 else if kind=7 then[⟨16,8,[one,(false,15)],.int 0,false⟩,⟨13,8,[(true,8),(true,7)],.int 0,false⟩,ld dst width (true,8) (decide (Int.fmod way 2=1)) (decide (Int.fmod way 5=4))]
 else if kind=8 then[sto width (true,7) one (decide (Int.fmod way 3=1))]
 else if kind=9 then[⟨3,dst,[if zDc way then spot else(true,7),one],.str "poke",false⟩]
 else if kind=10 then zDX dst one spot width way
 else if Int.fmod way 3=0 then[cpy dst (true,dst)]
 else if Int.fmod way 3=1 then[⟨11,dst,[(false,Int.fmod way 70000)],.int 0,false⟩]
 else[⟨9,6,[],.int (Int.fmod rest 2),false⟩]
noncomputable def zA7 (number:Int):List PS:=
 zEK (Int.fmod number 12) (1+Int.fmod (Int.fdiv number 12) 4) (true,1+Int.fmod (Int.fdiv number 48) 4) (Int.fdiv number 192) (true,5+Int.fmod (Int.fdiv number 192) 2) (wid (Int.fmod (Int.fdiv (Int.fdiv number 192) 2) 3)) (Int.fdiv (Int.fdiv number 192) 6)
theorem fm {x k:Int}(h:0<k):0<=Int.fmod x k/\Int.fmod x k<k:=⟨Int.fmod_nonneg_of_pos x h,Int.fmod_lt_of_pos x h⟩
noncomputable def Red (kn:Kn):Prop:=∀r e,lk kn r=some e->0<=e.1/\e.1<sz
structure CI (kn:Kn):Prop where
 red:Red kn
 nums:∀r,0<=r->r<5->(lk kn r).isSome=true
 ptr:∀r,r=5\/r=6->∃s,(s=0\/s=1)/\lk kn r=some (4096+16 * s,some s)
 obj:lk kn 7=some (8192,none)
theorem Red.set {kn:Kn}{d:Int}{e:Int×Option Int}(h:Red kn):Red (setK kn d e):=λr x q=>by
 rw[wN] at q
 by_cases c:0<=d/\r=d
 ·rw[if_pos c] at q
  rw[<-Option.some.inj q]
  exact fm (by decide)
 ·rw[if_neg c] at q;exact h r x q
theorem jC {kn:Kn}{r:Int}{e:Int×Option Int}(h:Red kn)(q:lk kn r=some e):argT kn (true,r)=some e:=by
 obtain⟨h0,h1⟩:=h r e q
 unfold argT
 rw[if_pos rfl,q]
 exact if_pos (Int.fmod_eq_of_lt h0 h1)
noncomputable def Gd1 (kn:Kn)(o:Opd):Prop:=∃e,argT kn o=some e
noncomputable def Adr (kn:Kn)(o:Opd):Prop:=∃e,argT kn o=some e/\u9 e=true
theorem Gd1.con {kn:Kn}{k:Int}:Gd1 kn (false,k):=⟨(k,none),rfl⟩
theorem CI.num {kn:Kn}(h:CI kn){r:Int}(h0:0<=r)(h1:r<5):Gd1 kn (true,r):=by
 obtain⟨e,q⟩:=Option.isSome_iff_exists.mp (h.nums r h0 h1)
 exact⟨e,jC h.red q⟩
theorem zC3 {s:Int}(h:s=0\/s=1):u9 (4096+16 * s,some s)=true:=by rcases h with rfl | rfl<;>rfl
theorem CI.adr {kn:Kn}(h:CI kn){r:Int}(q:r=5\/r=6):Adr kn (true,r):=by
 obtain⟨s,h1,h2⟩:=h.ptr r q
 exact⟨_,jC h.red h2,zC3 h1⟩
theorem CI.adr7 {kn:Kn}(h:CI kn):Adr kn (true,7):=⟨_,jC h.red h.obj,rfl⟩
theorem zFY {kn:Kn}{a:Opd}{x:Int×Option Int}(h:argT kn a=some x):wX kn [a]=some [x]:=by
 show (argT kn a).bind _=_
 rw[h];rfl
theorem zDl {kn:Kn}{a b:Opd}{x y:Int×Option Int}(h:argT kn a=some x)(k:argT kn b=some y):wX kn [a,b]=some [x,y]:=by
 show (argT kn a).bind (λv=>(wX kn [b]).map (v::·))=_
 rw[h,zFY k];rfl
theorem CI.keep {kn:Kn}(h:CI kn){d:Int}{e:Int×Option Int}(q:d<0\/(0<=d/\d<5)\/d=8):CI (setK kn d e):=by
 have ne:∀r,r=5\/r=6\/r=7->lk (setK kn d e) r=lk kn r:=λr hr=>by rw[wN,if_neg (by lia)]
 refine⟨h.red.set,λr h0 h1=>?_,λr hr=>?_,(ne 7 (.inr (.inr rfl))).trans h.obj⟩
 ·rw[wN]
  by_cases c:0<=d/\r=d
  ·rw[if_pos c];rfl
  ·rw[if_neg c];exact h.nums r h0 h1
 ·rw[ne r (hr.imp id .inl)];exact h.ptr r hr
theorem CI.slot {kn:Kn}(h:CI kn){s:Int}(hs:s=0\/s=1):CI (setK kn 6 (4096+16 * s,some s)):=by
 have e6:lk (setK kn 6 (4096+16 * s,some s)) 6=some (4096+16 * s,some s):=by
  rw[wN,if_pos (by decide)]
  rcases hs with rfl | rfl<;>rfl
 have ne:∀r,r≠6->lk (setK kn 6 (4096+16 * s,some s)) r=lk kn r:=λr hr=>by rw[wN,if_neg λc=>hr c.2]
 refine⟨h.red.set,λr h0 h1=>?_,λr hr=>?_,(ne 7 (by decide)).trans h.obj⟩
 ·rw[ne r (by lia)];exact h.nums r h0 h1
 ·rcases hr with rfl | rfl
  ·rw[ne 5 (by decide)];exact h.ptr 5 (.inl rfl)
  ·exact⟨s,hs,e6⟩
noncomputable def Zy (p:PS)(kn:Kn)(R:Kn->Prop):Prop:=∀mn:Me×Nt,∃o,zBA p (kn,mn)=some o/\∀s',o=some s'->R s'.1
noncomputable def Safe (ps:List PS)(P Q:Kn->Prop):Prop:=∀s:MSt,P s.1->∃b s',runS ps s=some (b,s')/\(b=true->Q s'.1)
theorem Safe.nil {P:Kn->Prop}:Safe [] P P:=λs h=>⟨true,s,rfl,λ_=>h⟩
theorem Safe.cons {p:PS}{ps:List PS}{P R Q:Kn->Prop}(h:∀kn,P kn->Zy p kn R)(k:Safe ps R Q):Safe (p::ps) P Q:=λs hs=>by
 obtain⟨o,h1,h2⟩:=h s.1 hs s.2
 rw[wx,show zBA p s=some o from h1]
 cases o with
 | none=>exact⟨false,s,rfl,λq=>nomatch q⟩
 | some s'=>exact k s' (h2 s' rfl)
theorem Safe.append {ps qs:List PS}{P R Q:Kn->Prop}(h:Safe ps P R)(k:Safe qs R Q):Safe (ps++qs) P Q:=λs hs=>by
 obtain⟨b,s',h1,h2⟩:=h s hs
 have e:runS (ps++qs) s=(runS ps s).bind λr=>if r.1 then runS qs r.2 else some r:=by
  clear h1 h2 h hs
  induction ps generalizing s with
  | nil=>rfl
  | cons p ps ih=>
   rw[List.cons_append,wx,wx]
   cases zBA p s with
   | none=>rfl
   | some o=>cases o with
    | none=>rfl
    | some s1=>exact ih s1
 rw[e,h1]
 cases b with
 | false=>exact⟨false,s',rfl,λq=>nomatch q⟩
 | true=>exact k s' (h2 rfl)
theorem j4 {p:PS}{kn:Kn}{R:Kn->Prop}{g:Gv}(hg:wX kn p.args=some g)(he:∀mem nt,∃o,effT p g mem nt=some o)(hR:∀e,R (setK kn p.dst e)):Zy p kn R:=λmn=>by
 obtain⟨o,ho⟩:=he mn.1 mn.2
 refine⟨_,zAO (s:=(kn,mn)) hg ho,λs' q=>?_⟩
 cases o with
 | none=>cases q
 | some r=>cases Option.some.inj q;exact hR r.1
theorem jr {p:PS}{kn:Kn}{R:Kn->Prop}{g:Gv}{e:Int×Option Int}(hg:wX kn p.args=some g)(he:∀mem nt,effT p g mem nt=some (some (e,mem,nt)))(hR:R (setK kn p.dst e)):Zy p kn R:=λmn=>
 ⟨_,zAO (s:=(kn,mn)) hg (he mn.1 mn.2),λs' q=>by cases Option.some.inj q;exact hR⟩
theorem zFZ {op:Nat}{g:Gv}{mem:Me}{nt:Nt}:∃o,arE op g mem nt=some o:=by
 unfold arE
 by_cases c:(wH op&&decide ((g1 g).1=0))=true
 ·rw[if_pos c];exact⟨_,rfl⟩
 ·rw[if_neg c];exact⟨_,rfl⟩
theorem zAu {c d:Bool}(hc:c=true){o:Eff}(h:∃x,o=some x):∃x,(if c=true then(if d=true then o else some none) else none)=some x:=by
 rw[if_pos hc]
 cases d with
 | true=>exact h
 | false=>exact⟨_,rfl⟩
section
variable {kn:Kn}{R:Kn->Prop}
theorem zFl {op:Nat}{d:Int}{a b:Opd}{m:Val}{v:Bool}(h:w6 op=true)(ha:Gd1 kn a)(hb:Gd1 kn b)(hR:∀e,R (setK kn d e)):Zy ⟨op,d,[a,b],m,v⟩ kn R:=by
 obtain⟨x,ha⟩:=ha
 obtain⟨y,hb⟩:=hb
 exact j4 (zDl ha hb) (λmem nt=>by rw[u3 (zCb h)];exact zFZ) hR
theorem zHO {op:Nat}{d:Int}{a:Opd}{m:Val}{v:Bool}(h:yd op=true)(ha:Gd1 kn a)(hR:∀e,R (setK kn d e)):Zy ⟨op,d,[a],m,v⟩ kn R:=by
 obtain⟨x,ha⟩:=ha
 exact j4 (zFY ha) (λmem nt=>by rw[u3 (uZ h).1];exact zFZ) hR
theorem s_ld {d w:Int}{a:Opd}{sg v:Bool}(ha:Adr kn a)(hR:∀e,R (setK kn d e)):Zy (ld d w a sg v) kn R:=by
 obtain⟨x,ha,hx⟩:=ha
 exact j4 (zFY ha) (λmem nt=>zAu hx ⟨_,rfl⟩) hR
theorem zHN {w:Int}{a b:Opd}{v:Bool}(ha:Adr kn a)(hb:Gd1 kn b)(hR:∀e,R (setK kn (-1) e)):Zy (sto w a b v) kn R:=by
 obtain⟨x,ha,hx⟩:=ha
 obtain⟨y,hb⟩:=hb
 exact j4 (zDl ha hb) (λmem nt=>zAu hx ⟨_,rfl⟩) hR
theorem zI9 {a b:Opd}{v:Bool}(ha:Adr kn a)(hb:Adr kn b)(hR:∀e,R (setK kn (-1) e)):Zy (mov a b v) kn R:=by
 obtain⟨x,ha,hx⟩:=ha
 obtain⟨y,hb,hy⟩:=hb
 exact j4 (zDl ha hb) (λmem nt=>zAu (Bool.and_eq_true_iff.mpr ⟨hx,hy⟩) ⟨_,rfl⟩) hR
theorem zGo {d:Int}{a b:Opd}{m:Val}{v:Bool}(ha:Adr kn a)(hb:Gd1 kn b)(hR:∀e,R (setK kn d e)):Zy ⟨3,d,[a,b],m,v⟩ kn R:=by
 obtain⟨x,ha,hx⟩:=ha
 obtain⟨y,hb⟩:=hb
 refine j4 (zDl ha hb) (λmem nt=>?_) hR
 show ∃o,vm m [x,y] mem nt=some o
 unfold vm
 rw[if_pos (show u9 (g0 [x,y])=true from hx)]
 exact⟨_,rfl⟩
end
end
noncomputable section
structure ChOK (ps:List PS):Prop where
 dr:∀p∈ps,DrW p
 safe:Safe ps CI CI
 wt:wtS ps<=3
noncomputable def OpR (o:Opd):Prop:=0<=o.2/\(o.1=true->o.2<9)/\o.2<sz
theorem jk {r:Int}(h0:0<=r)(h1:r<9):OpR (true,r):=⟨h0,λ_=>h1,Int.lt_trans h1 (by decide)⟩
theorem uM {k:Int}(h0:0<=k)(h1:k<sz):OpR (false,k):=⟨h0,λq=>(nomatch q),h1⟩
structure Prm (dst:Int)(one spot:Opd)(w:Int):Prop where
 d0:0<=dst
 d1:dst<5
 o:∃r,one=(true,r)/\0<=r/\r<5
 s:∃r,spot=(true,r)/\(r=5\/r=6)
 w:w=1\/w=2\/w=4
section
variable {dst w:Int}{one spot:Opd}
theorem Prm.oneR (h:Prm dst one spot w):OpR one:=by obtain⟨r,rfl,h0,h1⟩:=h.o;exact jk h0 (Int.lt_trans h1 (by decide))
theorem Prm.spotR (h:Prm dst one spot w):OpR spot:=by obtain⟨r,rfl,rfl | rfl⟩:=h.s<;>exact jk (by decide) (by decide)
theorem Prm.spot1 (h:Prm dst one spot w):spot.1=true:=by obtain⟨r,rfl,_⟩:=h.s;rfl
theorem Prm.oneG (h:Prm dst one spot w){kn:Kn}(c:CI kn):Gd1 kn one:=by obtain⟨r,rfl,h0,h1⟩:=h.o;exact c.num h0 h1
theorem Prm.spotA (h:Prm dst one spot w){kn:Kn}(c:CI kn):Adr kn spot:=by obtain⟨r,rfl,hr⟩:=h.s;exact c.adr hr
theorem Prm.set (h:Prm dst one spot w){kn:Kn}(c:CI kn){e:Int×Option Int}:CI (setK kn dst e):=c.keep (.inr (.inl ⟨h.d0,h.d1⟩))
theorem opR7:OpR (true,7):=jk (by decide) (by decide)
theorem opR8:OpR (true,8):=jk (by decide) (by decide)
theorem CI.no {kn:Kn}(c:CI kn){e:Int×Option Int}:CI (setK kn (-1) e):=c.keep (.inl (by decide))
theorem wt_1 {p:PS}:wtS [p]<=3:=by unfold wtS wt1;rw[List.map_singleton,List.sum_singleton];by_cases c:p.op=3/\0<=p.dst;(rw[if_pos c];decide);(rw[if_neg c];decide)
theorem all1 {P:PS->Prop}{p:PS}(h:P p):∀q∈[p],P q:=zB h zD
theorem ch1 {p:PS}(d:DrS p)(a:∀o∈p.args,OpR o)(s:∀kn,CI kn->Zy p kn CI):ChOK [p]:=⟨all1 ⟨d,a⟩,.cons s .nil,wt_1⟩
theorem vo {P:Opd->Prop}{a:Opd}(h:P a):∀o∈[a],P o:=zB h zD
theorem uR {P:Opd->Prop}{a b:Opd}(h:P a)(k:P b):∀o∈[a,b],P o:=zB h (zB k zD)
theorem jP {P:Nat->Bool}{l:List Nat}(h:l.all P=true){i:Int}(h0:0<=i)(h1:i<l.length):P (l.getD i.toNat 0)=true:=by
 have hi:i.toNat<l.length:=zDM h0 h1
 rw[List.getD_eq_getElem?_getD,List.getElem?_eq_getElem hi]
 exact List.all_eq_true.mp h _ (List.getElem_mem hi)
theorem zCl {c:Bool}{a b k:Int}(ha:0<=a/\a<k)(hk:k<=512)(hb:0<=b/\b<4):OpR (zD0 c a b)/\∀kn,CI kn->Gd1 kn (zD0 c a b):=by
 cases c with
 | true=>exact⟨uM ha.1 (Int.lt_of_lt_of_le ha.2 (Int.le_trans hk (by decide))),λkn _=>.con⟩
 | false=>
  have h1:=(up4 hb).1
  have h2:=(up4 hb).2
  exact⟨jk h1 (Int.lt_trans h2 (by decide)),λkn c=>c.num h1 h2⟩
theorem zJY (h:Prm dst one spot w)(rest:Int):ChOK [zAJ rest dst one]:=by
 have ht:w6 (u8 rest)=true:=jP (P:=w6) (by decide) (fm (k:=12) (by decide)).1 (fm (k:=12) (by decide)).2
 have h32:=fm (x:=Int.fdiv rest 12) (k:=32) (by decide)
 obtain⟨o1,o2⟩:=zCl (c:=zDc (Int.fdiv rest 12)) (fm (x:=Int.fdiv (Int.fdiv rest 12) 2) (k:=512) (by decide)) (by decide) (fm (x:=Int.fdiv (Int.fdiv rest 12) 2) (k:=4) (by decide))
 unfold zAJ
 by_cases c:isSh (u8 rest)=true
 ·rw[if_pos c]
  exact ch1 (.two ht λ_=>⟨rfl,h32.2⟩) (uR h.oneR (uM h32.1 (Int.lt_trans h32.2 (by decide)))) λkn ci=>zFl ht (h.oneG ci) .con λ_=>h.set ci
 ·rw[if_neg c]
  exact ch1 (.two ht λq=>absurd q c) (uR h.oneR o1) λkn ci=>zFl ht (h.oneG ci) (o2 kn ci) λ_=>h.set ci
theorem zJU (h:Prm dst one spot w)(rest:Int):ChOK [zCj rest dst one]:=by
 have ht:w6 (zEW rest)=true:=jP (P:=w6) (by decide) (fm (k:=4) (by decide)).1 (fm (k:=4) (by decide)).2
 have hn:(λk=>!isSh k) (zEW rest)=true:=jP (P:=λk=>!isSh k) (by decide) (fm (k:=4) (by decide)).1 (fm (k:=4) (by decide)).2
 obtain⟨o1,o2⟩:=zCl (c:=zDc (Int.fdiv rest 4)) (fm (x:=Int.fdiv (Int.fdiv rest 4) 2) (k:=3) (by decide)) (by decide) (fm (x:=Int.fdiv (Int.fdiv rest 4) 2) (k:=4) (by decide))
 exact ch1 (.two ht λq=>by rw[show isSh (zEW rest)=false from by rw[<-Bool.not_eq_true'];exact hn] at q;cases q) (uR h.oneR o1) λkn ci=>zFl ht (h.oneG ci) (o2 kn ci) λ_=>h.set ci
theorem zJV (h:Prm dst one spot w)(rest:Int):ChOK [⟨oneL.getD (Int.fmod rest 7).toNat 0,dst,[one],.int 0,false⟩]:=by
 have ht:yd (oneL.getD (Int.fmod rest 7).toNat 0)=true:=jP (P:=yd) (by decide) (fm (k:=7) (by decide)).1 (fm (k:=7) (by decide)).2
 exact ch1 (.one ht) (vo h.oneR) λkn ci=>zHO ht (h.oneG ci) λ_=>h.set ci
theorem zJy (h:Prm dst one spot w)(sg v:Bool):ChOK [ld dst w spot sg v]:=ch1 (.load h.w h.spot1) (vo h.spotR) λkn ci=>s_ld (h.spotA ci) λ_=>h.set ci
theorem zJT (h:Prm dst one spot w)(v:Bool):ChOK [sto w spot one v]:=ch1 (.store h.w h.spot1) (uR h.spotR h.oneR) λkn ci=>zHN (h.spotA ci) (h.oneG ci) λ_=>ci.no
theorem zIM (h:Prm dst one spot w)(v:Bool):ChOK [sto w (true,7) one v]:=ch1 (.store h.w rfl) (uR opR7 h.oneR) λkn ci=>zHN ci.adr7 (h.oneG ci) λ_=>ci.no
theorem zIQ (h:Prm dst one spot w)(c:Bool):ChOK [⟨3,dst,[if c then spot else(true,7),one],.str "poke",false⟩]:=by
 cases c with
 | true=>exact ch1 (.call h.spot1) (uR h.spotR h.oneR) λkn ci=>zGo (h.spotA ci) (h.oneG ci) λ_=>h.set ci
 | false=>exact ch1 (.call rfl) (uR opR7 h.oneR) λkn ci=>zGo ci.adr7 (h.oneG ci) λ_=>h.set ci
theorem zIC:(0:Int)<=8:=by decide
noncomputable def C8 (kn:Kn):Prop:=CI kn/\Adr kn (true,8)
theorem zIa (h:Prm dst one spot w){kn:Kn}(c:CI kn):Zy (cpy 8 spot) kn C8:=by
 obtain⟨r,rfl,hr⟩:=h.s
 obtain⟨s,h1,h2⟩:=c.ptr r hr
 refine jr (e:=(4096+16 * s,some s)) (zFY (jC c.red h2)) (λ_ _=>rfl) ⟨c.keep (.inr (.inr rfl)),⟨_,jC c.red.set (wN.trans (if_pos ⟨zIC,rfl⟩)),?_⟩⟩
 rcases h1 with rfl | rfl<;>rfl
theorem zJQ (h:Prm dst one spot w):DrW (cpy 8 spot):=⟨.one rfl,vo h.spotR⟩
theorem wt_2 {p q:PS}(h:p.op≠3):wtS [p,q]<=3:=by
 have:wt1 p=1:=if_neg λc=>h c.1
 rw[wm,this]
 unfold wtS wt1
 rw[List.map_singleton,List.sum_singleton]
 by_cases c:q.op=3/\0<=q.dst
 ·rw[if_pos c];decide
 ·rw[if_neg c];decide
theorem zG3 (h:Prm dst one spot w)(way:Int):ChOK (zDX dst one spot w way):=by
 unfold zDX
 by_cases c:Int.fmod way 4=0
 ·rw[if_pos c]
  exact ch1 (.move h.spot1 rfl) (uR h.spotR opR7) λkn ci=>zI9 (h.spotA ci) ci.adr7 λ_=>ci.no
 rw[if_neg c]
 by_cases c:Int.fmod way 4=1
 ·rw[if_pos c]
  exact ch1 (.move rfl h.spot1) (uR opR7 h.spotR) λkn ci=>zI9 ci.adr7 (h.spotA ci) λ_=>ci.no
 rw[if_neg c]
 by_cases c:Int.fmod way 4=2
 ·rw[if_pos c]
  exact⟨zB (zJQ h) (all1 ⟨.load h.w rfl,vo opR8⟩),.cons (λkn ci=>zIa h ci) (.cons (λkn c=>s_ld c.2 λ_=>h.set c.1) .nil),wt_2 (show (10:Nat)≠3 by decide)⟩
 ·rw[if_neg c]
  exact⟨zB (zJQ h) (all1 ⟨.store h.w rfl,uR opR8 h.oneR⟩),.cons (λkn ci=>zIa h ci) (.cons (λkn c=>zHN c.2 (h.oneG c.1) λ_=>c.1.no) .nil),wt_2 (show (10:Nat)≠3 by decide)⟩
noncomputable def C15 (kn:Kn):Prop:=CI kn/\∃v,0<=v/\v<=15/\lk kn 8=some (v,none)
theorem zKB {a:Int}(h:0<=a):0<=Builtin.bitAnd a 15/\Builtin.bitAnd a 15<=15:=by
 have e:Builtin.bitAnd a 15=((a.toNat &&& (15:Int).toNat:Nat):Int):=by
  unfold Builtin.bitAnd
  rw[decide_eq_true h,decide_eq_true (show (0:Int)<=15 by decide)]
 rw[e]
 exact⟨Int.natCast_nonneg _,Int.ofNat_le.mpr (Nat.and_le_right (n:=a.toNat) (m:=15))⟩
theorem zBJ {v:Int}(h0:0<=v)(h1:v<=8207):Int.fmod v sz=v:=Int.fmod_eq_of_lt h0 (Int.lt_of_le_of_lt h1 (by decide))
theorem zJf (h:Prm dst one spot w){kn:Kn}(c:CI kn):Zy ⟨16,8,[one,(false,15)],.int 0,false⟩ kn C15:=by
 obtain⟨r,rfl,h0,h1⟩:=h.o
 obtain⟨e,q⟩:=Option.isSome_iff_exists.mp (c.nums r h0 h1)
 obtain⟨v0,v1⟩:=zKB (c.red r e q).1
 refine jr (e:=(Builtin.bitAnd e.1 15,none)) (zDl (jC c.red q) (y:=(15,none)) rfl) (λ_ _=>rfl) ⟨c.keep (.inr (.inr rfl)),⟨_,v0,v1,wN.trans ((if_pos ⟨zIC,rfl⟩).trans ?_)⟩⟩
 rw[zBJ v0 (Int.le_trans v1 (by decide))]
theorem zJg {kn:Kn}(c:C15 kn):Zy ⟨13,8,[(true,8),(true,7)],.int 0,false⟩ kn C8:=by
 obtain⟨ci,v,v0,v1,hv⟩:=c
 have w0:8192<=v+8192:=Int.le_add_of_nonneg_left v0
 have w1:v+8192<=8207:=Int.add_le_add_right v1 8192
 refine jr (e:=(v+8192,none)) (zDl (jC ci.red hv) (jC ci.red ci.obj)) (λ_ _=>rfl) ⟨ci.keep (.inr (.inr rfl)),⟨_,jC ci.red.set (wN.trans (if_pos ⟨zIC,rfl⟩)),?_⟩⟩
 show (decide (8192<=Int.fmod (v+8192) sz)&&decide (Int.fmod (v+8192) sz<=8207))=true
 rw[zBJ (Int.le_trans (by decide) w0) w1,decide_eq_true w0,decide_eq_true w1];rfl
theorem zJW (h:Prm dst one spot w)(sg v:Bool):ChOK [⟨16,8,[one,(false,15)],.int 0,false⟩,⟨13,8,[(true,8),(true,7)],.int 0,false⟩,ld dst w (true,8) sg v]:=
 ⟨zB ⟨.two rfl (λq=>nomatch q),uR h.oneR (uM (by decide) (by decide))⟩ (zB ⟨.two rfl (λq=>nomatch q),uR opR8 opR7⟩ (all1 ⟨.load h.w rfl,vo opR8⟩)),
  .cons (λkn ci=>zJf h ci) (.cons (λkn c=>zJg c) (.cons (λkn c=>s_ld c.2 λ_=>h.set c.1) .nil)),Nat.le_of_eq rfl⟩
theorem zIO (h:Prm dst one spot w):ChOK [cpy dst (true,dst)]:=ch1 (.one rfl) (vo (jk h.d0 (Int.lt_trans h.d1 (by decide)))) λkn ci=>zHO rfl (ci.num h.d0 h.d1) λ_=>h.set ci
theorem zJX (h:Prm dst one spot w){k:Int}(h0:0<=k)(h1:k<sz):ChOK [⟨11,dst,[(false,k)],.int 0,false⟩]:=ch1 (.one rfl) (vo (uM h0 h1)) λkn ci=>zHO rfl .con λ_=>h.set ci
theorem zIN {k:Int}(h:k=0\/k=1):ChOK [⟨9,6,[],.int k,false⟩]:=ch1 (.slot h) zD λkn ci=>jr (g:=[]) rfl (λ_ _=>rfl) (ci.slot h)
theorem zIP (h:Prm dst one spot w)(kind rest way:Int):ChOK (zEK kind dst one rest spot w way):=by
 unfold zEK
 by_cases c:kind<3
 ·rw[if_pos c];exact zJY h rest
 rw[if_neg c];clear c
 by_cases c:kind=3
 ·rw[if_pos c];exact zJU h rest
 rw[if_neg c];clear c
 by_cases c:kind=4
 ·rw[if_pos c];exact zJV h rest
 rw[if_neg c];clear c
 by_cases c:kind=5
 ·rw[if_pos c];exact zJy h _ _
 rw[if_neg c];clear c
 by_cases c:kind=6
 ·rw[if_pos c];exact zJT h _
 rw[if_neg c];clear c
 by_cases c:kind=7
 ·rw[if_pos c];exact zJW h _ _
 rw[if_neg c];clear c
 by_cases c:kind=8
 ·rw[if_pos c];exact zIM h _
 rw[if_neg c];clear c
 by_cases c:kind=9
 ·rw[if_pos c];exact zIQ h _
 rw[if_neg c];clear c
 by_cases c:kind=10
 ·rw[if_pos c];exact zG3 h way
 rw[if_neg c];clear c
 by_cases c:Int.fmod way 3=0
 ·rw[if_pos c];exact zIO h
 rw[if_neg c];clear c
 by_cases c:Int.fmod way 3=1
 ·rw[if_pos c];exact zJX h (fm (k:=70000) (by decide)).1 (Int.lt_trans (fm (k:=70000) (by decide)).2 (by decide))
 ·rw[if_neg c]
  have:=fm (x:=rest) (k:=2) (by decide)
  exact zIN (zHH this)
end
theorem zFm (number:Int):Prm (1+Int.fmod (Int.fdiv number 12) 4) (true,1+Int.fmod (Int.fdiv number 48) 4) (true,5+Int.fmod (Int.fdiv number 192) 2) (wid (Int.fmod (Int.fdiv (Int.fdiv number 192) 2) 3)):=by
 have h1:=fm (x:=Int.fdiv number 12) (k:=4) (by decide)
 have h2:=fm (x:=Int.fdiv number 48) (k:=4) (by decide)
 have h3:=fm (x:=Int.fdiv number 192) (k:=2) (by decide)
 have h4:=fm (x:=Int.fdiv (Int.fdiv number 192) 2) (k:=3) (by decide)
 refine⟨(up4 h1).1,(up4 h1).2,⟨_,rfl,(up4 h2).1,(up4 h2).2⟩,⟨_,rfl,(zHH h3).imp (λe=>by rw[e];rfl) λe=>by rw[e];rfl⟩,?_⟩
 generalize Int.fmod (Int.fdiv (Int.fdiv number 192) 2) 3=i at h4
 rcases zJ8 h4 with rfl | rfl | rfl<;>decide
theorem zDG (number:Int):ChOK (zA7 number):=zIP (zFm number) _ _ _
end
noncomputable section
noncomputable abbrev cstR (d k:Int):PS:=⟨11,d,[(false,k)],.int 0,false⟩
noncomputable def jS (n0 n1 n2 n3:Int):List PS:=[cstR 0 5,⟨9,5,[],.int 0,false⟩,⟨9,6,[],.int 1,false⟩,⟨12,7,[],.tup [.str "g",.int 0],false⟩,cstR 1 n0,cstR 2 n1,cstR 3 n2,cstR 4 n3]
noncomputable def shrP:PS:=⟨20,0,[(true,0),(false,1)],.int 0,false⟩
noncomputable def vP:Nat->List Int->List (List PS)->List (List PS)
 | _,[],ps=>ps
 | i,n::r,ps=>vP (i+1) r (ps.set (1+i % 3) (ps.getD (1+i % 3) []++zA7 n))
noncomputable def regP (n:Int):Opd:=(true,1+Int.fmod n 4)
noncomputable def jN (ns:List Int):List (List PS):=vP 0 (ns.drop 6) [jS (ns.getD 0 0) (ns.getD 1 0) (ns.getD 2 0) (ns.getD 3 0),[],[shrP],[]]
noncomputable def midW (way:Int):List Int:=if Int.fmod way 3=2 then[2,3,2] else if Int.fmod way 3=1 then[2,3] else[2]
noncomputable def midF (way:Int)(l:Addr):PS:=if Int.fmod way 3=2 then⟨34,-1,[regP (Int.fdiv way 3)],.tup [.int (Int.fmod (Int.fdiv way 12) 3),.ref l,.int 2],false⟩ else if Int.fmod way 3=1 then⟨33,-1,[regP (Int.fdiv way 3)],.tup [.int 2,.int 3],false⟩ else⟨32,-1,[],.int 2,false⟩
noncomputable def zAm (way last:Int)(l:Addr):List PS:=[⟨32,-1,[],.int 1,false⟩,midF way l,⟨33,-1,[(true,0)],.tup [.int 1,.int 3],false⟩,⟨35,-1,[regP last],.int 0,false⟩]
noncomputable def zipB:List (List PS)->List PS->List (List Int)->List PB
 | s::ss,f::fs,w::ws=>⟨s,f,w⟩::zipB ss fs ws
 | _,_,_=>[]
noncomputable def jb (ns:List Int)(l:Addr):List PB:=zipB (jN ns) (zAm (ns.getD 4 0) (ns.getD 5 0) l) (cfg (midW (ns.getD 4 0)))
structure PtOK (ps:List PS):Prop where
 dr:∀p∈ps,DrW p
 safe:Safe ps CI CI
inductive Pts (e:List PS)(N:Nat):List (List PS)->Prop
 | mk (a b c:List PS) (ha:PtOK a) (hb:PtOK b) (hc:PtOK c) (hw:wtS a+wtS b+wtS c<=N):Pts e N [e,a,b,c]
theorem zF2 {α:Type}{P:α->Prop}{l r:List α}(h:∀x∈l,P x)(k:∀x∈r,P x):∀x∈l++r,P x:=λx q=>(List.mem_append.mp q).elim (h x) (k x)
theorem zBg (l r:List PS):wtS (l++r)=wtS l+wtS r:=by unfold wtS;rw[List.map_append,List.sum_append]
theorem PtOK.app {ps qs:List PS}(h:PtOK ps)(k:ChOK qs):PtOK (ps++qs):=⟨zF2 h.dr k.dr,h.safe.append k.safe⟩
theorem zIf {e:List PS}:∀{ns:List Int} {i N:Nat} {ps:List (List PS)},Pts e N ps->Pts e (N+3 * ns.length) (vP i ns ps):=λ{ns}=>by
 induction ns with
 | nil=>exact λh=>h
 | cons n r ih=>
  intro i N ps h
  have e3:N+3 * (n::r).length=N+3+3 * r.length:=by rw[List.length_cons,Nat.mul_succ,Nat.add_comm (3 * r.length),Nat.add_assoc]
  rw[e3]
  refine ih ?_
  obtain⟨a,b,c,ha,hb,hc,hw⟩:=h
  have k:=zDG n
  have kw:=k.wt
  rcases lt3 (i % 3) (Nat.mod_lt i (by decide)) with q | q | q<;>rw[q]
  ·exact .mk (a++zA7 n) b c (ha.app k) hb hc (by rw[zBg,Nat.add_right_comm (wtS a),Nat.add_right_comm (wtS a+wtS b)];exact Nat.add_le_add hw kw)
  ·exact .mk a (b++zA7 n) c ha (hb.app k) hc (by rw[zBg,<-Nat.add_assoc,Nat.add_right_comm (wtS a+wtS b)];exact Nat.add_le_add hw kw)
  ·exact .mk a b (c++zA7 n) ha hb (hc.app k) (by rw[zBg,<-Nat.add_assoc];exact Nat.add_le_add hw kw)
theorem zI6:PtOK [shrP]:=⟨all1 ⟨.two rfl λ_=>⟨rfl,by decide⟩,uR (jk (by decide) (by decide)) (uM (by decide) (by decide))⟩,.cons (λkn ci=>zFl rfl (ci.num (by decide) (by decide)) .con λ_=>ci.keep (.inr (.inl ⟨by decide,by decide⟩))) .nil⟩
noncomputable def okN (n:Int):Prop:=0<=n/\n<sz
theorem zJN {n0 n1 n2 n3:Int}(h0:okN n0)(h1:okN n1)(h2:okN n2)(h3:okN n3):∀p∈jS n0 n1 n2 n3,DrW p:=by
 have c:∀{d k:Int},okN k->DrW (cstR d k):=λh=>⟨.one rfl,vo (uM h.1 h.2)⟩
 exact zB (c ⟨by decide,by decide⟩) (zB ⟨.slot (.inl rfl),zD⟩ (zB ⟨.slot (.inr rfl),zD⟩ (zB ⟨.name,zD⟩ (zB (c h0) (zB (c h1) (zB (c h2) (zB (c h3) zD)))))))
theorem uh {p:PS}{ps:List PS}{kn:Kn}{e:Int×Option Int}{g:Gv}{Q:Kn->Prop}(hg:wX kn p.args=some g)(he:∀mem nt,effT p g mem nt=some (some (e,mem,nt)))(k:Safe ps (·=setK kn p.dst e) Q):Safe (p::ps) (·=kn) Q:=.cons (λk2 h=>by rw[show k2=kn from h];exact jr hg he rfl) k
theorem vO {d v:Int}{ps:List PS}{kn:Kn}{Q:Kn->Prop}(k:Safe ps (·=setK kn d (v,none)) Q):Safe (cstR d v::ps) (·=kn) Q:=uh (g:=[(v,none)]) rfl (λ_ _=>rfl) k
theorem Safe.done {P Q:Kn->Prop}(h:∀kn,P kn->Q kn):Safe [] P Q:=λs hs=>⟨true,s,rfl,λ_=>h _ hs⟩
theorem zGX {n0 n1 n2 n3:Int}:Safe (jS n0 n1 n2 n3) (·=[]) CI:=by
 refine vO (uh (g:=[]) (e:=(4096,some 0)) rfl (λ_ _=>rfl) (uh (g:=[]) (e:=(4112,some 1)) rfl (λ_ _=>rfl) (uh (g:=[]) (e:=(8192,none)) rfl (λ_ _=>rfl) (vO (vO (vO (vO (.done λkn h=>?_))))))))
 subst h
 refine⟨.set (.set (.set (.set (.set (.set (.set (.set λr e q=>nomatch q))))))),λr h0 h1=>?_,λr hr=>?_,rfl⟩
 ·rcases(by lia:r=0\/r=1\/r=2\/r=3\/r=4) with rfl | rfl | rfl | rfl | rfl<;>rfl
 ·rcases hr with rfl | rfl
  ·exact⟨0,.inl rfl,rfl⟩
  ·exact⟨1,.inr rfl,rfl⟩
structure BkOK (P:Kn->Prop)(B:PB):Prop where
 safe:Safe B.steps P CI
 fin:∀kn,CI kn->∃v,endV B.fin kn=some v
 way:B.fin.op=35\/∀v,∃j,B.ways[wayI B.fin B.ways v]?=some j/\(j=1\/j=2\/j=3)
theorem zDI {P:Kn->Prop}{B:PB}{Bs:List PB}{k:Nat}{i:Int}(hB:Bs[i.toNat]?=some B)(h:BkOK P B)(ih:∀j,j=1\/j=2\/j=3->∀s:MSt,CI s.1->∃o,runG Bs k j s=some o){s:MSt}(hs:P s.1):∃o,runG Bs (k+1) i s=some o:=by
 rw[jt,hB]
 show ∃o,(runS B.steps s).bind _=some o
 obtain⟨b,s',h1,h2⟩:=h.safe s hs
 rw[h1]
 cases b with
 | false=>exact⟨_,rfl⟩
 | true=>
  have ci:=h2 rfl
  obtain⟨v,hv⟩:=h.fin _ ci
  show ∃o,(endV B.fin s'.1).bind _=some o
  rw[hv]
  show ∃o,(if B.fin.op=35 then _ else _)=some o
  by_cases q:B.fin.op=35
  ·rw[if_pos q];exact⟨_,rfl⟩
  ·rw[if_neg q]
   obtain⟨j,e,hj⟩:=h.way.resolve_left q v
   rw[e]
   exact ih j hj s' ci
theorem zIS {B0 B1 B2 B3:PB}(h0:BkOK (·=[]) B0)(h1:BkOK CI B1)(h2:BkOK CI B2)(h3:BkOK CI B3):∃o,runG [B0,B1,B2,B3] 20 0 s00=some o:=by
 have key:∀k:Nat,∀j:Int,j=1\/j=2\/j=3->∀s:MSt,CI s.1->∃o,runG [B0,B1,B2,B3] k j s=some o:=λk=>by
  induction k with
  | zero=>exact λ_ _ _ _=>⟨_,rfl⟩
  | succ k ih=>
   intro j hj s hs
   rcases hj with rfl | rfl | rfl
   ·exact zDI (i:=1) rfl h1 ih hs
   ·exact zDI (i:=2) rfl h2 ih hs
   ·exact zDI (i:=3) rfl h3 ih hs
 exact zDI (i:=0) rfl h0 (key 19) rfl
theorem zCD {kn:Kn}(ci:CI kn)(n:Int):Gd1 kn (regP n):=by
 have:=fm (x:=n) (k:=4) (by decide)
 exact ci.num (up4 this).1 (up4 this).2
theorem fin1 {kn:Kn}{op:Nat}{d:Int}{a:Opd}{m:Val}{v:Bool}(h:Gd1 kn a):∃w,endV ⟨op,d,[a],m,v⟩ kn=some w:=by
 obtain⟨e,h⟩:=h
 unfold endV
 by_cases c:op=32
 ·rw[if_pos c];exact⟨_,rfl⟩
 ·rw[if_neg c,zFY h];exact⟨_,rfl⟩
theorem zHk (way:Int):Mid (midW way):=by
 unfold midW
 by_cases c:Int.fmod way 3=2
 ·rw[if_pos c];exact .inr (.inr rfl)
 ·rw[if_neg c]
  by_cases c:Int.fmod way 3=1
  ·rw[if_pos c];exact .inr (.inl rfl)
  ·rw[if_neg c];exact .inl rfl
theorem way3 {i:Nat}(h:i<3):∃j:Int,[2,3,2][i]?=some j/\(j=1\/j=2\/j=3):=by
 rcases lt3 i h with rfl | rfl | rfl
 ·exact⟨2,rfl,.inr (.inl rfl)⟩
 ·exact⟨3,rfl,.inr (.inr rfl)⟩
 ·exact⟨2,rfl,.inr (.inl rfl)⟩
theorem zFV {i j:Int}{a:List Opd}{d:Int}{m:Val}{v:Bool}(hi:i=1\/i=2\/i=3)(hj:j=1\/j=2\/j=3):∀w,∃x,[i,j][wayI ⟨33,d,a,m,v⟩ [i,j] w]?=some x/\(x=1\/x=2\/x=3):=λw=>by
 have e:wayI ⟨33,d,a,m,v⟩ [i,j] w=if w=0 then 1 else 0:=rfl
 rw[e]
 by_cases c:w=0
 ·rw[if_pos c];exact⟨j,rfl,hj⟩
 ·rw[if_neg c];exact⟨i,rfl,hi⟩
theorem zHI {k:Int}{a:List Opd}{l:Addr}(w:Int):∃x:Int,[2,3,2][wayI ⟨34,-1,a,.tup [.int k,.ref l,.int 2],false⟩ [2,3,2] w]?=some x/\(x=1\/x=2\/x=3):=by
 refine way3 ?_
 have e:wayI ⟨34,-1,a,.tup [.int k,.ref l,.int 2],false⟩ [2,3,2] w=if Int.fmod (w - k) sz<2 then(Int.fmod (w - k) sz).toNat else 2:=rfl
 rw[e]
 by_cases c:Int.fmod (w - k) sz<2
 ·rw[if_pos c];exact(Int.toNat_lt' (by decide)).mpr (Int.lt_trans c (by decide))
 ·rw[if_neg c];decide
theorem zIw {ps:List PS}(h:PtOK ps)(way:Int)(l:Addr):BkOK CI ⟨ps,midF way l,midW way⟩:=by
 unfold midF midW
 by_cases c:Int.fmod way 3=2
 ·rw[if_pos c,if_pos c];exact⟨h.safe,λkn ci=>fin1 (zCD ci _),.inr zHI⟩
 ·rw[if_neg c,if_neg c]
  by_cases c:Int.fmod way 3=1
  ·rw[if_pos c,if_pos c];exact⟨h.safe,λkn ci=>fin1 (zCD ci _),.inr (zFV (.inr (.inl rfl)) (.inr (.inr rfl)))⟩
  ·rw[if_neg c,if_neg c];exact⟨h.safe,λkn ci=>⟨_,rfl⟩,.inr λ_=>⟨2,rfl,.inr (.inl rfl)⟩⟩
end
noncomputable section
theorem zJn {o:Opd}(h:OpR o)(q:o.1=true):0<=o.2/\o.2<32:=⟨h.1,Int.lt_trans (h.2.1 q) (by decide)⟩
theorem L18:(1:Nat)<=8:=by decide
theorem L28:(2:Nat)<=8:=by decide
theorem zIH {p:PS}(h:DrW p):Zn p:=by
 obtain⟨h,a⟩:=h
 have r:=λo ho=>zJn (a o ho)
 cases h with
 | @two op d x y h1 _=>
  have ne:∀k,w6 k=false->op≠k:=λk hk e=>by rw[e,hk] at h1;cases h1
  exact⟨λ_=>Nat.le_refl 2,λe=>absurd e (ne 0 rfl),λe=>absurd e (ne 10 rfl),λe=>absurd e (ne 1 rfl),L28,r⟩
 | @one op d x h1=>
  have ne:∀k,yd k=false->op≠k:=λk hk e=>by rw[e,hk] at h1;cases h1
  exact⟨(λe=>by rw[show wH op=false from(uZ h1).2] at e;cases e),λe=>absurd e (ne 0 rfl),λ_=>Nat.le_refl 1,λe=>absurd e (ne 1 rfl),L18,r⟩
 | load=>exact⟨λe=>noB e,λ_=>⟨Nat.le_refl 1,_,_,rfl⟩,λe=>noN e rfl,λe=>noN e rfl,L18,r⟩
 | store=>exact⟨λe=>noB e,λe=>noN e rfl,λe=>noN e rfl,λ_=>⟨Nat.le_succ 1,_,rfl⟩,L28,r⟩
 | move=>exact⟨λe=>noB e,λe=>noN e rfl,λe=>noN e rfl,λe=>noN e rfl,L28,r⟩
 | call=>exact⟨λe=>noB e,λe=>noN e rfl,λe=>noN e rfl,λe=>noN e rfl,L28,r⟩
 | slot=>exact⟨λe=>noB e,λe=>noN e rfl,λe=>noN e rfl,λe=>noN e rfl,Nat.zero_le 8,r⟩
 | name=>exact⟨λe=>noB e,λe=>noN e rfl,λe=>noN e rfl,λe=>noN e rfl,Nat.zero_le 8,r⟩
structure NsOK (ns:List Int):Prop where
 lo:10<=ns.length
 hi:ns.length<=16
 ok:∀n∈ns,okN n
theorem NsOK.get {ns:List Int}(h:NsOK ns)(i:Nat):okN (ns.getD i 0):=by
 rw[List.getD_eq_getElem?_getD]
 cases q:ns[i]? with
 | none=>exact⟨by decide,by decide⟩
 | some n=>exact h.ok n (List.mem_of_getElem? q)
theorem zBR {ns:List Int}(h:NsOK ns):Pts (jS (ns.getD 0 0) (ns.getD 1 0) (ns.getD 2 0) (ns.getD 3 0)) 31 (jN ns):=by
 have k:=zIf (e:=jS (ns.getD 0 0) (ns.getD 1 0) (ns.getD 2 0) (ns.getD 3 0)) (ns:=ns.drop 6) (i:=0) (N:=1) (.mk [] [shrP] [] ⟨zD,.nil⟩ zI6 ⟨zD,.nil⟩ (Nat.le_refl 1))
 have hl:1+3 * (ns.drop 6).length<=31:=by rw[List.length_drop];exact Nat.add_le_add_left (Nat.mul_le_mul_left 3 (Nat.sub_le_sub_right h.hi 6)) 1
 show Pts _ 31 (vP 0 (ns.drop 6) _)
 generalize vP 0 (ns.drop 6) _=r at k
 obtain⟨a,b,c,ha,hb,hc,hw⟩:=k
 exact .mk a b c ha hb hc (Nat.le_trans hw hl)
theorem zCE (n:Int):∀o∈[regP n],o.1=true->0<=o.2/\o.2<9:=by
 have:=fm (x:=n) (k:=4) (by decide)
 exact vo λ_=>⟨(up4 this).1,Int.lt_trans (up4 this).2 (by decide)⟩
structure Yj (f:PS)(w:List Int):Prop where
 args:∀o∈f.args,o.1=true->0<=o.2/\o.2<9
 ways:w.length<=4/\∀j∈w,0<=j/\j.toNat<4
theorem zHl (way:Int)(l:Addr):Yj (midF way l) (midW way):=by
 unfold midF midW
 by_cases c:Int.fmod way 3=2
 ·rw[if_pos c,if_pos c];exact⟨zCE _,by decide,by decide⟩
 ·rw[if_neg c,if_neg c]
  by_cases c:Int.fmod way 3=1
  ·rw[if_pos c,if_pos c];exact⟨zCE _,by decide,by decide⟩
  ·rw[if_neg c,if_neg c];exact⟨zD,by decide,by decide⟩
theorem zDH {ps:List PS}{f:PS}{w:List Int}(h:∀p∈ps,DrW p)(hw:wtS ps<=900)(k:Yj f w):BOK 4 ⟨ps,f,w⟩:=by
 have key:∀ps:List PS,ps.length<=wtS ps:=λps=>by
  induction ps with
  | nil=>exact Nat.le_refl _
  | cons p ps ih=>rw[wm,List.length_cons,Nat.add_comm];exact Nat.add_le_add (uk p) ih
 exact⟨Nat.le_trans (key ps) hw,λp hp=>zIH (h p hp),λo ho q=>⟨(k.args o ho q).1,Int.lt_trans (k.args o ho q).2 (by decide)⟩,k.ways.1,k.ways.2⟩
theorem zJM {n0 n1 n2 n3:Int}:wtS (jS n0 n1 n2 n3)=8:=rfl
structure Y2 (ns:List Int)(l:Addr):Prop where
 gd:Gd (midW (ns.getD 4 0)) (jb ns l)
 run:∃o,runG (jb ns l) 20 0 s00=some o
 wt:wtB (jb ns l)<=39
theorem zG0 {way last:Int}{l:Addr}{e:List PS}{pp:List (List PS)}(hp:Pts e 31 pp)(he:∀p∈e,DrW p)(hs:Safe e (·=[]) CI)(hw:wtS e=8):Gd (midW way) (zipB pp (zAm way last l) (cfg (midW way)))/\(∃o,runG (zipB pp (zAm way last l) (cfg (midW way))) 20 0 s00=some o)/\wtB (zipB pp (zAm way last l) (cfg (midW way)))<=39:=by
 obtain⟨a,b,c,ha,hb,hc,hab⟩:=hp
 have ew:wtB (zipB [e,a,b,c] (zAm way last l) (cfg (midW way)))=wtS e+(wtS a+(wtS b+(wtS c+0))):=rfl
 have w39:wtS e+(wtS a+(wtS b+(wtS c+0)))<=39:=by rw[hw,Nat.add_zero,<-Nat.add_assoc (wtS a)];exact Nat.add_le_add_left hab 8
 have wc:wtS c<=900:=Nat.le_trans (Nat.le_trans (Nat.le_add_left _ _) hab) (by decide)
 have wab:wtS a+wtS b<=900:=Nat.le_trans (Nat.le_trans (Nat.le_add_right _ _) hab) (by decide)
 have f0:Yj ⟨32,-1,[],.int 1,false⟩ [1]:=⟨zD,by decide,by decide⟩
 have f2:Yj ⟨33,-1,[(true,0)],.tup [.int 1,.int 3],false⟩ [1,3]:=⟨vo λ_=>⟨by decide,by decide⟩,by decide,by decide⟩
 have f3:Yj ⟨35,-1,[regP last],.int 0,false⟩ []:=⟨zCE _,by decide,by decide⟩
 have f1:=zHl way l
 have nb:∀{x y:Int},(0<=x/\x<9)->x.toNat<9:=λh=>zDM h.1 h.2
 have ends:∀{f:PS} {w:List Int},Yj f w->∀o∈f.args,o.1=true->o.2.toNat<9:=λh o ho q=>nb (y:=0) (h.args o ho q)
 refine⟨⟨rfl,zB he (zB ha.dr (zB hb.dr (zB hc.dr zD))),zB (ends f0) (zB (ends f1) (zB (ends f2) (zB (ends f3) zD))),⟨(by decide:0<4),(by decide:4<=16),?_⟩,by rw[ew];exact Nat.le_trans w39 (by decide)⟩,?_,by rw[ew];exact w39⟩
 ·exact zB (zDH he (by rw[hw];decide) f0) (zB (zDH ha.dr (Nat.le_trans (Nat.le_add_right _ _) wab) f1) (zB (zDH hb.dr (Nat.le_trans (Nat.le_add_left _ _) wab) f2) (zB (zDH hc.dr wc f3) zD)))
 ·exact zIS ⟨hs,λ_ _=>⟨_,rfl⟩,.inr λ_=>⟨1,rfl,.inl rfl⟩⟩ (zIw ha way l) ⟨hb.safe,λkn ci=>fin1 (ci.num (by decide) (by decide)),.inr (zFV (.inl rfl) (.inr (.inr rfl)))⟩ ⟨hc.safe,λkn ci=>fin1 (zCD ci last),.inl rfl⟩
theorem zGZ {ns:List Int}(h:NsOK ns)(l:Addr):Y2 ns l:=by
 obtain⟨h1,h2,h3⟩:=zG0 (way:=ns.getD 4 0) (last:=ns.getD 5 0) (l:=l) (zBR h) (zJN (h.get 0) (h.get 1) (h.get 2) (h.get 3)) zGX zJM
 exact⟨h1,h2,h3⟩
end
noncomputable section
variable {X:Cx}{n:Nat}{G:Gh}{sc:Scope}{os os' os'':List (Option Val)}{m:M}{v w:Val}
inductive RowN (G0 G:Gh)(p:PS)(v:Val):Prop where
 | mk (la:Addr) (e:v=.tup [.str (opS p.op),.int p.dst,.ref la,p.more,.bool p.vol]) (h:G la=some (.list (p.args.map opdV))) (ho:p.op<36) (hn:G0 la=none)
inductive Z2 (G0 G:Gh):List PS->List Val->Prop
 | nil:Z2 G0 G [] []
 | cons {p:PS} {ps:List PS} {v:Val} {vs:List Val} (h:RowN G0 G p v) (t:Z2 G0 G ps vs):Z2 G0 G (p::ps) (v::vs)
inductive Yh (G0 G:Gh)(ps:List PS)(a:Addr):Prop where
 | mk (vs:List Val) (e:G a=some (.list vs)) (h:Z2 G0 G ps vs)
theorem RowN.ext {G0 G G':Gh}{p:PS}{v:Val}(h:RowN G0 G p v)(x:Ext G G'):RowN G0 G' p v:=by obtain⟨la,e,h,ho,hn⟩:=h;exact⟨la,e,x _ _ h,ho,hn⟩
theorem Z2.ext {G0 G G' G1:Gh}{ps:List PS}{vs:List Val}(h:Z2 G1 G ps vs)(y:Ext G0 G1)(x:Ext G G'):Z2 G0 G' ps vs:=by
 induction h with
 | nil=>exact .nil
 | cons h _ ih=>obtain⟨la,e,h,ho,hn⟩:=h;exact .cons ⟨la,e,x _ _ h,ho,y.none hn⟩ ih
theorem Z2.length {G0 G:Gh}{ps:List PS}{vs:List Val}(h:Z2 G0 G ps vs):vs.length=ps.length:=by
 induction h with
 | nil=>rfl
 | cons _ _ ih=>exact congrArg (· + 1) ih
noncomputable def RowE (X:Cx)(n:Nat)(sc:Scope)(e:Expr)(m:M)(G0:Gh)(p:PS):Prop:=∀(G:Gh) (Q:QE),Ext G0 G->(∀v G',Ext G G'->RowN G G' p v->Q v G')->Sn X n sc e m G Q
noncomputable def Z3 (X:Cx)(n:Nat)(sc:Scope)(es:List Expr)(m:M)(G0:Gh)(ps:List PS):Prop:=∀(G:Gh) (Q:List Val->Gh->Prop),Ext G0 G->(∀vs G',Ext G G'->Z2 G G' ps vs->Q vs G')->SnEs X n sc es m G Q
noncomputable def Z8 (X:Cx)(n:Nat)(sc:Scope)(e:Expr)(m:M)(G0:Gh)(ps:List PS):Prop:=∀(G:Gh) (Q:QE),Ext G0 G->(∀a G',Ext G G'->Yh G G' ps a->Q (.ref a) G')->Sn X n sc e m G Q
noncomputable def NS (e:Expr):Prop:=∀es env,starEach (e::es) env=(false,eval e env)::starEach es env
section
variable {G0:Gh}{p:PS}{ps qs:List PS}{e:Expr}{es:List Expr}
theorem RowE.rowX {e1 e2 e4 e5:Expr}{k:Nat}{lp pos:Pos}{s:Str}{vs:List Val}(h1:∀G,Ext G0 G->Rd X n sc e1 m G (.str s))(h2:∀G,Ext G0 G->Rd X n sc e2 m G (.int p.dst))(h3:∀G,Ext G0 G->Rds X n sc es m G vs)(h4:∀G,Ext G0 G->Rd X n sc e4 m G p.more)(h5:∀G,Ext G0 G->Rd X n sc e5 m G (.bool p.vol))
  (q1:s=opS p.op) (q3:vs=p.args.map opdV) (hl:Nat.ble vs.length 1000=true) (ho:Nat.blt p.op 36=true:=by rfl) (n1:NS e1:=by intro _ _;rfl) (n2:NS e2:=by intro _ _;rfl) (n4:NS e4:=by intro _ _;rfl) (n5:NS e5:=by intro _ _;rfl):RowE X n sc (.Tuple [e1,e2,.List es lp,e4,e5] k pos) m G0 p:=λG Q x0 kk=>
 Sn.tup (SnEs.cons ((h1 G x0).to (SnEs.cons ((h2 G x0).to (SnEs.cons (Sn.listN (h3 G x0) (λla G' hla x l1=>SnEs.cons ((h4 G' (x0.trans x)).to (SnEs.cons ((h5 G' (x0.trans x)).to (SnEs.nil ⟨by show 5<cap;decide,kk _ _ x ⟨la,by rw[q1],by rw[l1,q3],Nat.le_of_ble_eq_true ho,hla⟩⟩)) (n5 _))) (n4 _)) hl) (λ_=>rfl))) (n2 _))) (n1 _))
theorem RowE.row {e1 e2 e4 e5:Expr}{k:Nat}{lp pos:Pos}{s:Str}{vs:List Val}(h1:∀G,Rd X n sc e1 m G (.str s))(h2:∀G,Rd X n sc e2 m G (.int p.dst))(h3:∀G,Rds X n sc es m G vs)(h4:∀G,Rd X n sc e4 m G p.more)(h5:∀G,Rd X n sc e5 m G (.bool p.vol))
  (q1:s=opS p.op) (q3:vs=p.args.map opdV) (hl:Nat.ble vs.length 1000=true) (ho:Nat.blt p.op 36=true:=by rfl) (n1:NS e1:=by intro _ _;rfl) (n2:NS e2:=by intro _ _;rfl) (n4:NS e4:=by intro _ _;rfl) (n5:NS e5:=by intro _ _;rfl):RowE X n sc (.Tuple [e1,e2,.List es lp,e4,e5] k pos) m G0 p:=
 .rowX (λG _=>h1 G) (λG _=>h2 G) (λG _=>h3 G) (λG _=>h4 G) (λG _=>h5 G) q1 q3 hl ho n1 n2 n4 n5
theorem Z3.nil:Z3 X n sc [] m G0 []:=λG Q _ kk=>SnEs.nil (kk _ _ .refl .nil)
theorem Z3.cons (h:RowE X n sc e m G0 p)(k:Z3 X n sc es m G0 ps)(hn:NS e:=by intro _ _;rfl):Z3 X n sc (e::es) m G0 (p::ps):=λG Q x0 kk=>
 SnEs.cons (h G _ x0 λv G1 x1 r1=>k G1 _ (x0.trans x1) λvs G2 x2 r2=>kk _ _ (x1.trans x2) (.cons (r1.ext x2) (r2.ext x1 .refl))) (hn _)
theorem Z8.list {pos:Pos}(h:Z3 X n sc es m G0 ps)(hl:Nat.ble ps.length 1000=true:=by rfl):Z8 X n sc (.List es pos) m G0 ps:=λG Q x0 kk=>
 Sn.listE (h G _ x0 λvs G1 x1 r1=>⟨by rw[r1.length];exact hl,λa G2 ha x2 e2=>kk a G2 (x1.trans x2) ⟨vs,e2,r1.ext .refl x2⟩⟩)
end
theorem RowE.go {p:PS}{e:Expr}{Q:QE}(h:RowE X n sc e m G p)(kk:∀v G',Ext G G'->RowN G G' p v->Q v G'):Sn X n sc e m G Q:=h G Q .refl kk
theorem Z8.go {ps:List PS}{e:Expr}{Q:QE}(h:Z8 X n sc e m G ps)(kk:∀a G',Ext G G'->Yh G G' ps a->Q (.ref a) G'):Sn X n sc e m G Q:=h G Q .refl kk
noncomputable def RetL (X:Cx)(n:Nat)(sc:Scope)(sts:List Stmt)(m:M)(G:Gh)(ps:List PS):Prop:=∀Q:QE,(∀a G',Ext G G'->Yh G G' ps a->Q (.ref a) G')->SnB X n sc sts m G (Back Q)
noncomputable def RetI (X:Cx)(n:Nat)(sc:Scope)(sts:List Stmt)(m:M)(G:Gh)(v:Val):Prop:=∀Q:QE,Q v G->SnB X n sc sts m G (Back Q)
section
variable {sts:List Stmt}{t e:Expr}{p1 p2:Pos}{c:Prop} [Decidable c] {ps qs:List PS}
theorem RetL.use {Q:QE}(h:RetL X n sc sts m G ps)(k:∀a G',Ext G G'->Yh G G' ps a->Q (.ref a) G'):SnB X n sc sts m G (Back Q):=h Q k
theorem RetL.ret (h:Z8 X n sc e m G ps):RetL X n sc (.Return (some e) p1::sts) m G ps:=λQ k=>.retB (h.go k)
theorem RetL.ifs (h:RdT X n sc t m G (decide c))(ha:Z8 X n sc e m G ps)(hb:RetL X n sc sts m G qs):RetL X n sc (.If t [.Return (some e) p1] [] p2::sts) m G (if c then ps else qs):=λQ k=>
 .ifs h (λq=>by rw[if_pos (of_decide_eq_true q)] at k;exact .retT (ha.go k)) λq=>by rw[if_neg (of_decide_eq_false q)] at k;exact .nilT (hb Q k)
theorem RetI.ret (h:Rd X n sc e m G v):RetI X n sc (.Return (some e) p1::sts) m G v:=λQ k=>.retB (h.to k)
theorem RetI.ifs (h:RdT X n sc t m G (decide c))(ha:Rd X n sc e m G v)(hb:RetI X n sc sts m G w):RetI X n sc (.If t [.Return (some e) p1] [] p2::sts) m G (if c then v else w):=λQ k=>
 .ifs h (λq=>by rw[if_pos (of_decide_eq_true q)] at k;exact .retT (ha.to k)) λq=>by rw[if_neg (of_decide_eq_false q)] at k;exact .nilT (hb Q k)
end
theorem SnB.assign2S {Q:QS}{e:Expr}{x y:Str}{k:Nat}{p1 p2 p pos:Pos}{sts:List Stmt}(h:Rd X n sc e (L sc os) G (.tup [v,w]))(u1:Upd false sc.names os y w os')(u2:Upd false sc.names os' x v os'')(kk:SnB X n sc sts (L sc os'') G Q)
  (hw:swappedStores [.Tuple [.Name x p1,.Name y p2] k p] e (zDd sc)=pure (some [x,y]):=by rfl) (hsw:∀env,swapsWithSole [.Tuple [.Name x p1,.Name y p2] k p] e pos.line env=pure false:=by intro _;rfl):SnB X n sc (.Assign [.Tuple [.Name x p1,.Name y p2] k p] e pos::sts) (L sc os) G Q:=
 .cons (.assignSw [x,y] (h.to ⟨_,_,rfl,.cons u1.put (.cons u2.put .nil),.next kk⟩) hw hsw)
theorem zA1 {i k:Int}(h:0<=i/\i<k)(hk:k<=1000):i.natAbs<cap:=zp h.1 (Nat.lt_of_lt_of_le (zDM (k:=1000) h.1 (Int.lt_of_lt_of_le h.2 hk)) (by decide))
theorem zBx {l:List Nat}{f:Nat->Val}{i:Int}(h:0<=i/\i<l.length):wW (l.map f) i=some (f (l.getD i.toNat 0)):=by
 have hi:i.toNat<l.length:=by omega
 have e:=zV (f:=f) (List.getElem?_eq_getElem hi)
 rw[Int.toNat_of_nonneg h.1] at e
 rw[e,List.getD_eq_getElem?_getD,List.getElem?_eq_getElem hi];rfl
theorem ug {k:Nat}(h:w6 k=true):Nat.blt k 36=true:=Nat.ble_eq_true_of_le (Nat.lt_trans (uU h) (by decide))
theorem zCY (rest:Int):w6 (u8 rest)=true:=jP (P:=w6) (by decide) (fm (k:=12) (by decide)).1 (fm (k:=12) (by decide)).2
theorem zH2 (rest:Int):w6 (zEW rest)=true:=jP (P:=w6) (by decide) (fm (k:=4) (by decide)).1 (fm (k:=4) (by decide)).2
theorem zI0:twoL.all (λk=>([PyData.str "shl",.str "sar"].any λe=>e.eqv (.str (opS k))) == isSh k)=true:=by decide +kernel
theorem zJR (rest:Int):([PyData.str "shl",.str "sar"].any λe=>e.eqv (.str (opS (u8 rest))))=isSh (u8 rest):=eq_of_beq (jP (P:=λk=>([PyData.str "shl",.str "sar"].any λe=>e.eqv (.str (opS k))) == isSh k) zI0 (fm (k:=12) (by decide)).1 (fm (k:=12) (by decide)).2)
theorem Rd.modK {e:Expr}{k x:Int}{kd:Nat}{p pos:Pos}(h:Rd X n sc e m G (.int x))(hk:k≠0:=by decide):Rd X n sc (.BinOp e .Mod (.Constant (.int k) kd p) pos) m G (.int (Int.fmod x k)):=.bin h .int (.mod hk ⟨rfl,rfl⟩)
theorem Rd.divK {e:Expr}{k x:Int}{kd:Nat}{p pos:Pos}(h:Rd X n sc e m G (.int x))(hk:k≠0:=by decide)(hb:k.natAbs<8589934592:=by decide):Rd X n sc (.BinOp e .FloorDiv (.Constant (.int k) kd p) pos) m G (.int (Int.fdiv x k)):=.bin h .int (.fdiv hk hb ⟨rfl,rfl⟩)
theorem RdT.eqK {e:Expr}{k x:Int}{kd:Nat}{p pos:Pos}(h:Rd X n sc e m G (.int x)):RdT X n sc (.Compare e [.Eq] [.Constant (.int k) kd p] pos) m G (decide (x=k)):=.cmp h .int (.eqI ⟨rfl,rfl⟩)
theorem Rd.eqK {e:Expr}{k x:Int}{kd:Nat}{p pos:Pos}(h:Rd X n sc e m G (.int x)):Rd X n sc (.Compare e [.Eq] [.Constant (.int k) kd p] pos) m G (.bool (decide (x=k))):=.cmp h .int (.eqI ⟨rfl,rfl⟩)
theorem Rd.pick {t e1 e2:Expr}{k1 k2:Nat}{kd:Nat}{p1 p2 p3 p4 p5 p6 pos:Pos}{c:Bool}{a b:Int}(h:RdT X n sc t m G c)(h1:Rd X n sc e1 m G (.int a))(h2:Rd X n sc e2 m G (.int b))(n1:NS e1:=by intro _ _;rfl)(n2:NS (.BinOp (.Constant (.int 1) kd p3) .Add e2 p4):=by intro _ _;rfl) :
  Rd X n sc (.IfExp t (.Tuple [.Constant (.str "k") k1 p1,e1] k2 p2) (.Tuple [.Constant (.str "r") k1 p5,.BinOp (.Constant (.int 1) kd p3) .Add e2 p4] k2 p6) pos) m G (opdV (zD0 c a b)):=by
 have q:opdV (zD0 c a b)=if c then .tup [.str "k",.int a] else .tup [.str "r",.int (1+b)]:=by cases c<;>rfl
 rw[q]
 exact Rd.ite h (λ_=>.tup (.cons .str (.cons h1 .nil (n1 _)) (λ_=>rfl))) λ_=>.tup (.cons .str (.cons (.bin .int h2 (.add ⟨rfl,rfl⟩)) .nil (n2 _)) (λ_=>rfl))
theorem uw {rest d:Int}{one:Opd}{Q:QE}(T:Tops X)(kk:∀v G',Ext G G'->RowN G G' (zAJ rest d one) v->Q v G'):Cal X (n+1) zg [.int rest,.int d,opdV one] G Q:=by
 refine' Cal.start (os:=?os) T.d_law_counting ?q ?b;case q=>walk_at"r"
 case b=>
 refine SnB.assign (v:=.str (opS (u8 rest))) (.idxT (.glob T.g_law_TWO (by walk_at"r")) (.modK (by walk_at"r")) (zA1 (fm (k:=12) (by decide)) (by decide)) (zBx (l:=twoL) (f:=λk=>.str (opS k)) (fm (k:=12) (by decide)))) (by walk_at"r") ?_
 refine SnB.assign (v:=.int (Int.fdiv rest 12)) (.divK (by walk_at"r")) (by walk_at"r") ?_
 refine SnB.ifs (r:=isSh (u8 rest)) (.cmp (w:=.tup [.str "shl",.str "sar"]) (by walk_at"r") (by walk_at"r") (.inD (.str (zCK _ (Nat.le_of_ble_eq_true (ug (zCY rest))))) (.inl (.tup' (.cons (.str (by decide +kernel)) (.cons (.str (by decide +kernel)) .nil)))) ⟨by rw[zJR],rfl⟩)) (λe=>?_) λe=>.nilT ?_
 ·have er:zAJ rest d one=⟨u8 rest,d,[one,(false,Int.fmod (Int.fdiv rest 12) 32)],.int 0,false⟩:=if_pos e
  rw[er] at kk
  refine SnB.retT (RowE.go ?_ kk)
  exact RowE.row (λ_=>by walk_at"r") (λ_=>by walk_at"r") (λ_=>.cons (by walk_at"r") (.cons (.tup (.cons .str (.cons (.modK (by walk_at"r")) .nil))) .nil)) (λ_=>by walk_at"r") (λ_=>by walk_at"r") rfl rfl rfl (ug (zCY rest))
 ·have er:zAJ rest d one=⟨u8 rest,d,[one,zAr (Int.fdiv rest 12)],.int 0,false⟩:=if_neg (by rw[e];decide)
  rw[er] at kk
  refine SnB.assign (v:=opdV (zAr (Int.fdiv rest 12))) (.pick (.eqK (.modK (by walk_at"r"))) (.modK (.divK (by walk_at"r"))) (.modK (.divK (by walk_at"r")))) (by walk_at"r") ?_
  refine SnB.retB (RowE.go ?_ kk)
  exact RowE.row (λ_=>by walk_at"r") (λ_=>by walk_at"r") (λ_=>.cons (by walk_at"r") (.cons (by walk_at"r") .nil)) (λ_=>by walk_at"r") (λ_=>by walk_at"r") rfl rfl rfl (ug (zCY rest))
end
noncomputable section
end
set_option hygiene false in
local macro_rules | `(tactic| walk_at "d") => `(tactic|
 ((first | apply Z3.nil | apply LsE.nil | apply PartsE.nil | apply Z3.cons | apply LsE.cons | apply PartsE.cons | apply PartE.mk | apply RowE.row | apply EndE.end_ | apply Z8.list | apply RowE.var | apply Z8.var | apply EndE.var | apply Z8.add)<;>first | rfl | (intro _;walk_at"r") | (intro _ _;rfl) | walk_at"d" | assumption | walk_at"r" | exact Nat.le_of_ble_eq_true rfl | (simp only [List.length_append,List.length_cons,List.length_nil];omega)))
noncomputable section
variable {X:Cx}{n:Nat}{G:Gh}{sc:Scope}{os os' os'':List (Option Val)}{m:M}{v w:Val}
theorem v6 {rest d:Int}{one:Opd}{Q:QE}(T:Tops X)(kk:∀v G',Ext G G'->RowN G G' (zCj rest d one) v->Q v G'):Cal X (n+1) wA [.int rest,.int d,opdV one] G Q:=by
 refine' Cal.start (os:=?os) T.d_law_parting ?q ?b;case q=>walk_at"r"
 case b=>
 refine SnB.assign (v:=.int (Int.fdiv rest 4)) (.divK (by walk_at"r")) (by walk_at"r") ?_
 refine SnB.assign (v:=opdV (zCk (Int.fdiv rest 4))) (.pick (.eqK (.modK (by walk_at"r"))) (.modK (.divK (by walk_at"r"))) (.modK (.divK (by walk_at"r")))) (by walk_at"r") ?_
 unfold zCj at kk
 refine SnB.retB (RowE.go ?_ kk)
 exact RowE.row (λ_=>.idxT (.glob T.g_law_OVER (by walk_at"r")) (.modK (by walk_at"r")) (zA1 (fm (k:=4) (by decide)) (by decide)) (zBx (l:=zIl) (f:=λk=>.str (opS k)) (fm (k:=4) (by decide)))) (λ_=>by walk_at"r") (λ_=>.cons (by walk_at"r") (.cons (by walk_at"r") .nil)) (λ_=>by walk_at"r") (λ_=>by walk_at"r") rfl rfl rfl (ug (zH2 rest))
theorem zBG {d w way:Int}{one spot:Opd}{Q:QE}(T:Tops X)(kk:∀a G',Ext G G'->Yh G G' (zDX d one spot w way) a->Q (.ref a) G'):Cal X (n+1) wg [.int d,opdV one,opdV spot,.int w,.int way] G Q:=by
 refine' Cal.start (os:=?os) T.d_law_roads ?q ?b;case q=>walk_at"r"
 case b=>
 refine SnB.assign (v:=.bool (decide (Int.fmod (Int.fdiv way 4) 3=0))) (.eqK (.modK (.divK (by walk_at"r")))) (by walk_at"r") ?_
 refine RetL.use (ps:=zDX d one spot w way) ?_ kk
 unfold zDX
 generalize decide (Int.fmod (Int.fdiv way 4) 3=0)=f
 refine .ifs (.eqK (.modK (by walk_at"r"))) (by walk_at"d") (.ifs (.eqK (.modK (by walk_at"r"))) (by walk_at"d") (.ifs (.eqK (.modK (by walk_at"r"))) (by walk_at"d") (.ret (by walk_at"d"))))
end
noncomputable section
variable {X:Cx}{n:Nat}{G:Gh}{sc:Scope}{os os' os'':List (Option Val)}{m:M}{v w:Val}
theorem zIY {i:Int}(h:0<=i/\i<3):wW [Val.int 1,.int 2,.int 4] i=some (.int (wid i)):=by
 rcases(by lia:i=0\/i=1\/i=2) with rfl | rfl | rfl<;>rfl
theorem zGB {c:Bool}{a b:Opd}:opdV (if c then a else b)=if c then opdV a else opdV b:=by cases c<;>rfl
section
variable {number kind d rest width way:Int}{one spot:Opd}{Q:QS}
theorem zIq {k:Nat}(h:yd k=true):Nat.blt k 36=true:=Nat.ble_eq_true_of_le (Nat.lt_trans (zAA h) (by decide))
theorem zIp {i:Int}(h:0<=i/\i<7):wW (oneL.map λk=>Val.str (opS k)) i=some (.str (opS (oneL.getD i.toNat 0))):=zBx h
theorem zIo (rest:Int):yd (oneL.getD (Int.fmod rest 7).toNat 0)=true:=jP (P:=yd) (by decide) (fm (k:=7) (by decide)).1 (fm (k:=7) (by decide)).2
end
theorem zBl {number:Int}{Q:QE}(T:Tops X)(kk:∀a G',Ext G G'->Yh G G' (zA7 number) a->Q (.ref a) G'):Cal X (n+2) yI [.int number] G Q:=by
 refine' Cal.start (os:=?os) T.d_law_rows ?q ?b;case q=>walk_at"r"
 case b=>
 refine SnB.assign (v:=.int (Int.fmod number 12)) (.modK (by walk_at"r")) (by walk_at"r") ?_
 refine SnB.assign (v:=.int (1+Int.fmod (Int.fdiv number 12) 4)) (.bin .int (.modK (.divK (by walk_at"r"))) (.add ⟨rfl,rfl⟩)) (by walk_at"r") ?_
 refine SnB.assign (v:=opdV (true,1+Int.fmod (Int.fdiv number 48) 4)) (.tup (.cons .str (.cons (.bin .int (.modK (.divK (by walk_at"r"))) (.add ⟨rfl,rfl⟩)) .nil))) (by walk_at"r") ?_
 refine SnB.assign (v:=.int (Int.fdiv number 192)) (.divK (by walk_at"r")) (by walk_at"r") ?_
 refine SnB.assign (v:=opdV (true,5+Int.fmod (Int.fdiv number 192) 2)) (.tup (.cons .str (.cons (.bin .int (.modK (by walk_at"r")) (.add ⟨rfl,rfl⟩)) .nil))) (by walk_at"r") ?_
 refine SnB.assign (v:=.int (wid (Int.fmod (Int.fdiv (Int.fdiv number 192) 2) 3))) (.idxT (.tup (by walk_at"r")) (.modK (.divK (by walk_at"r"))) (zA1 (fm (k:=3) (by decide)) (by decide)) (zIY (fm (k:=3) (by decide)))) (by walk_at"r") ?_
 refine SnB.assign (v:=.int (Int.fdiv (Int.fdiv number 192) 6)) (.divK (by walk_at"r")) (by walk_at"r") ?_
 unfold zA7 at kk
 generalize Int.fmod number 12=kind at kk ⊢
 generalize 1+Int.fmod (Int.fdiv number 12) 4=d at kk ⊢
 generalize ((true,1+Int.fmod (Int.fdiv number 48) 4):Opd)=one at kk ⊢
 generalize wid (Int.fmod (Int.fdiv (Int.fdiv number 192) 2) 3)=width at kk ⊢
 generalize ((true,5+Int.fmod (Int.fdiv number 192) 2):Opd)=spot at kk ⊢
 generalize Int.fdiv (Int.fdiv number 192) 6=way at kk ⊢
 generalize Int.fdiv number 192=rest at kk ⊢
 refine RetL.use (ps:=zEK kind d one rest spot width way) ?_ kk
 unfold zEK
 clear kk
 refine .ifs (.cmp (by walk_at"r") .int (.lt ⟨rfl,rfl⟩)) (.list (.cons (λG' Q' x k=>Sn.ref T.f_law_counting (by walk_at"r") (λ_ _=>rfl) (vs:=[.int rest,.int d,opdV one]) (by walk_at"r") (uw T k)) .nil)) ?_
 refine .ifs (.eqK (by walk_at"r")) (.list (.cons (λG' Q' x k=>Sn.ref T.f_law_parting (by walk_at"r") (λ_ _=>rfl) (vs:=[.int rest,.int d,opdV one]) (by walk_at"r") (v6 T k)) .nil)) ?_
 refine .ifs (.eqK (by walk_at"r")) (.list (.cons (.row (λ_=>.idxT (.glob T.g_law_ONE (by walk_at"r")) (.modK (by walk_at"r")) (zA1 (fm (k:=7) (by decide)) (by decide)) (zIp (fm (k:=7) (by decide)))) (λ_=>by walk_at"r") (λ_=>.cons (by walk_at"r") .nil) (λ_=>by walk_at"r") (λ_=>by walk_at"r") rfl rfl rfl (zIq (zIo rest))) .nil)) ?_
 refine .ifs (.eqK (by walk_at"r")) (.list (.cons (.row (λ_=>.str) (λ_=>by walk_at"r") (λ_=>.cons (by walk_at"r") .nil) (λ_=>.tup (.cons (by walk_at"r") (.cons (.eqK (.modK (by walk_at"r"))) .nil))) (λ_=>.eqK (.modK (by walk_at"r"))) rfl rfl rfl) .nil)) ?_
 refine .ifs (.eqK (by walk_at"r")) (.list (.cons (.row (λ_=>.str) (λ_=>by walk_at"r") (λ_=>.cons (by walk_at"r") (.cons (by walk_at"r") .nil)) (λ_=>by walk_at"r") (λ_=>.eqK (.modK (by walk_at"r"))) rfl rfl rfl) .nil)) ?_
 refine .ifs (.eqK (by walk_at"r")) (.list (.cons (by walk_at"d") (.cons (by walk_at"d") (.cons (.row (vs:=[opdV (true,8)]) (λ_=>.str) (λ_=>by walk_at"r") (λ_=>by walk_at"r") (λ_=>.tup (.cons (by walk_at"r") (.cons (.eqK (.modK (by walk_at"r"))) .nil))) (λ_=>.eqK (.modK (by walk_at"r"))) rfl rfl rfl) .nil)))) ?_
 refine .ifs (.eqK (by walk_at"r")) (.list (.cons (.row (vs:=[opdV (true,7),opdV one]) (λ_=>.str) (λ_=>by walk_at"r") (λ_=>by walk_at"r") (λ_=>by walk_at"r") (λ_=>.eqK (.modK (by walk_at"r"))) rfl rfl rfl) .nil)) ?_
 refine .ifs (.eqK (by walk_at"r")) (.list (.cons (.row (vs:=[opdV (if zDc way then spot else(true,7)),opdV one]) (λ_=>.str) (λ_=>by walk_at"r") (λ_=>.cons (zGB▸.ite (.eqK (.modK (by walk_at"r"))) (λ_=>by walk_at"r") λ_=>by walk_at"r") (.cons (by walk_at"r") .nil)) (λ_=>by walk_at"r") (λ_=>by walk_at"r") rfl rfl rfl) .nil)) ?_
 refine .ifs (.eqK (by walk_at"r")) (λG' Q' x k=>Sn.ref T.f_law_roads (by walk_at"r") (λ_ _=>rfl) (vs:=[.int d,opdV one,opdV spot,.int width,.int way]) (by walk_at"r") (zBG T k)) ?_
 refine .ifs (.eqK (.modK (by walk_at"r"))) (by walk_at"d") ?_
 refine .ifs (.eqK (.modK (by walk_at"r"))) (.list (.cons (.row (λ_=>.str) (λ_=>by walk_at"r") (λ_=>.cons (.tup (.cons .str (.cons (.modK (by walk_at"r")) .nil))) .nil) (λ_=>by walk_at"r") (λ_=>by walk_at"r") rfl rfl rfl) .nil)) ?_
 exact .ret (.list (.cons (.row (vs:=[]) (λ_=>.str) (λ_=>by walk_at"r") (λ_=>by walk_at"r") (λ_=>.modK (by walk_at"r")) (λ_=>by walk_at"r") rfl rfl rfl) .nil))
end
noncomputable section
variable {X:Cx}{n:Nat}{G:Gh}{sc:Scope}{os os' os'':List (Option Val)}{m:M}{v w:Val}
section
variable {sts:List Stmt}{t e:Expr}{p1 p2:Pos}{c:Prop} [Decidable c]
theorem RetI.ifH (h:RdT X n sc t m G (decide c))(ha:c->Rd X n sc e m G v)(hb:¬c->RetI X n sc sts m G w):RetI X n sc (.If t [.Return (some e) p1] [] p2::sts) m G (if c then v else w):=λQ k=>
 .ifs h (λq=>by rw[if_pos (of_decide_eq_true q)] at k;exact .retT ((ha (of_decide_eq_true q)).to k)) λq=>by rw[if_neg (of_decide_eq_false q)] at k;exact .nilT (hb (of_decide_eq_false q) Q k)
end
theorem RetI.use {Q:QE}{sts:List Stmt}(h:RetI X n sc sts m G v)(k:Q v G):SnB X n sc sts m G (Back Q):=h Q k
theorem Rd.boolI {e:Expr}{c:Bool}{p pos:Pos}(hx:Zx X)(hk:Ze sc "int")(h:Rd X n sc e m G (.bool c))(hn:Zj [e]:=by exact λ_ _=>rfl)(hs:∀env,starEach [e] env=(false,eval e env)::starEach [] env:=by intro _;rfl):Rd X n sc (.Call (.Name "int" p) [e] [] pos) m G (.int (b2i c)):=
 Sn.ty (id:="int") hx (by decide) (by decide) hk hn (Rds.to (.cons h .nil hs) (Blt.intB ⟨rfl,rfl⟩))
theorem zJm {a b:Nat}(ha:a<36)(hb:b<36):(opS a == opS b)=decide (a=b):=by
 rw[zE0 _ ha _ hb,Bool.eq_iff_iff,Nat.beq_eq,decide_eq_true_iff]
theorem RdT.eqOp {e:Expr}{a:Nat}{s:Str}{kd:Nat}{p pos:Pos}(b:Nat)(h:Rd X n sc e m G (.str (opS a)))(ha:a<36)(hs:s=opS b:=by decide +kernel)(hb:b<36:=by decide):RdT X n sc (.Compare e [.Eq] [.Constant (.str s) kd p] pos) m G (decide (a=b)):=
 .cmp h .str (.eqS ⟨by rw[hs,zJm ha hb],rfl⟩)
theorem zH4:∀k<36,([PyData.str "div",.str "divu",.str "rem",.str "remu"].any λe=>e.eqv (.str (opS k)))=wH k:=by decide +kernel
theorem RdT.inOver {e:Expr}{a:Nat}{p pos:Pos}(T:Tops X)(hk:Ze sc "_law_OVER")(h:Rd X n sc e m G (.str (opS a)))(ha:a<36):RdT X n sc (.Compare e [.In] [.Name "_law_OVER" p] pos) m G (wH a):=
 .cmp h (.glob T.g_law_OVER hk) (.inD (.str (zCK _ ha)) (.inl (.tup' (.cons (.str (by decide +kernel)) (.cons (.str (by decide +kernel)) (.cons (.str (by decide +kernel)) (.cons (.str (by decide +kernel)) .nil)))))) ⟨by rw[zH4 _ ha],rfl⟩)
theorem zAW {i:Int}{Q:QE}(T:Tops X)(k:Q (.int (sgnP i)) G):Cal X (n+1) wT [.int i] G Q:=by
 refine' Cal.start (os:=?os) T.d_law_signed ?q ?b;case q=>walk_at"r"
 case b=>
 refine SnB.retB (Rd.to (v:=.int (sgnP i)) ?_ k)
 have e:Val.int (sgnP i)=if decide (i >= 2147483648) then .int (i - 4294967296) else .int i:=by
  unfold sgnP
  by_cases c:i >= 2147483648
  ·rw[if_pos c,decide_eq_true c];rfl
  ·rw[if_neg c,decide_eq_false c];rfl
 rw[e]
 exact .ite (.cmp (by walk_at"r") (.glob T.g_law_HALF (by walk_at"r")) (.ge ⟨rfl,rfl⟩)) (λ_=>.bin (by walk_at"r") (.glob T.g_law_SIZE (by walk_at"r")) (.sub ⟨rfl,rfl⟩)) λ_=>by walk_at"r"
theorem Rd.signed {e:Expr}{i:Int}{p pos:Pos}(T:Tops X)(hk:Ze sc "_law_signed")(h:Rd X (n+1) sc e m G (.int i))(hn:Zj [e]:=by exact λ_ _=>rfl)(hs:∀env,starEach [e] env=(false,eval e env)::starEach [] env:=by intro _;rfl):Rd X (n+1) sc (.Call (.Name "_law_signed" p) [e] [] pos) m G (.int (sgnP i)):=
 Sn.ref T.f_law_signed hk hn (vs:=[.int i]) (.cons h .nil hs) (zAW T ⟨rfl,rfl⟩)
theorem zGn {i:Int}(h0:0<=i)(h1:i<sz):(sgnP i).natAbs<4294967297:=by
 unfold sgnP sz at *
 by_cases c:i >= 2147483648
 ·rw[if_pos c];omega
 ·rw[if_neg c];omega
theorem zI8 {i:Int}(h1:i<sz)(h:i≠0):sgnP i≠0:=by
 unfold sgnP sz at *
 by_cases c:i >= 2147483648
 ·rw[if_pos c];lia
 ·rw[if_neg c];exact h
theorem Rd.abs {e:Expr}{i:Int}{p pos:Pos}(hx:Zx X)(hk:Ze sc "abs")(h:Rd X n sc e m G (.int i))(hn:Zj [e]:=by exact λ_ _=>rfl)(hs:∀env,starEach [e] env=(false,eval e env)::starEach [] env:=by intro _;rfl):Rd X n sc (.Call (.Name "abs" p) [e] [] pos) m G (.int i.natAbs):=
 Sn.fn (id:="abs") hx (by decide) (by decide) hk hn (Rds.to (.cons h .nil hs) (Blt.abs ⟨rfl,rfl⟩))
theorem zO {c:Prop}[Decidable c]{a b:Int}:Val.int (if c then a else b)=if c then .int a else .int b:=by by_cases q:c;(rw[if_pos q,if_pos q]);(rw[if_neg q,if_neg q])
theorem vL {c:Prop}[Decidable c]{a b:Val}:(if c then a else b)=if decide c=true then a else b:=by by_cases q:c;(rw[if_pos q,decide_eq_true q,if_pos rfl]);(rw[if_neg q,decide_eq_false q,if_neg Bool.false_ne_true])
theorem zBm {op:Nat}{a b:Int}{Q:QE}(T:Tops X)(ho:op<36)(ha:0<=a/\a<sz)(hb:0<=b/\b<sz)(h0:b≠0)(k:Q (.int (zFx op a b)) G):Cal X (n+2) yJ [.str (opS op),.int a,.int b] G Q:=by
 refine' Cal.start (os:=?os) T.d_law_over ?q ?b;case q=>walk_at"r"
 case b=>
 have hb2:b.natAbs<8589934592:=zp hb.1 (Nat.lt_of_lt_of_le (zDM (k:=4294967296) hb.1 hb.2) (by decide))
 have na:=zGn ha.1 ha.2
 have nb:=zGn hb.1 hb.2
 have n0:=zI8 hb.2 h0
 refine RetI.use (v:=.int (zFx op a b)) ?_ k
 unfold zFx
 rw[zO,zO]
 refine .ifs (.eqOp 6 (by walk_at"r") ho) (.bin (by walk_at"r") (by walk_at"r") (.fdiv h0 hb2 ⟨rfl,rfl⟩)) ?_
 refine .ifs (.eqOp 8 (by walk_at"r") ho) (.bin (by walk_at"r") (by walk_at"r") (.mod h0 ⟨rfl,rfl⟩)) ?_
 intro Q k
 refine SnB.assign2S (v:=.int (sgnP a)) (w:=.int (sgnP b)) (.tup (.cons (.signed T (by walk_at"r") (by walk_at"r")) (.cons (.signed T (by walk_at"r") (by walk_at"r")) .nil))) (by walk_at"r") (by walk_at"r") ?_
 generalize sgnP a=x at *
 generalize sgnP b=y at *
 have y2:((y.natAbs:Int)).natAbs<8589934592:=(show y.natAbs<_ from Nat.lt_trans nb (by decide))
 have y3:(y.natAbs:Int)≠0:=λq=>n0 (Int.natAbs_eq_zero.mp (Int.ofNat_inj.mp q))
 have y4:y.natAbs<2 ^ 63:=Nat.lt_trans nb (by decide)
 refine SnB.assign (v:=.int (Int.fdiv x.natAbs y.natAbs)) (.bin (.abs T.blt (by walk_at"r") (by walk_at"r")) (.abs T.blt (by walk_at"r") (by walk_at"r")) (.fdiv y3 y2 ⟨rfl,rfl⟩)) (by walk_at"r") ?_
 refine SnB.assign (v:=.int (zC8 x y)) ?_ (by walk_at"r") ?_
 ·unfold zC8
  rw[zO,vL]
  exact .ite (.cmp (v:=.bool (decide (x<0))) (w:=.bool (decide (y<0))) (.cmp (by walk_at"r") .int (.lt ⟨rfl,rfl⟩)) (.cmp (by walk_at"r") .int (.lt ⟨rfl,rfl⟩)) (.eq (.bool _) (.bool _) ⟨rfl,rfl⟩)) (λ_=>by walk_at"r") λ_=>.neg (by walk_at"r")
 refine SnB.retB (Rd.to ?_ k)
 rw[zO,vL]
 exact .ite (.eqOp 5 (by walk_at"r") ho) (λ_=>by walk_at"r") λ_=>.bin (by walk_at"r") (.bin (by walk_at"r") (by walk_at"r") (.mulR y4 ⟨rfl,rfl⟩)) (.sub ⟨rfl,rfl⟩)
theorem zAV {op:Nat}{a:Int}{Q:QE}(T:Tops X)(ho:op<36)(k:Q (.int (zDq op a)) G):Cal X (n+1) wS [.str (opS op),.int a] G Q:=by
 refine' Cal.start (os:=?os) T.d_law_turned ?q ?b;case q=>walk_at"r"
 case b=>
 refine RetI.use (v:=.int (zDq op a)) ?_ k
 unfold zDq
 rw[zO,zO,zO,zO,zO]
 refine .ifs (.eqOp 26 (by walk_at"r") ho) (.neg (by walk_at"r")) ?_
 refine .ifs (.eqOp 27 (by walk_at"r") ho) (.bin (.neg .int) (by walk_at"r") (.sub ⟨rfl,rfl⟩)) ?_
 refine .ifs (.eqOp 28 (by walk_at"r") ho) (.bin (.modK (.bin (by walk_at"r") .int (.add ⟨rfl,rfl⟩))) .int (.sub ⟨rfl,rfl⟩)) ?_
 refine .ifs (.eqOp 29 (by walk_at"r") ho) (.bin (.modK (.bin (by walk_at"r") .int (.add ⟨rfl,rfl⟩))) .int (.sub ⟨rfl,rfl⟩)) ?_
 refine .ifs (.eqOp 30 (by walk_at"r") ho) (.modK (by walk_at"r")) (.ret ?_)
 rw[zO,vL]
 exact .ite (.eqOp 31 (by walk_at"r") ho) (λ_=>.modK (by walk_at"r")) λ_=>by walk_at"r"
end
noncomputable section
variable {X:Cx}{n:Nat}{G:Gh}{sc:Scope}{os os' os'':List (Option Val)}{m:M}{v w:Val}
section
variable {sts:List Stmt}{t e:Expr}{p1 p2:Pos}
theorem RetI.ifB {c:Bool}(h:RdT X n sc t m G c)(ha:c=true->Rd X n sc e m G v)(hb:c=false->RetI X n sc sts m G w):RetI X n sc (.If t [.Return (some e) p1] [] p2::sts) m G (if c=true then v else w):=λQ k=>
 .ifs h (λq=>by rw[if_pos q] at k;exact .retT ((ha q).to k)) λq=>by rw[if_neg (by rw[q];decide)] at k;exact .nilT (hb q Q k)
end
theorem zJd {op:Nat}(h:w6 op=true)(h0:wH op=false)(h1:op≠13)(h2:op≠14)(h3:op≠15)(h4:op≠16)(h5:op≠17)(h6:op≠18)(h7:op≠22)(h8:op≠23)(h9:op≠24)(h10:op≠25):isSh op=true:=by
 have nb:∀{k:Nat},op≠k->Nat.beq op k=false:=λh=>Bool.eq_false_iff.mpr λq=>h (Nat.eq_of_beq_eq_true q)
 have q:=List.all_eq_true.mp (by decide:(List.range 26).all (λk=>!w6 k||(wH k||(Nat.beq k 13||(Nat.beq k 14||(Nat.beq k 15||(Nat.beq k 16||(Nat.beq k 17||(Nat.beq k 18||(Nat.beq k 22||(Nat.beq k 23||(Nat.beq k 24||(Nat.beq k 25||isSh k))))))))))))=true) op (List.mem_range.mpr (uU h))
 rw[h,h0,nb h1,nb h2,nb h3,nb h4,nb h5,nb h6,nb h7,nb h8,nb h9,nb h10] at q
 exact q
theorem zIj {b:Int}(h1:b<32):(2:Int) ^ b.toNat≠0/\((2:Int) ^ b.toNat).natAbs<8589934592:=by
 have:b.toNat<32:=by lia
 exact(by decide +kernel:∀k:Fin 32,(2:Int) ^ k.1≠0/\((2:Int) ^ k.1).natAbs<8589934592) ⟨_,this⟩
theorem Rd.pow2 {e:Expr}{b:Int}{kd:Nat}{p pos:Pos}(h:Rd X n sc e m G (.int b))(h0:0<=b)(h1:b<32):Rd X n sc (.BinOp (.Constant (.int 2) kd p) .Pow e pos) m G (.int (2 ^ b.toNat)):=.bin .int h (.pow h0 (Int.le_trans (Int.le_of_lt h1) (by decide)) (by decide) ⟨rfl,rfl⟩)
theorem zKC {a:Int}(h:0<=a/\a<sz):a.natAbs<2 ^ 63:=zp h.1 (Nat.lt_of_lt_of_le (zDM (k:=4294967296) h.1 h.2) (by decide))
theorem zBk {op:Nat}{a b:Int}{Q:QE}(T:Tops X)(ho:w6 op=true)(ha:0<=a/\a<sz)(hb:0<=b/\b<sz)(hs:isSh op=true->b<32)(hd:wH op=true->b≠0)(k:Q (.int (zF9 op a b)) G):Cal X (n+3) yH [.str (opS op),.int a,.int b] G Q:=by
 refine' Cal.start (os:=?os) T.d_law_word ?q ?b;case q=>walk_at"r"
 case b=>
 have o36:op<36:=Nat.lt_trans (uU ho) (by decide)
 have a63:=zKC ha
 refine RetI.use (v:=.int (zF9 op a b)) ?_ k
 unfold zF9
 rw[zO,zO,zO,zO,zO,zO,zO,zO,zO,zO,zO,zO,zO]
 refine .ifB (.inOver T (by walk_at"r") (by walk_at"r") o36) (λe=>Sn.ref T.f_law_over (by walk_at"r") (λ_ _=>rfl) (vs:=[.str (opS op),.int a,.int b]) (by walk_at"r") (zBm T o36 ha hb (hd e) ⟨rfl,rfl⟩)) λe0=>?_
 refine .ifH (.eqOp 13 (by walk_at"r") o36) (λ_=>.bin (by walk_at"r") (by walk_at"r") (.add ⟨rfl,rfl⟩)) λe1=>?_
 refine .ifH (.eqOp 14 (by walk_at"r") o36) (λ_=>.bin (by walk_at"r") (by walk_at"r") (.sub ⟨rfl,rfl⟩)) λe2=>?_
 refine .ifH (.eqOp 15 (by walk_at"r") o36) (λ_=>.bin (by walk_at"r") (by walk_at"r") (.mulL a63 ⟨rfl,rfl⟩)) λe3=>?_
 refine .ifH (.eqOp 16 (by walk_at"r") o36) (λ_=>.bin (by walk_at"r") (by walk_at"r") (.band ⟨rfl,rfl⟩)) λe4=>?_
 refine .ifH (.eqOp 17 (by walk_at"r") o36) (λ_=>.bin (by walk_at"r") (by walk_at"r") (.bor ⟨rfl,rfl⟩)) λe5=>?_
 refine .ifH (.eqOp 18 (by walk_at"r") o36) (λ_=>.bin (by walk_at"r") (by walk_at"r") (.bxor ⟨rfl,rfl⟩)) λe6=>?_
 refine .ifH (.eqOp 22 (by walk_at"r") o36) (λ_=>.boolI T.blt (by walk_at"r") (.cmp (.signed T (by walk_at"r") (by walk_at"r")) (.signed T (by walk_at"r") (by walk_at"r")) (.lt ⟨rfl,rfl⟩))) λe7=>?_
 refine .ifH (.eqOp 23 (by walk_at"r") o36) (λ_=>.boolI T.blt (by walk_at"r") (.cmp (by walk_at"r") (by walk_at"r") (.lt ⟨rfl,rfl⟩))) λe8=>?_
 refine .ifH (.eqOp 24 (by walk_at"r") o36) (λ_=>.boolI T.blt (by walk_at"r") (.cmp (by walk_at"r") (by walk_at"r") (.eqI ⟨rfl,rfl⟩))) λe9=>?_
 refine .ifH (.eqOp 25 (by walk_at"r") o36) (λ_=>.boolI T.blt (by walk_at"r") (.cmp (by walk_at"r") (by walk_at"r") (.neI ⟨rfl,rfl⟩))) λe10=>?_
 have b32:=hs (zJd ho e0 e1 e2 e3 e4 e5 e6 e7 e8 e9 e10)
 obtain⟨p1,p2⟩:=zIj b32
 refine .ifH (.eqOp 19 (by walk_at"r") o36) (λ_=>.bin (by walk_at"r") (.pow2 (by walk_at"r") hb.1 b32) (.mulL a63 ⟨rfl,rfl⟩)) λ_=>.ret ?_
 rw[vL]
 exact .ite (.eqOp 20 (by walk_at"r") o36) (λ_=>.bin (by walk_at"r") (.pow2 (by walk_at"r") hb.1 b32) (.fdiv p1 p2 ⟨rfl,rfl⟩)) λ_=>.bin (.signed T (by walk_at"r") (by walk_at"r")) (.pow2 (by walk_at"r") hb.1 b32) (.fdiv p1 p2 ⟨rfl,rfl⟩)
end
noncomputable section
variable {X:Cx}{n:Nat}{G:Gh}{sc:Scope}{os os' os'':List (Option Val)}{m:M}{v w:Val}
noncomputable def rg (i w:Nat):List Val:=(List.range' i (w - i)).map λ(k:Nat)=>Val.int k
theorem zGp {i w:Nat}(h:w<=i):rg i w=[]:=by unfold rg;rw[Nat.sub_eq_zero_of_le h];rfl
theorem zCB {i w:Nat}(h:i<w):rg i w=.int i::rg (i+1) w:=by
 unfold rg
 rw[show w - i=(w - (i+1))+1 from(Nat.sub_add_cancel (Nat.sub_pos_of_lt h)).symm];rfl
theorem zBM (w:Nat):vC w=rg 0 w:=by
 unfold vC rg
 rw[Nat.sub_zero,<-List.range_eq_range']
inductive RgI (w:Nat)(I:Nat->M->Gh->Prop)(xs:List Val)(m:M)(G:Gh):Prop where
 | mk (i:Nat) (hi:i<=w) (e:xs=rg i w) (h:I i m G)
theorem SnB.forR {Q:QS}{x:Str}{e:Expr}{p1 p2 p3 p4:Pos}{body sts:List Stmt}(w:Nat)(hx:Zx X)(hk:Ze sc "range")(he:Rd X n sc e m G (.int w))(hw:w<1000)(I:Nat->M->Gh->Prop)(h0:I 0 m G)
  (turn:∀i m G,i<w->I i m G->BT X n sc (.Name x p1) (.int i) m body G (Turn (I (i+1)) (Then X n sc sts Q))) (z:∀m G,I w m G->SnB X n sc sts m G Q)
  (hn:Zj [e]:=by exact λ_ _=>rfl) (hs:∀env x,foldedSetIterable (.Call (.Name "range" p2) [e] [] p3) env x=pure x:=by intro _ _;rfl) (hp:∀env,starEach [e] env=(false,eval e env)::starEach [] env:=by intro _;rfl):SnB X n sc (.For (.Name x p1) (.Call (.Name "range" p2) [e] [] p3) body [] p4::sts) m G Q:=by
 refine .cons (.fors (.range hx hk hn (Rds.to (vs:=[.int w]) (.cons he .nil hp) ⟨w,rfl,Nat.lt_trans hw (by decide),RgI w I,⟨λx xs m G hI=>?_,λm G hI=>?_⟩,⟨0,Nat.zero_le _,zBM w,h0⟩⟩)) hs)
 ·obtain⟨i,hi,e1,h⟩:=hI
  have hlt:i<w:=Nat.lt_of_not_le λq=>by rw[zGp q] at e1;cases e1
  rw[zCB hlt] at e1
  obtain⟨rfl,rfl⟩:=List.cons.inj e1
  obtain⟨m',b,q⟩:=turn i m G hlt h
  refine⟨trivial,m',b,q.mono λfl m G q=>?_⟩
  cases q with
  | next h=>exact .next ⟨_,hlt,rfl,h⟩
  | cont h=>exact .cont ⟨_,hlt,rfl,h⟩
  | brk h=>exact .brk h
  | ret h=>exact .ret h
 ·obtain⟨i,hi,e1,h⟩:=hI
  have:i=w:=Nat.le_antisymm hi (Nat.le_of_not_lt λq=>by rw[zCB q] at e1;cases e1)
  subst this
  exact⟨trivial,.next (z m G h)⟩
theorem SnB.forRM {Q:QS}{x:Str}{e:Expr}{p1 p2 p3 p4:Pos}{body sts:List Stmt}(w:Nat)(hx:Zx X)(hk:Ze sc "range")(he:Rd X n sc e m G (.int w))(hw:w<1000)(I:Nat->M->Gh->Prop)(h0:I 0 m G)
  (t:∀i m G (QT:QS),i<w->I i m G->(∀{m G},I (i+1) m G->QT .next m G)->(∀{v m G},Q (.ret v) m G->QT (.ret v) m G)->BT X n sc (.Name x p1) (.int i) m body G QT) (z:∀m G,I w m G->SnB X n sc sts m G Q)
  (hn:Zj [e]:=by exact λ_ _=>rfl) (hs:∀env x,foldedSetIterable (.Call (.Name "range" p2) [e] [] p3) env x=pure x:=by intro _ _;rfl) (hp:∀env,starEach [e] env=(false,eval e env)::starEach [] env:=by intro _;rfl):SnB X n sc (.For (.Name x p1) (.Call (.Name "range" p2) [e] [] p3) body [] p4::sts) m G Q:=
 .forR w hx hk he hw I h0 (λi m G hi hI=>t i m G _ hi hI (λq=>.next q) λq=>.ret (.ret q)) z hn hs hp
theorem zFg {i w:Nat}(h:i<w):w - i=(w - (i+1))+1:=(Nat.sub_add_cancel (Nat.sub_pos_of_lt h)).symm
theorem zE7 {j:Int}{k:Nat}(h:0<=j)(h':j<k)(q:k<=2000):j.natAbs<cap:=zp h (Nat.lt_of_lt_of_le ((Int.toNat_lt h).mpr h') (Nat.le_trans q (by decide)))
noncomputable def zDt:List (Int×Int):=[(4096,8),(4112,4),(8192,8)]
noncomputable def th1 (a w:Int)(p:Int×Int):Bool:=decide (p.1<=a)&&decide (a+w<=p.1+p.2)
theorem zDs (a w:Int):wG a w=zDt.any (th1 a w):=by
 show (_||_||_)=(_||(_||(_||false)))
 rw[Bool.or_false,Bool.or_assoc];rfl
inductive ThI (a w:Int)(xs:List Val)(m:M)(G' G:Gh):Prop where
 | mk (x y:Option Val) (ps:List (Int×Int)) (e1:xs=ps.map λp=>.tup [.int p.1,.int p.2]) (e2:m=L w2 [some (.int a),some (.int w),x,y,none]) (e3:G'=G) (h:wG a w=ps.any (th1 a w))
theorem uv {a w:Int}{Q:QE}(T:Tops X)(k:Q (.bool (wG a w)) G):Cal X (n+1) zf [.int a,.int w] G Q:=by
 refine' Cal.start (os:=?os) T.d_law_is_there ?q ?b;case q=>walk_at"r"
 case b=>
 refine .cons (.fors (.seq (Rd.to (v:=.tup (zDt.map λp=>.tup [.int p.1,.int p.2])) (.tup (.cons (by walk_at"r") (.cons (by walk_at"r") (.cons (.tup (.cons (.glob T.g_law_OBJECT (by walk_at"r")) (.cons .int .nil))) .nil)))) ⟨_,_,.tup _,λxs m G'=>ThI a w xs m G' G,⟨λx xs m G' hI=>?_,λm G' hI=>?_⟩,⟨none,none,_,rfl,rfl,rfl,zDs a w⟩⟩)))
 ·obtain⟨u1,u2,ps,e1,rfl,rfl,h⟩:=hI
  cases ps with
  | nil=>cases e1
  | cons p ps=>
   obtain⟨rfl,rfl⟩:=List.cons.inj e1
   rw[List.any_cons] at h
   refine⟨trivial,_,.tup (.two (os':=[some (.int a),some (.int w),some (.int p.1),u2,none]) (os'':=[some (.int a),some (.int w),some (.int p.1),some (.int p.2),none]) (by walk_at"r") (by walk_at"r")),?_⟩
   refine .ifs (r:=th1 a w p) (.and (.cmp (by walk_at"r") (by walk_at"r") (.le ⟨rfl,rfl⟩)) λ_=>.and1 (.cmp (.bin (by walk_at"r") (by walk_at"r") (.add ⟨rfl,rfl⟩)) (.bin (by walk_at"r") (by walk_at"r") (.add ⟨rfl,rfl⟩)) (.le ⟨rfl,rfl⟩))) (λe=>?_) λe=>.nilT (.nil (.next ⟨_,_,ps,rfl,rfl,rfl,by rw[h,e];rfl⟩))
   rw[h,e] at k
   exact .ret (Rd.tru.to (.ret (.ret (.ret (.ret k)))))
 ·obtain⟨u1,u2,ps,e1,rfl,rfl,h⟩:=hI
  cases ps with
  | cons=>cases e1
  | nil=>
   rw[h] at k
   exact⟨trivial,.next (.retB (Rd.to (v:=.bool false) .tru k))⟩
end
noncomputable section
variable {X:Cx}{n:Nat}{G:Gh}{sc:Scope}{os os' os'':List (Option Val)}{m:M}{v w:Val}
theorem Rd.p256 {e:Expr}{i:Nat}{kd:Nat}{p pos:Pos}(h:Rd X n sc e m G (.int i))(hi:i<=8):Rd X n sc (.BinOp (.Constant (.int 256) kd p) .Pow e pos) m G (.int (256 ^ i)):=.bin .int h (.pow (Int.natCast_nonneg i) (Int.le_trans (Int.ofNat_le.mpr hi) (by decide)) (by decide) ⟨rfl,rfl⟩)
theorem zH3 {i:Nat}(hi:i<=7):((256:Int) ^ i).natAbs<2 ^ 63:=(by decide +kernel:∀k:Fin 8,((256:Int) ^ k.1).natAbs<2 ^ 63) ⟨i,Nat.lt_succ_of_le hi⟩
theorem zIk {i:Nat}(hi:i<=3):(256:Int) ^ i≠0/\((256:Int) ^ i).natAbs<8589934592:=(by decide +kernel:∀k:Fin 4,(256:Int) ^ k.1≠0/\((256:Int) ^ k.1).natAbs<8589934592) ⟨i,Nat.lt_succ_of_le hi⟩
theorem zHx (mem:Me)(a:Int)(i:Nat):getW mem a (i+1)=getW mem a i+getM mem (a+i) * 256 ^ i:=by
 unfold getW
 rw[List.range_succ,List.foldl_append];rfl
inductive GetI (f:Int->Option Val->M)(g:Nat->Int)(G0:Gh)(i:Nat)(m:M)(G:Gh):Prop where
 | mk (x:Option Val) (e:m=f (g i) x) (eG:G=G0)
theorem jY {me:Addr}{mem:Me}{a:Int}{w:Nat}{sg:Bool}{Q:QE}(T:Tops X)(hm:G me=some (.dict (adE mem)))(hw:w<=8)(k:Q (.int (getS mem a w sg)) G):Cal X (n+1) ym [.ref me,.int a,.int w,.bool sg] G Q:=by
 refine' Cal.start (os:=?os) T.d_law_get ?q ?b;case q=>walk_at"r"
 case b=>
 refine SnB.assign (v:=.int 0) .int (by walk_at"r") ?_
 refine SnB.forR w T.blt (by walk_at"r") (by walk_at"r") (Nat.lt_of_le_of_lt hw (by decide)) (GetI (λv x=>L j3 [some (.ref me),some (.int a),some (.int w),some (.bool sg),some (.int v),x,none]) (getW mem a) G) ⟨none,rfl,rfl⟩ (λi m G' hi hI=>?_) λm G' hI=>?_
 ·obtain⟨x,rfl,rfl⟩:=hI
  refine⟨_,.name (Upd.put (os':=[some (.ref me),some (.int a),some (.int w),some (.bool sg),some (.int (getW mem a i)),some (.int i),none]) (by walk_at"r")),?_⟩
  have hi8:i<=7:=by lia
  refine SnB.assign (v:=.int (getW mem a (i+1))) (zHx ..▸.bin (by walk_at"r") (.bin (v:=.int (getM mem (a+i))) (Sn.meth .get (λ_ _=>rfl) (Rd.to (v:=.ref me) (by walk_at"r") ⟨.dict hm,Rds.to (vs:=[.int (a+i),.int 0]) (.cons (.bin (by walk_at"r") (by walk_at"r") (.add ⟨rfl,rfl⟩)) (by walk_at"r")) (Meth.get hm ⟨?_,rfl⟩)⟩)) (.p256 (by walk_at"r") (Nat.le_succ_of_le hi8)) (.mulR (zH3 hi8) ⟨rfl,rfl⟩)) (.add ⟨rfl,rfl⟩)) (by walk_at"r") (.nil (.next ⟨_,rfl,rfl⟩))
  rw[yz]
  unfold getM
  cases lk mem (a+i)<;>rfl
 ·obtain⟨x,rfl,rfl⟩:=hI
  refine SnB.retB (Rd.to (v:=.int (getS mem a w sg)) ?_ k)
  unfold getS
  rw[zO]
  exact .ite (.and (.val (by walk_at"r") (.bool _)) λ_=>.and1 (.cmp (by walk_at"r") (.divK (.p256 (by walk_at"r") hw)) (.ge ⟨rfl,rfl⟩))) (λ_=>.bin (by walk_at"r") (.p256 (by walk_at"r") hw) (.sub ⟨rfl,rfl⟩)) λ_=>by walk_at"r"
theorem zES (mem:Me)(a v:Int)(i:Nat):putM mem a (i+1) v=st (putM mem a i v) (a+i) (Int.fmod (Int.fdiv v (256 ^ i)) 256):=by
 unfold putM
 rw[List.range_succ,List.foldl_append];rfl
theorem zET (mem:Me)(a v:Int)(i:Nat):(putM mem a i v).length<=mem.length+i:=by
 induction i with
 | zero=>exact Nat.le_refl _
 | succ i ih=>rw[zES];exact Nat.le_trans (ur _ _ _) (Nat.succ_le_succ ih)
inductive PutI (f:Option Val->M)(g:Nat->Me)(me:Addr)(G0:Gh)(i:Nat)(m:M)(G:Gh):Prop where
 | mk (x:Option Val) (e:m=f x) (h:G me=some (.dict (adE (g i)))) (k:Ext1 me G0 G)
theorem zHX {a b i:Nat}(h:a<=b+i)(hb:b<1000000)(hi:i<=3):a<cap:=Nat.lt_of_le_of_lt h (Nat.lt_of_lt_of_le (Nat.add_lt_add_of_lt_of_le hb hi) (by decide))
theorem uF {me:Addr}{mem:Me}{a v:Int}{w:Nat}{Q:QE}(T:Tops X)(hm:G me=some (.dict (adE mem)))(hw:w<=4)(hl:mem.length<1000000)(k:∀G',Ext1 me G G'->G' me=some (.dict (adE (putM mem a w v)))->Q .none G'):Cal X (n+1) yl [.ref me,.int a,.int w,.int v] G Q:=by
 refine' Cal.start (os:=?os) T.d_law_put ?q ?b;case q=>walk_at"r"
 case b=>
 refine SnB.forR w T.blt (by walk_at"r") (by walk_at"r") (Nat.lt_of_le_of_lt hw (by decide)) (PutI (λx=>L jZ [some (.ref me),some (.int a),some (.int w),some (.int v),x,none]) (λi=>putM mem a i v) me G) ⟨none,rfl,hm,.refl⟩ (λi m G' hi hI=>?_) λm G' hI=>?_
 ·obtain⟨x,rfl,h,x0⟩:=hI
  refine⟨_,.name (Upd.put (os':=[some (.ref me),some (.int a),some (.int w),some (.int v),some (.int i),none]) (by walk_at"r")),?_⟩
  have hi3:i<=3:=by lia
  obtain⟨d1,d2⟩:=zIk hi3
  have hlen:=zET mem a v i
  refine .cons (.setIdx (Rd.to (v:=.int (Int.fmod (Int.fdiv v (256 ^ i)) 256)) (.modK (.bin (by walk_at"r") (.p256 (by walk_at"r") (Nat.le_trans hi3 (by decide))) (.fdiv d1 d2 ⟨rfl,rfl⟩))) (Rd.to (v:=.ref me) (by walk_at"r") (Rd.to (v:=.int (a+i)) (.bin (by walk_at"r") (by walk_at"r") (.add ⟨rfl,rfl⟩)) ⟨me,_,a+i,rfl,rfl,h,by rw[zF6];exact zHX hlen hl hi3,.next (.nil (.next ⟨_,rfl,?_,x0.trans .upd⟩))⟩))))
  rw[Gh.upd_same,zDz,zDJ,zES]
 ·obtain⟨x,rfl,h,x0⟩:=hI
  exact .nil (.next (k G' x0 h))
end
noncomputable section
variable {X:Cx}{n:Nat}{G:Gh}{sc:Scope}{os os' os'':List (Option Val)}{m:M}{v w:Val}
noncomputable def givL (g:Gv):List Val:=g.map λe=>.int e.1
theorem giv0 {g:Gv}(h:0<g.length):wW (givL g) 0=some (.int (g0 g).1):=by
 cases g with
 | nil=>cases h
 | cons a l=>rfl
theorem giv1 {g:Gv}(h:1<g.length):wW (givL g) 1=some (.int (g1 g).1):=by
 cases g with
 | nil=>cases h
 | cons a l=>cases l with
  | nil=>exact absurd h (Nat.lt_irrefl 1)
  | cons b l=>rfl
noncomputable def ExtM (me no:Addr)(G G':Gh):Prop:=∀x o,x≠me->x≠no->G x=some o->G' x=some o
theorem ExtM.trans {me no:Addr}{G' G'':Gh}(h:ExtM me no G G')(k:ExtM me no G' G''):ExtM me no G G'':=λx o a b e=>k x o a b (h x o a b e)
theorem ExtM.refl {me no:Addr}:ExtM me no G G:=λ_ _ _ _ e=>e
theorem Ext1.memM {me no:Addr}{G':Gh}(h:Ext1 me G G'):ExtM me no G G':=λx o a _ e=>h x o a e
theorem Ext1.notM {me no:Addr}{G':Gh}(h:Ext1 no G G'):ExtM me no G G':=λx o _ b e=>h x o b e
structure AccP (p:PS)(g:Gv)(w:Nat)(sg:Bool):Prop where
 op:p.op<=2
 w4:w<=4
 m1:p.op=1->p.more=.int w
 m2:p.op≠1->∃u,p.more=.tup [.int w,u]
 m0:p.op=0->p.more=.tup [.int w,.bool sg]
 l0:0<g.length
 l1:p.op≠0->1<g.length
noncomputable def jE (op:Nat)(g:Gv)(w:Nat):Bool:=!wG (g0 g).1 w||(decide (op=2)&&!wG (g1 g).1 w)
noncomputable def accV (op:Nat)(g:Gv)(w:Nat)(sg:Bool)(mem:Me):Int×Me:=if op=0 then(getS mem (g0 g).1 w sg,mem) else if op=1 then(0,putM mem (g0 g).1 w (g1 g).1) else(0,putM mem (g0 g).1 w (getW mem (g1 g).1 w))
theorem zEy (mem:Me)(a:Int)(w:Nat):getS mem a w false=getW mem a w:=if_neg (by rw[Bool.false_and];decide)
inductive AcJ (me:Addr)(f:Int->M)(r:Int×Me)(G0:Gh)(m:M)(G:Gh):Prop where
 | mk (e:m=f r.1) (x:Ext1 me G0 G) (h:G me=some (.dict (adE r.2)))
theorem Rd.there {e1 e2:Expr}{a:Int}{b:Int}{p pos:Pos}(T:Tops X)(hk:Ze sc "_law_is_there")(h1:Rd X (n+1) sc e1 m G (.int a))(h2:Rd X (n+1) sc e2 m G (.int b))(hn:Zj [e1,e2]:=by exact λ_ _=>rfl)(s1:NS e1:=by intro _ _;rfl)(s2:NS e2:=by intro _ _;rfl):Rd X (n+1) sc (.Call (.Name "_law_is_there" p) [e1,e2] [] pos) m G (.bool (wG a b)):=
 Sn.ref T.f_law_is_there hk hn (vs:=[.int a,.int b]) (.cons h1 (.cons h2 .nil (s2 _)) (s1 _)) (uv T ⟨rfl,rfl⟩)
theorem Tru.b {c:Bool}:Tru G (.bool c) c:=.bool c
theorem zAX {ea ga me no:Addr}{p:PS}{g:Gv}{mem:Me}{w:Nat}{sg:Bool}{vs:List Val}{Q:QE}(T:Tops X)(hp:Zh G ea p)(A:AccP p g w sg)(hg:G ga=some (.list (givL g)))(hm:G me=some (.dict (adE mem)))(hn:G no=some (.list vs))(hl:mem.length<1000000)(hv:vs.length<=2000)
  (k0:jE p.op g w=true->Q .none G)
  (k1:jE p.op g w=false->∀G',ExtM me no G G'->G' me=some (.dict (adE (accV p.op g w sg mem).2))->G' no=some (.list (if p.vol then vs++[.tup [.str (opS p.op),.ref ga,.int w,.int (accV p.op g w sg mem).1]] else vs))->Q (.int (accV p.op g w sg mem).1) G'):Cal X (n+2) wU [.ref ea,.ref ga,.ref me,.ref no] G Q:=by
 obtain⟨⟨fs,la,h1,⟨f1,f2,f3,f4,f5,_⟩,h2⟩,ho⟩:=hp
 refine' Cal.start (os:=?os) T.d_law_access ?q ?b;case q=>walk_at"r"
 case b=>
 have p0:=giv0 A.l0
 refine SnB.assign2S (v:=.int (g0 g).1) (w:=.int 0) (.tup (.cons (.idxL (by walk_at"r") hg .int (by decide) p0) (by walk_at"r"))) (by walk_at"r") (by walk_at"r") ?_
 refine SnB.assign (v:=.int w) ?_ (by walk_at"r") ?_
 ·have e:Val.int w=if decide (p.op=1)=true then .int w else .int w:=(ite_self _).symm
  rw[e]
  refine .ite (.eqOp 1 (by walk_at"r") ho) (λq=>?_) λq=>?_
  ·rw[A.m1 (of_decide_eq_true q)] at f4;walk_at"r"
  ·obtain⟨u,e⟩:=A.m2 (of_decide_eq_false q)
   rw[e] at f4
   exact .idxT (vs:=[.int w,u]) (by walk_at"r") .int (by decide) rfl
 refine SnB.ifs (r:=jE p.op g w) (.or (.not (.val (.there T (by walk_at"r") (by walk_at"r") (by walk_at"r")) .b)) λ_=>.or1 (.and (.eqOp 2 (by walk_at"r") ho) λq=>.and1 (.not (.val (.there T (by walk_at"r") (.idxL (by walk_at"r") hg .int (by decide) (giv1 (A.l1 (by rw[of_decide_eq_true q];decide)))) (by walk_at"r")) .b)))) (λe=>.retT (Rd.noneC.to (k0 e))) λe=>.nilT ?_
 have k1:=k1 e
 clear k0 e
 refine SnB.ifsM (r:=decide (p.op=0)) (AcJ me (λx=>L yD [some (.ref ea),some (.ref ga),some (.ref me),some (.ref no),some (.int (g0 g).1),some (.int x),some (.int w),none,none,none]) (accV p.op g w sg mem) G) (.eqOp 0 (by walk_at"r") ho) (λm' G1 hJ=>?_) λQJ hM _=>⟨λq=>?_,λq=>?_⟩
 rotate_left
 ·have ev:accV p.op g w sg mem=(getS mem (g0 g).1 w sg,mem):=if_pos (of_decide_eq_true q)
  rw[A.m0 (of_decide_eq_true q)] at f4
  rw[ev] at hM
  exact SnB.assign (v:=.int (getS mem (g0 g).1 w sg)) (Sn.ref T.f_law_get (by walk_at"r") (λ_ _=>rfl) (vs:=[.ref me,.int (g0 g).1,.int w,.bool sg]) (.cons (by walk_at"r") (.cons (by walk_at"r") (.cons (by walk_at"r") (.cons (.idxT (vs:=[.int w,.bool sg]) (by walk_at"r") .int (by decide) rfl) .nil)))) (jY T hm (Nat.le_trans A.w4 (by decide)) ⟨rfl,rfl⟩)) (by walk_at"r") (.nil (hM ⟨rfl,.refl,hm⟩))
 ·have l1:=giv1 (A.l1 (of_decide_eq_false q))
  have ev:accV p.op g w sg mem=if p.op=1 then(0,putM mem (g0 g).1 w (g1 g).1) else(0,putM mem (g0 g).1 w (getW mem (g1 g).1 w)):=if_neg (of_decide_eq_false q)
  rw[ev] at hM
  refine SnB.ifs (r:=decide (p.op=1)) (.eqOp 1 (by walk_at"r") ho) (λq=>?_) λq=>?_
  ·rw[if_pos (of_decide_eq_true q)] at hM
   exact SnB.expr (Sn.ref T.f_law_put (by walk_at"r") (λ_ _=>rfl) (vs:=[.ref me,.int (g0 g).1,.int w,.int (g1 g).1]) (.cons (by walk_at"r") (.cons (by walk_at"r") (.cons (by walk_at"r") (.cons (.idxL (by walk_at"r") hg .int (by decide) l1) .nil)))) (uF T hm A.w4 hl λG1 x1 m1=>.nil (.next (.nil (hM ⟨rfl,x1,m1⟩)))))
  ·rw[if_neg (of_decide_eq_false q)] at hM
   exact SnB.expr (Sn.ref T.f_law_put (by walk_at"r") (λ_ _=>rfl) (vs:=[.ref me,.int (g0 g).1,.int w,.int (getW mem (g1 g).1 w)]) (.cons (by walk_at"r") (.cons (by walk_at"r") (.cons (by walk_at"r") (.cons (zEy ..▸Sn.ref T.f_law_get (by walk_at"r") (λ_ _=>rfl) (vs:=[.ref me,.int (g1 g).1,.int w,.bool false]) (.cons (by walk_at"r") (.cons (.idxL (by walk_at"r") hg .int (by decide) l1) (by walk_at"r"))) (jY T hm (Nat.le_trans A.w4 (by decide)) ⟨rfl,rfl⟩)) .nil)))) (uF T hm A.w4 hl λG1 x1 m1=>.nil (.next (.nil (hM ⟨rfl,x1,m1⟩)))))
 ·obtain⟨rfl,x1,m1⟩:=hJ
  generalize accV p.op g w sg mem=r at *
  have kn:=x1.kind hm hn
  have h1':=x1.kind hm h1
  refine SnB.ifs (r:=p.vol) (.val (by walk_at"r") .b) (λq=>?_) λq=>.nilT (.retB (Rd.to (v:=.int r.1) (by walk_at"r") (k1 G1 x1.memM m1 (by rw[q];exact kn))))
  rw[q,if_pos rfl] at k1
  refine SnB.expr (Sn.meth .append (λ_ _=>rfl) (Rd.to (v:=.ref no) (by walk_at"r") ⟨.list kn,Rds.to (vs:=[.tup [.str (opS p.op),.ref ga,.int w,.int r.1]]) (by walk_at"r") (Meth.appN kn hv λG2 x2 n2=>.nilT (.retB (Rd.to (v:=.int r.1) (by walk_at"r") (k1 G2 (x1.memM.trans x2.notM) (x2.kind kn m1) n2))))⟩))
end
noncomputable section
variable {X:Cx}{n:Nat}{G:Gh}{sc:Scope}{os os' os'':List (Option Val)}{m:M}{v w:Val}
inductive Yu (no:Addr)(G:Gh)(x:Val×List Int×List Int)(v:Val):Prop where
 | mk (ga:Addr) (e:v=.tup (x.1::.ref ga::x.2.2.map .int)) (h:G ga=some (.list (x.2.1.map .int))) (hn:ga≠no) (ha:Atom x.1)
inductive NtAt (no:Addr)(G:Gh):Nt->List Val->Prop
 | nil:NtAt no G [] []
 | cons {x:Val×List Int×List Int} {nt:Nt} {v:Val} {vs:List Val} (h:Yu no G x v) (t:NtAt no G nt vs):NtAt no G (x::nt) (v::vs)
theorem NtAt.map {no:Addr}{G':Gh}{nt:Nt}{vs:List Val}(h:NtAt no G nt vs)(x:∀a xs,a≠no->G a=some (.list xs)->G' a=some (.list xs)):NtAt no G' nt vs:=by
 induction h with
 | nil=>exact .nil
 | cons h _ ih=>obtain⟨ga,e,h,hn,ha⟩:=h;exact .cons ⟨ga,e,x _ _ hn h,hn,ha⟩ ih
theorem NtAt.snoc {no:Addr}{nt:Nt}{vs:List Val}{x:Val×List Int×List Int}{v:Val}(h:NtAt no G nt vs)(k:Yu no G x v):NtAt no G (nt++[x]) (vs++[v]):=by
 induction h with
 | nil=>exact .cons k .nil
 | cons a _ ih=>exact .cons a ih
theorem NtAt.len {no:Addr}{nt:Nt}{vs:List Val}(h:NtAt no G nt vs):vs.length=nt.length:=by
 induction h with
 | nil=>rfl
 | cons _ _ ih=>exact congrArg (· + 1) ih
structure MsAt (me no:Addr)(G:Gh)(mem:Me)(nt:Nt):Prop where
 m:G me=some (.dict (adE mem))
 n:∃vs,G no=some (.list vs)/\NtAt no G nt vs
theorem zDA (g:Gv):givL g=(g.map (·.1)).map .int:=by unfold givL;rw[List.map_map];rfl
theorem zJ5:∀k<36,([PyData.str "load",.str "store",.str "move"].any λe=>e.eqv (.str (opS k)))=Nat.ble k 2:=by decide +kernel
theorem RdT.inAcc {e:Expr}{a kd:Nat}{k1 k2 k3:Nat}{p1 p2 p3 p4 pos:Pos}(h:Rd X n sc e m G (.str (opS a)))(ha:a<36):RdT X n sc (.Compare e [.In] [.Tuple [.Constant (.str "load") k1 p1,.Constant (.str "store") k2 p2,.Constant (.str "move") k3 p3] kd p4] pos) m G (Nat.ble a 2):=
 .cmp (w:=.tup [.str "load",.str "store",.str "move"]) h (by walk_at"r") (.inD (.str (zCK _ ha)) (.inl (.tup' (.cons (.str (by decide +kernel)) (.cons (.str (by decide +kernel)) (.cons (.str (by decide +kernel)) .nil))))) ⟨by rw[zJ5 _ ha],rfl⟩)
theorem SnB.skip {Q:QS}{t:Expr}{a sts:List Stmt}{pos:Pos}{r:Bool}(h:RdT X n sc t m G r)(hr:r=false)(k:SnB X n sc sts m G Q):SnB X n sc (.If t a [] pos::sts) m G Q:=.ifs h (λe=>by rw[hr] at e;cases e) λ_=>.nilT k
theorem SnB.take {Q:QS}{t:Expr}{a c sts:List Stmt}{pos:Pos}{r:Bool}(h:RdT X n sc t m G r)(hr:r=true)(k:SnB X n sc a m G (Then X n sc sts Q)):SnB X n sc (.If t a c pos::sts) m G Q:=.ifs h (λ_=>k) λe=>by rw[hr] at e;cases e
structure EffQ (me no:Addr)(G:Gh)(o:Option ((Int×Option Int)×Me×Nt))(Q:QE):Prop where
 flt:o=none->Q .none G
 ok:∀e mem' nt',o=some (e,mem',nt')->∀G',ExtM me no G G'->MsAt me no G' mem' nt'->Q (.int e.1) G'
theorem zF7 {p:PS}{g:Gv}{w:Nat}{sg:Bool}{mem:Me}{nt:Nt}{o:Option ((Int×Option Int)×Me×Nt)}(h:(if jE p.op g w then some none else accE p.op g w p.vol (accV p.op g w sg mem).1 (accV p.op g w sg mem).2 nt)=some o):(jE p.op g w=true/\o=none)\/(jE p.op g w=false/\o=some (((accV p.op g w sg mem).1,none),(accV p.op g w sg mem).2,if p.vol then nt++[zGE p.op g w (accV p.op g w sg mem).1] else nt)):=by
 cases c:jE p.op g w with
 | true=>rw[c,if_pos rfl] at h;exact .inl ⟨rfl,(Option.some.inj h).symm⟩
 | false=>rw[c,if_neg Bool.false_ne_true] at h;exact .inr ⟨rfl,(Option.some.inj h).symm⟩
theorem zHw {α:Type}{b:Bool}{x y:α}:(if b=true then x else y)=if (!b)=true then y else x:=by cases b<;>rfl
end
noncomputable section
variable {X:Cx}{n:Nat}{G:Gh}{sc:Scope}{os os' os'':List (Option Val)}{m:M}{v w:Val}
theorem zIZ {w:Int}(h:w=1\/w=2\/w=4):∃k:Nat,w=k/\k<=4:=by
 rcases h with rfl | rfl | rfl
 ·exact⟨1,rfl,by decide⟩
 ·exact⟨2,rfl,by decide⟩
 ·exact⟨4,rfl,by decide⟩
theorem zC5 {α:Type}{c d:Bool}{x o:Option (Option α)}(h:(if c=true then(if d=true then x else some none) else none)=o)(ho:∃y,o=some y):(if (!d)=true then some none else x)=o:=by
 obtain⟨y,rfl⟩:=ho
 rw[(jA h rfl).2.symm]
 exact zHw.symm
structure AccW (p:PS)(g:Gv)(w:Nat)(sg:Bool):Prop where
 A:AccP p g w sg
 eff:∀mem nt o,effT p g mem nt=some o->(if jE p.op g w then some none else accE p.op g w p.vol (accV p.op g w sg mem).1 (accV p.op g w sg mem).2 nt)=some o
theorem zDp {op:Nat}(h:w6 op=true):Nat.ble op 2=false:=(by decide:∀k:Fin 26,w6 k.1=true->Nat.ble k.1 2=false) ⟨op,uU h⟩ h
theorem zE2 {op:Nat}(h:yd op=true):Nat.ble op 2=false:=(by decide:∀k:Fin 32,yd k.1=true->Nat.ble k.1 2=false) ⟨op,zAA h⟩ h
theorem zDK {p:PS}{g:Gv}(hd:DrS p)(h:Nat.ble p.op 2=true)(hl:g.length=p.args.length):∃w sg,AccW p g w sg:=by
 have ob:∀{x:Bool},(!x||false)=!x:=λ{x}=>Bool.or_false _
 cases hd with
 | two h1 _=>rw[show Nat.ble _ 2=false from zDp h1] at h;cases h
 | one h1=>rw[show Nat.ble _ 2=false from zE2 h1] at h;cases h
 | @load d w a sg v hw ha=>
  obtain⟨k,rfl,hk⟩:=zIZ hw
  exact⟨k,sg,⟨Nat.le_of_ble_eq_true h,hk,λe=>noN e rfl,λ_=>⟨_,rfl⟩,λ_=>rfl,by rw[hl];exact Nat.zero_lt_succ _,λe=>absurd rfl e⟩,λmem nt o e=>by unfold jE;rw[show (!wG (g0 g).1 k||(decide ((0:Nat)=2)&&!wG (g1 g).1 k))=!wG (g0 g).1 k from ob];exact zC5 e ⟨_,rfl⟩⟩
 | @store w a b v hw ha=>
  obtain⟨k,rfl,hk⟩:=zIZ hw
  exact⟨k,false,⟨Nat.le_of_ble_eq_true h,hk,λ_=>rfl,λe=>absurd rfl e,λe=>noN e rfl,by rw[hl];exact Nat.zero_lt_succ _,λ_=>by rw[hl];exact Nat.lt_succ_self 1⟩,λmem nt o e=>by unfold jE;rw[show (!wG (g0 g).1 k||(decide ((1:Nat)=2)&&!wG (g1 g).1 k))=!wG (g0 g).1 k from ob];exact zC5 e ⟨_,rfl⟩⟩
 | @move a b v ha hb=>exact⟨4,false,⟨Nat.le_of_ble_eq_true h,by decide,λe=>noN e rfl,λ_=>⟨_,rfl⟩,λe=>noN e rfl,by rw[hl];exact Nat.zero_lt_succ _,λ_=>by rw[hl];exact Nat.lt_succ_self 1⟩,λmem nt o e=>by
   have q:jE 2 g 4=!(wG (g0 g).1 4&&wG (g1 g).1 4):=(Bool.not_and ..).symm
   show (if jE 2 g 4=true then _ else _)=_
   rw[q];exact zC5 e ⟨_,rfl⟩⟩
 | call=>cases h
 | slot=>cases h
 | name=>cases h
theorem zIU {kn:Kn}{o:Opd}{e:Int×Option Int}(h:argT kn o=some e)(k:0<=o.2/\o.2<sz):0<=e.1/\e.1<sz:=by
 cases c:o.1 with
 | false=>rw[yG h c];exact k
 | true=>rw[<-(yX h c).2];exact fm (by decide)
theorem zF0 {op:Nat}(h:w6 op=true\/yd op=true){k:Nat}(hk:w6 k=false/\yd k=false):decide (op=k)=false:=decide_eq_false λe=>by rw[e,hk.1,hk.2] at h;rcases h with h | h<;>cases h
structure ArP (op:Nat)(g:Gv):Prop where
 o:w6 op=true\/yd op=true
 l:(g.length=2/\w6 op=true)\/(g.length=1/\wH op=false/\yd op=true)
 r0:0<=(g0 g).1/\(g0 g).1<sz
 r1:g.length=2->(0<=(g1 g).1/\(g1 g).1<sz)/\(isSh op=true->(g1 g).1<32)
section
variable {ea ga me no:Addr}{p:PS}{g:Gv}{mem:Me}{nt:Nt}{o:Option ((Int×Option Int)×Me×Nt)}{Q:QE}
theorem ut (T:Tops X)(hp:Zh G ea p)(A:ArP p.op g)(hg:G ga=some (.list (givL g)))(he:arE p.op g mem nt=some o)(hs:MsAt me no G mem nt)(q:EffQ me no G o Q):Cal X (n+4) zW [.ref ea,.ref ga,.ref me,.ref no] G Q:=by
 obtain⟨⟨fs,la,h1,⟨f1,f2,f3,f4,f5,_⟩,h2⟩,ho⟩:=hp
 refine' Cal.start (os:=?os) T.d_law_value ?q ?b;case q=>walk_at"r"
 case b=>
 have l0:0<g.length:=by rcases A.l with ⟨e,_⟩ | ⟨e,_⟩<;>rw[e]<;>decide
 have p0:=giv0 l0
 refine .skip (.inAcc (by walk_at"r") ho) (A.o.elim zDp zE2) ?_
 refine .skip (.eqOp 9 (by walk_at"r") ho) (zF0 A.o (by decide)) ?_
 refine .skip (.eqOp 12 (by walk_at"r") ho) (zF0 A.o (by decide)) ?_
 refine .skip (.eqOp 3 (by walk_at"r") ho) (zF0 A.o (by decide)) ?_
 unfold arE at he
 have l2:wH p.op=true->g.length=2:=λe=>A.l.elim (·.1) λz=>by rw[z.2.1] at e;cases e
 have d1:g.length=2->wW (givL g) 1=some (.int (g1 g).1):=λe=>giv1 (by rw[e];decide)
 refine SnB.ifs (r:=wH p.op&&decide ((g1 g).1=0)) (.and (.inOver T (by walk_at"r") (by walk_at"r") ho) λe=>.and1 (.eqK (.idxL (by walk_at"r") hg .int (by decide) (d1 (l2 e))))) (λe=>?_) λe=>.nilT ?_
 ·rw[if_pos e] at he
  exact .retT (Rd.noneC.to (q.flt (Option.some.inj he).symm))
 rw[if_neg (by rw[e];decide)] at he
 have k:=q.ok _ _ _ (Option.some.inj he).symm G .refl hs
 refine .retB (Rd.to (v:=.int (arV p.op g)) ?_ k)
 have eL:decide (g.length=2)=decide ((g.length:Int)=2):=decide_eq_decide.mpr (by lia)
 unfold arV
 rw[zO,vL,eL]
 refine .ite (.eqK (.fn (id:="len") T.blt (by decide) (by decide) (by walk_at"r") (λ_ _=>rfl) (vs:=[.ref ga]) (by walk_at"r") (Blt.lenL hg (by rcases A.l with ⟨z,_⟩ | ⟨z,_⟩<;>rw[givL,List.length_map,z]<;>decide) ⟨by rw[givL,List.length_map],rfl⟩))) (λc=>?_) λc=>?_
 ·rw[<-eL] at c
  have c:=of_decide_eq_true c
  obtain⟨r1,r2⟩:=A.r1 c
  have ht:=A.l.elim (·.2) λz=>by rw[c] at z;exact absurd z.1 (by decide)
  exact Sn.ref T.f_law_word (by walk_at"r") (λ_ _=>rfl) (vs:=[.str (opS p.op),.int (g0 g).1,.int (g1 g).1]) (.cons (by walk_at"r") (.cons (.idxL (by walk_at"r") hg .int (by decide) p0) (.cons (.idxL (by walk_at"r") hg .int (by decide) (d1 c)) .nil))) (zBk T ht A.r0 r1 r2 (λz=>by rw[z,Bool.true_and] at e;exact of_decide_eq_false e) ⟨rfl,rfl⟩)
 ·exact Sn.ref T.f_law_turned (by walk_at"r") (λ_ _=>rfl) (vs:=[.str (opS p.op),.int (g0 g).1]) (.cons (by walk_at"r") (.cons (.idxL (by walk_at"r") hg .int (by decide) p0) .nil)) (zAV T ho ⟨rfl,rfl⟩)
end
end
noncomputable section
variable {X:Cx}{n:Nat}{G:Gh}{sc:Scope}{os os' os'':List (Option Val)}{m:M}{v w:Val}
section
variable {ea ga me no:Addr}{p:PS}{g:Gv}{mem:Me}{nt:Nt}{o:Option ((Int×Option Int)×Me×Nt)}{Q:QE}
theorem zBC (T:Tops X)(hp:Zh G ea p)(hd:DrS p)(hb:Nat.ble p.op 2=true)(hl:g.length=p.args.length)(hg:G ga=some (.list (givL g)))(hne:ga≠no)(he:effT p g mem nt=some o)(hs:MsAt me no G mem nt)(h1:mem.length<1000000)(h2:nt.length<=2000)(q:EffQ me no G o Q):Cal X (n+4) zW [.ref ea,.ref ga,.ref me,.ref no] G Q:=by
 obtain⟨w,sg,A,eff⟩:=zDK hd hb hl
 have he:=zF7 (eff mem nt o he)
 obtain⟨hm,vs,hn,hnt⟩:=hs
 obtain⟨⟨fs,la,h3,⟨f1,_,_,_,_,_⟩,_⟩,ho⟩:=id hp
 refine' Cal.start (os:=?os) T.d_law_value ?q ?b;case q=>walk_at"r"
 case b=>
 refine .take (.inAcc (by walk_at"r") ho) hb (.retT (Sn.ref T.f_law_access (by walk_at"r") (λ_ _=>rfl) (vs:=[.ref ea,.ref ga,.ref me,.ref no]) (by walk_at"r") (zAX T hp A hg hm hn h1 (by rw[hnt.len];exact h2) (λe=>?_) λe G' x m1 n1=>?_)))
 ·rcases he with ⟨_,e2⟩ | ⟨e1,_⟩
  ·exact q.flt e2
  ·rw[e] at e1;cases e1
 ·rcases he with ⟨e1,_⟩ | ⟨_,e2⟩
  ·rw[e] at e1;cases e1
  ·refine q.ok _ _ _ e2 G' x ?_
   have hnt':=hnt.map (G':=G') λa xs z e=>x _ _ (jl hm e) z e
   have hg':=x _ _ (jl hm hg) hne hg
   cases c:p.vol with
   | false=>rw[c,if_neg Bool.false_ne_true] at n1;exact⟨m1,vs,n1,hnt'⟩
   | true=>rw[c,if_pos rfl] at n1;exact⟨m1,_,n1,hnt'.snoc ⟨ga,rfl,by rw[hg',zDA];rfl,hne,.str _ (zCK _ ho)⟩⟩
theorem zAP {d s:Int}(T:Tops X)(hp:Zh G ea ⟨9,d,[],.int s,false⟩)(hs:MsAt me no G mem nt)(q:EffQ me no G (some ((4096+16 * s,some s),mem,nt)) Q):Cal X (n+4) zW [.ref ea,.ref ga,.ref me,.ref no] G Q:=by
 obtain⟨⟨fs,la,h3,⟨f1,_,_,f4,_⟩,_⟩,ho⟩:=hp
 refine' Cal.start (os:=?os) T.d_law_value ?q ?b;case q=>walk_at"r"
 case b=>
 refine .skip (.inAcc (by walk_at"r") ho) rfl ?_
 exact .take (.eqOp 9 (by walk_at"r") ho) rfl (.retT (Rd.to (.bin .int (.bin .int (w:=.int s) (by walk_at"r") (.mulL (by decide) ⟨rfl,rfl⟩)) (.add ⟨rfl,rfl⟩)) (q.ok _ _ _ rfl G .refl hs)))
theorem zAQ {d:Int}(T:Tops X)(hp:Zh G ea ⟨12,d,[],.tup [.str "g",.int 0],false⟩)(hs:MsAt me no G mem nt)(q:EffQ me no G (some ((8192,none),mem,nt)) Q):Cal X (n+4) zW [.ref ea,.ref ga,.ref me,.ref no] G Q:=by
 obtain⟨⟨fs,la,h3,⟨f1,_,_,f4,_⟩,_⟩,ho⟩:=hp
 refine' Cal.start (os:=?os) T.d_law_value ?q ?b;case q=>walk_at"r"
 case b=>
 refine .skip (.inAcc (by walk_at"r") ho) rfl ?_
 refine .skip (.eqOp 9 (by walk_at"r") ho) rfl ?_
 exact .take (.eqOp 12 (by walk_at"r") ho) rfl (.retT (Rd.to (.bin (.glob T.g_law_OBJECT (by walk_at"r")) (.idxT (vs:=[.str "g",.int 0]) (by walk_at"r") .int (by decide) rfl) (.add ⟨rfl,rfl⟩)) (q.ok _ _ _ rfl G .refl hs)))
theorem zAR {d:Int}{a b:Opd}(T:Tops X)(hp:Zh G ea ⟨3,d,[a,b],.str "poke",false⟩)(hl:1<g.length)(hg:G ga=some (.list (givL g)))(hne:ga≠no)(he:vm (.str "poke") g mem nt=some o)(hs:MsAt me no G mem nt)(h1:mem.length<1000000)(h2:nt.length<=2000)(q:EffQ me no G o Q):Cal X (n+4) zW [.ref ea,.ref ga,.ref me,.ref no] G Q:=by
 obtain⟨hm,vs,hn,hnt⟩:=hs
 obtain⟨⟨fs,la,h3,⟨f1,_,_,f4,_⟩,_⟩,ho⟩:=hp
 unfold vm at he
 have he:=Option.some.inj (jA he rfl).2
 have p0:=giv0 (Nat.lt_trans (Nat.lt_succ_self 0) hl)
 have p1:=giv1 hl
 refine' Cal.start (os:=?os) T.d_law_value ?q ?b;case q=>walk_at"r"
 case b=>
 refine .skip (.inAcc (by walk_at"r") ho) rfl ?_
 refine .skip (.eqOp 9 (by walk_at"r") ho) rfl ?_
 refine .skip (.eqOp 12 (by walk_at"r") ho) rfl ?_
 refine .take (.eqOp 3 (by walk_at"r") ho) rfl ?_
 have k:=q.ok _ _ _ he.symm
 clear q he
 refine SnB.assign (v:=.int (getW mem (g0 g).1 4)) (zEy ..▸Sn.ref T.f_law_get (by walk_at"r") (λ_ _=>rfl) (vs:=[.ref me,.int (g0 g).1,.int (4:Nat),.bool false]) (.cons (by walk_at"r") (.cons (.idxL (by walk_at"r") hg .int (by decide) p0) (.cons .int (by walk_at"r")))) (jY T hm (by decide) ⟨rfl,rfl⟩)) (by walk_at"r") ?_
 generalize getW mem (g0 g).1 4=rd at k ⊢
 refine SnB.expr (Sn.meth .append (λ_ _=>rfl) (Rd.to (v:=.ref no) (by walk_at"r") ⟨.list hn,Rds.to (vs:=[.tup [.str "poke",.ref ga,.int rd]]) (by walk_at"r") (Meth.appN hn (by rw[hnt.len];exact h2) λG1 x1 n1=>?_)⟩))
 have hm1:=x1.kind hn hm
 have hg1:=x1 _ _ hne hg
 refine SnB.expr (Sn.ref T.f_law_put (by walk_at"r") (λ_ _=>rfl) (vs:=[.ref me,.int (g0 g).1,.int (4:Nat),.int (rd * 3+(g1 g).1+(nt.length+1))]) (.cons (by walk_at"r") (.cons (.idxL (by walk_at"r") hg1 .int (by decide) p0) (.cons .int (.cons (.bin (.bin (.bin (by walk_at"r") .int (.mulR (by decide) ⟨rfl,rfl⟩)) (.idxL (by walk_at"r") hg1 .int (by decide) p1) (.add ⟨rfl,rfl⟩)) (.fn (id:="len") T.blt (by decide) (by decide) (by walk_at"r") (λ_ _=>rfl) (vs:=[.ref no]) (by walk_at"r") (Blt.lenL n1 ?_ ⟨rfl,rfl⟩)) (.add ⟨?_,rfl⟩)) .nil)))) (uF T hm1 (by decide) h1 λG2 x2 m2=>?_))
 ·rw[List.length_append,hnt.len,List.length_singleton];unfold cap;lia
 ·rw[List.length_append,hnt.len,List.length_singleton,Int.natCast_add,Int.natCast_one]
 ·have hg2:=x2.kind hm1 hg1
  refine .retT (Rd.to (v:=.int (rd * 5+(g1 g).1)) (.bin (.bin (by walk_at"r") .int (.mulR (by decide) ⟨rfl,rfl⟩)) (.idxL (by walk_at"r") hg2 .int (by decide) p1) (.add ⟨rfl,rfl⟩)) (k G2 (x1.notM.trans x2.memM) ⟨m2,_,x2.kind hm1 n1,?_⟩))
  exact(hnt.map λa xs z e=>x2.kind hm1 (x1 _ _ z e)).snoc ⟨ga,rfl,by rw[hg2,zDA],hne,.str _ (by decide +kernel)⟩
theorem zBF {kn:Kn}(T:Tops X)(hp:Zh G ea p)(hd:DrW p)(ha:wX kn p.args=some g)(hg:G ga=some (.list (givL g)))(hne:ga≠no)(he:effT p g mem nt=some o)(hs:MsAt me no G mem nt)(h1:mem.length<1000000)(h2:nt.length<=2000)(q:EffQ me no G o Q):Cal X (n+4) zW [.ref ea,.ref ga,.ref me,.ref no] G Q:=by
 have hl:=vR ha
 by_cases hb:Nat.ble p.op 2=true
 ·exact zBC T hp hd.dr hb hl hg hne he hs h1 h2 q
 obtain⟨hd,rg⟩:=hd
 have rr:∀{i:Nat} {o:Opd},p.args[i]?=some o->0<=(g.getD i (0,none)).1/\(g.getD i (0,none)).1<sz:=λho=>zIU (ui ha ho) ⟨(rg _ (List.mem_of_getElem? ho)).1,(rg _ (List.mem_of_getElem? ho)).2.2⟩
 cases hd with
 | @two op d a b t1 t2=>exact ut T hp ⟨.inl t1,.inl ⟨hl,t1⟩,rr (i:=0) rfl,λ_=>⟨rr (i:=1) rfl,λe=>by obtain⟨b1,b2⟩:=t2 e;have:=yG (ui ha (i:=1) rfl) b1;show (g.getD 1 (0,none)).1<32;rw[this];exact b2⟩⟩ hg ((u3 (zCb t1) ..).symm.trans he) hs q
 | one t1=>exact ut T hp ⟨.inr t1,.inr ⟨hl,(uZ t1).2,t1⟩,rr (i:=0) rfl,λe=>by rw[hl] at e;cases e⟩ hg ((u3 (uZ t1).1 ..).symm.trans he) hs q
 | load=>exact absurd rfl hb
 | store=>exact absurd rfl hb
 | move=>exact absurd rfl hb
 | call=>exact zAR T hp (by rw[hl];exact Nat.lt_succ_self 1) hg hne he hs h1 h2 q
 | slot=>exact zAP T hp hs (Option.some.inj he▸q)
 | name=>exact zAQ T hp hs (Option.some.inj he▸q)
end
end
noncomputable section
variable {X:Cx}{n:Nat}{G:Gh}{sc:Scope}{os os' os'':List (Option Val)}{m:M}{v w:Val}
inductive GvI (G0:Gh)(f:Opd->Int)(goal:List Int)(xs acc:List Val)(G:Gh):Prop where
 | mk (as:List Opd) (ds:List Int) (e1:xs=as.map opdV) (e2:acc=ds.map .int) (eG:G=G0) (hg:ds++as.map f=goal)
theorem SnB.given {Q:QS}{elt it:Expr}{scope:Scope}{kk:Nat}{p1 p2 p3 np cpos pos:Pos}{sts:List Stmt}{la kd:Addr}{args:List Opd}(f:Opd->Int){sc':Scope}(hok:jD sc scope=true)(he:Rd X n sc it (L sc os) G (.ref la))(hla:G la=some (.list (args.map opdV)))(hl:args.length<=8)
  (elt_ok:∀o,Rd X n sc' elt (L sc' [none,some (.str (rk o.1)),some (.int o.2),some (.ref kd)]) G (.int (f o)))
  (bnd:∀o:Opd,Bnd X true sc' (.Tuple [.Name "kind" p1,.Name "value" p2] kk p3) (opdV o) (L sc' [none,none,none,some (.ref kd)]) (L sc' [none,some (.str (rk o.1)),some (.int o.2),some (.ref kd)]))
  (hm:∀y w,Loc sc'.names [none,none,none,some (.ref kd)] y w->capM sc scope (L sc os) y w)
  (k:∀gi G',G gi=none->Ext G G'->G' gi=some (.list ((args.map f).map .int))->∃os',Upd false sc.names os "given" (.ref gi) os'/\SnB X n sc sts (L sc os') G' Q) (e:relS sc scope=sc':=by rfl)
  (hs:∀env x,foldedSetIterable it env x=pure x:=by intro _ _;rfl):SnB X n sc (.Assign [.Name "given" np] (.ListComp elt [⟨.Tuple [.Name "kind" p1,.Name "value" p2] kk p3,it,[],0⟩] scope cpos) pos::sts) (L sc os) G Q:=by
 refine .cons (SnS.assignComp hok (.seq (he.to ⟨_,_,.list hla,by rw[List.length_map];unfold cap;omega,GvI G f (args.map f),.cap (sc':=sc') [none,none,none,some (.ref kd)] ⟨?_,?_⟩ hm e,⟨args,[],rfl,rfl,rfl,rfl⟩⟩)) hs)
 ·intro x xs acc G1 hI
  obtain⟨as,ds,e1,rfl,rfl,hg⟩:=hI
  cases as with
  | nil=>cases e1
  | cons o as=>
   obtain⟨rfl,rfl⟩:=List.cons.inj e1
   exact⟨hla,_,bnd o,.nil ⟨λ_=>(elt_ok o).to ⟨as,ds++[f o],rfl,by rw[List.map_append];rfl,rfl,by rw[<-hg,List.append_assoc];rfl⟩,λq=>nomatch q⟩⟩
 ·intro acc G1 hI
  obtain⟨as,ds,e1,rfl,rfl,hg⟩:=hI
  cases as with
  | cons=>cases e1
  | nil=>
   have hg:ds=args.map f:=by rw[<-hg];exact(List.append_nil ds).symm
   subst hg
   refine⟨hla,λgi hgi=>?_⟩
   obtain⟨os',u,q⟩:=k gi _ hgi (.new hgi) (Gh.upd_same ..)
   exact⟨_,u.put,.next q⟩
noncomputable def knE (kn:Kn):List (Int×Val):=kn.map λe=>(e.1,.int e.2.1)
noncomputable def knG (kn:Kn)(r:Int):Int:=((lk kn r).map (·.1)).getD 77
theorem zHo (kn:Kn)(r:Int):(zq (knE kn) r).getD (.int 77)=.int (knG kn r):=by
 have e:zq (knE kn) r=(lk kn r).map λz=>Val.int z.1:=zEh (λz:Int×Option Int=>Val.int z.1) kn r
 unfold knG
 rw[e]
 cases lk kn r<;>rfl
theorem zJE (kn:Kn)(d:Int)(e:Int×Option Int):st (knE kn) d (.int e.1)=knE (st kn d e):=(zBB (λz:Int×Option Int=>Val.int z.1) kn d e).symm
noncomputable def zEv (kn:Kn)(o:Opd):Int:=if o.1 then knG kn o.2 else o.2
theorem zGS {kn:Kn}:∀{args:List Opd} {g:Gv},wX kn args=some g->(args.map (zEv kn)).map Val.int=givL g:=λ{args}=>by
 induction args with
 | nil=>exact λh=>by rw[<-Option.some.inj h];rfl
 | cons a l ih=>
  intro g h
  obtain⟨h1,g',h2,h3⟩:=jx h
  have e:zEv kn a=(g0 g).1:=by
   unfold zEv
   cases c:a.1 with
   | false=>rw[yG h1 c];rfl
   | true=>unfold knG;rw[(yX h1 c).1];rfl
  rw[List.map_cons,List.map_cons,ih h2,e,h3];rfl
theorem Rd.knGet {o e:Expr}{kd:Addr}{kn:Kn}{r:Int}{k:Nat}{p1 p2 pos:Pos}(h:Rd X n sc o m G (.ref kd))(hk:G kd=some (.dict (knE kn)))(he:Rd X n sc e m G (.int r))(hn:Zj [e,.Constant (.int 77) k p1]:=by exact λ_ _=>rfl)(hs:NS e:=by intro _ _;rfl)
  (h1:∀env whole,attributeBase o "get" env whole=whole:=by intro _ _;rfl) (h2:(p2.endLine == pos.line)=true:=by rfl):Rd X n sc (.Call (.Attribute o "get" p2) [e,.Constant (.int 77) k p1] [] pos) m G (.int (knG kn r)):=
 Sn.meth .get hn (h.to ⟨.dict hk,Rds.to (vs:=[.int r,.int 77]) (.cons he (.cons .int .nil (λ_=>rfl)) (hs _)) (Meth.get hk ⟨zHo kn r,rfl⟩)⟩) h1 h2 rfl
theorem zId {e:Expr}{b:Bool}{kd:Nat}{p pos:Pos}(h:Rd X n sc e m G (.str (rk b))):RdT X n sc (.Compare e [.Eq] [.Constant (.str "r") kd p] pos) m G b:=.cmp h .str (.eqS ⟨by rw[show (rk b == ("r" : Str))=b from rk_r b],rfl⟩)
end
noncomputable section
variable {X:Cx}{n:Nat}{G:Gh}{sc:Scope}{os os' os'':List (Option Val)}{m:M}{v w:Val}
theorem zIX {op:Nat}{g:Gv}{w:Nat}{sg:Bool}{mem:Me}(hw:w<=4):(accV op g w sg mem).2.length<=mem.length+4:=by
 have h:=λv=>Nat.le_trans (zET mem (g0 g).1 v w) (Nat.add_le_add_left hw _)
 unfold accV
 by_cases c:op=0
 ·rw[if_pos c];exact Nat.le_add_right _ _
 ·rw[if_neg c]
  by_cases c:op=1
  ·rw[if_pos c];exact h _
  ·rw[if_neg c];exact h _
structure LenE (mem:Me)(nt:Nt)(mem':Me)(nt':Nt):Prop where
 m:mem'.length<=mem.length+4
 n:nt'.length<=nt.length+1
theorem LenE.same {mem:Me}{nt:Nt}:LenE mem nt mem nt:=⟨Nat.le_add_right _ _,Nat.le_succ _⟩
theorem zIE {p:PS}{g:Gv}{mem:Me}{nt:Nt}{e:Int×Option Int}{mem':Me}{nt':Nt}(hd:DrS p)(hl:g.length=p.args.length)(h:effT p g mem nt=some (some (e,mem',nt'))):LenE mem nt mem' nt':=by
 have same:mem=mem'/\nt=nt'->LenE mem nt mem' nt':=λ⟨a,b⟩=>a▸b▸.same
 by_cases hb:Nat.ble p.op 2=true
 ·obtain⟨w,sg,A,eff⟩:=zDK hd hb hl
  rcases zF7 (eff mem nt _ h) with ⟨_,q⟩ | ⟨_,q⟩
  ·cases q
  ·have q:=Option.some.inj q
   have e2:mem'=(accV p.op g w sg mem).2:=congrArg (λz=>z.2.1) q
   have e3:nt'=if p.vol then nt++[zGE p.op g w (accV p.op g w sg mem).1] else nt:=congrArg (λz=>z.2.2) q
   rw[e2,e3]
   refine⟨zIX A.w4,?_⟩
   cases p.vol with
   | true=>rw[if_pos rfl,List.length_append];exact Nat.le_refl _
   | false=>exact Nat.le_succ _
 ·unfold effT at h
  have nb:∀{k:Nat},Nat.ble k 2=true->kd p.op≠k:=λhk q=>hb (by rw[zGu q (Nat.le_trans (Nat.le_of_ble_eq_true hk) (by decide))];exact hk)
  rw[if_neg (nb rfl),if_neg (nb rfl),if_neg (nb rfl)] at h
  by_cases c:kd p.op=3
  ·rw[if_pos c] at h
   have q:=Option.some.inj (Option.some.inj (jA h rfl).2)
   have e2:=congrArg (λz=>z.2.1) q
   have e3:=congrArg (λz=>z.2.2) q
   rw[<-show _=mem' from e2,<-show _=nt' from e3]
   exact⟨zET _ _ _ 4,by rw[List.length_append];exact Nat.le_refl _⟩
  ·rw[if_neg c] at h
   have val:∀{x:Int×Option Int},some (some (x,mem,nt))=some (some (e,mem',nt'))->LenE mem nt mem' nt':=λq=>same ⟨congrArg (λz=>z.2.1) (Option.some.inj (Option.some.inj q)),congrArg (λz=>z.2.2) (Option.some.inj (Option.some.inj q))⟩
   by_cases c:kd p.op=4
   ·rw[if_pos c] at h;exact val h
   ·rw[if_neg c] at h
    by_cases c:kd p.op=5
    ·rw[if_pos c] at h;exact val h
    ·rw[if_neg c] at h
     unfold arE at h
     by_cases c:(wH p.op&&decide ((g1 g).1=0))=true
     ·rw[if_pos c] at h;cases h
     ·rw[if_neg c] at h;exact val h
structure RunH (G0:Gh)(kd me no:Addr)(s:MSt)(G:Gh):Prop where
 x:Ext G0 G
 k:G kd=some (.dict (knE s.1))
 ms:MsAt me no G s.2.1 s.2.2
structure Frsh (G0:Gh)(kd me no:Addr):Prop where
 k:G0 kd=none
 m:G0 me=none
 n:G0 no=none
 km:kd≠me
theorem RunH.new {G0 G':Gh}{kd me no:Addr}{s:MSt}(h:RunH G0 kd me no s G)(x:Ext G G'):RunH G0 kd me no s G':=by
 obtain⟨x0,k,m,vs,hn,ht⟩:=h
 exact⟨x0.trans x,x _ _ k,x _ _ m,vs,x _ _ hn,ht.map λa xs _ e=>x _ _ e⟩
theorem RunH.mem {G0 G':Gh}{kd me no:Addr}{s:MSt}{mem:Me}{nt:Nt}(f:Frsh G0 kd me no)(h:RunH G0 kd me no s G)(x:ExtM me no G G')(q:MsAt me no G' mem nt):RunH G0 kd me no (s.1,mem,nt) G':=by
 obtain⟨vs,hn,_⟩:=h.ms.n
 exact⟨λa o e=>x a o (λq=>by rw[q,f.m] at e;cases e) (λq=>by rw[q,f.n] at e;cases e) (h.x a o e),x _ _ f.km (jl hn h.k) h.k,q⟩
theorem RunH.known {G0 G':Gh}{kd me no:Addr}{s:MSt}{kn:Kn}(f:Frsh G0 kd me no)(h:RunH G0 kd me no s G)(x:Ext1 kd G G')(q:G' kd=some (.dict (knE kn))):RunH G0 kd me no (kn,s.2) G':=by
 obtain⟨x0,k,m,vs,hn,ht⟩:=h
 exact⟨λa o e=>x a o (λq=>by rw[q,f.k] at e;cases e) (x0 a o e),q,x _ _ f.km.symm m,vs,x.kind k hn,ht.map λa xs _ e=>x.kind k e⟩
inductive Yi (G0:Gh)(o:Out1)(r:Addr)(G:Gh):Prop where
 | mk (no:Addr) (vs:List Val) (x:Ext G0 G) (h1:G r=some (.list [o.1,.ref no,.int o.2.2])) (h2:G no=some (.list vs)) (h3:NtAt no G o.2.1 vs) (ha:Atom o.1)
theorem RunH.res {G0 G':Gh}{kd me no r:Addr}{s:MSt}{v:Val}{i:Int}(h:RunH G0 kd me no s G)(x:Ext G G')(q:G' r=some (.list [v,.ref no,.int i]))(ha:Atom v):Yi G0 (v,s.2.2,i) r G':=by
 obtain⟨x0,k,m,vs,hn,ht⟩:=h.new x
 exact⟨no,vs,x0,q,hn,ht,ha⟩
theorem Rd.obj {me:Addr}{mem:Me}{e1:Expr}{k1 k2:Nat}{p1 p2 p3 p4 pos:Pos}(T:Tops X)(hk:Ze sc "_law_get")(hk2:Ze sc "_law_OBJECT")(h:Rd X (n+1) sc e1 m G (.ref me))(hm:G me=some (.dict (adE mem)))(hn:Zj [e1,.Name "_law_OBJECT" p2,.Constant (.int 8) k1 p3,.Constant (.bool false) k2 p4]:=by exact λ_ _=>rfl)(hs:NS e1:=by intro _ _;rfl) :
  Rd X (n+1) sc (.Call (.Name "_law_get" p1) [e1,.Name "_law_OBJECT" p2,.Constant (.int 8) k1 p3,.Constant (.bool false) k2 p4] [] pos) m G (.int (getW mem 8192 8)):=
 zEy ..▸Sn.ref T.f_law_get hk hn (vs:=[.ref me,.int 8192,.int (8:Nat),.bool false]) (.cons h (.cons (.glob T.g_law_OBJECT hk2) (.cons .int (.cons .tru .nil (λ_=>rfl)) (λ_=>rfl)) (λ_=>rfl)) (hs _)) (jY T hm (by decide) ⟨rfl,rfl⟩)
end
noncomputable section
variable {X:Cx}{n:Nat}{G:Gh}{sc:Scope}{os os' os'':List (Option Val)}{m:M}{v w:Val}
noncomputable abbrev rnL (body kd me no:Addr)(at_:Int)(vi ea va gi en pl:Option Val):M:=L yf [some (.ref body),some (.ref kd),some (.ref me),some (.ref no),some (.int at_),vi,ea,va,gi,en,pl,none,none,none,none,none,none]
noncomputable def zG1 (Bs:List PB)(k:Nat)(B:PB)(r:Bool×MSt):Option Out1:=if r.1 then(endV B.fin r.2.1).bind λv=>if B.fin.op=35 then some (outT (.int v) r.2) else(B.ways[wayI B.fin B.ways v]?).bind λj=>runG Bs k j r.2 else some (outT (.str "fault") r.2)
structure RunC (c:Nat)(s:MSt):Prop where
 m:s.2.1.length<=4 * c
 n:s.2.2.length<=c
 k:s.1.length<=c
theorem RunC.up {c d:Nat}{s:MSt}(h:RunC c s)(l:c<=d):RunC d s:=⟨Nat.le_trans h.m (Nat.mul_le_mul_left 4 l),Nat.le_trans h.n l,Nat.le_trans h.k l⟩
theorem RunC.step {c:Nat}{s:MSt}{d:Int}{e:Int×Option Int}{mem':Me}{nt':Nt}(h:RunC c s)(l:LenE s.2.1 s.2.2 mem' nt'):RunC (c+1) (setK s.1 d e,mem',nt'):=by
 refine⟨Nat.le_trans l.m (Nat.add_le_add_right h.m 4),Nat.le_trans l.n (Nat.succ_le_succ h.n),?_⟩
 show (setK s.1 d e).length<=_
 unfold setK
 by_cases c:0<=d
 ·rw[if_pos c];exact Nat.le_trans (ur _ _ _) (Nat.succ_le_succ h.k)
 ·rw[if_neg c];exact Nat.le_succ_of_le h.k
noncomputable def RnI (G0:Gh)(body kd me no:Addr)(at_:Int)(vi en pl:Option Val)(Bs:List PB)(k:Nat)(B:PB)(o:Out1)(c:Nat)(ps:List PS)(m:M)(G:Gh):Prop:=
 ∀C:M->Prop,(∀(s:MSt) (c1:Nat) (ea va gi:Option Val),RunH G0 kd me no s G->(∀p∈ps,DrW p)->(runS ps s).bind (zG1 Bs k B)=some o->RunC c1 s->c1+ps.length<=c->C (rnL body kd me no at_ vi ea va gi en pl))->C m
theorem zEA {p:PS}{ps:List PS}{s:MSt}{Bs:List PB}{k:Nat}{B:PB}{o:Out1}(h:(runS (p::ps) s).bind (zG1 Bs k B)=some o):∃g o',wX s.1 p.args=some g/\effT p g s.2.1 s.2.2=some o'/\(o'=none->o=outT (.str "fault") s)/\∀r,o'=some r->(runS ps (setK s.1 p.dst r.1,r.2)).bind (zG1 Bs k B)=some o:=by
 obtain⟨q,h1,h2⟩:=Option.bind_eq_some_iff.mp h
 rw[wx] at h1
 obtain⟨z,h3,h4⟩:=Option.bind_eq_some_iff.mp h1
 obtain⟨g,o',h5,h6,rfl⟩:=zAN h3
 refine⟨g,o',h5,h6,λe=>?_,λr e=>?_⟩
 ·subst e
  have h4:some (false,s)=some q:=h4
  rw[<-Option.some.inj h4] at h2
  exact(Option.some.inj h2).symm
 ·subst e
  have h4:runS ps (setK s.1 p.dst r.1,r.2)=some q:=h4
  rw[h4];exact h2
theorem zKA {c:Nat}{s:MSt}(h:RunC c s)(hc:c<=1000):s.2.1.length<1000000/\s.2.2.length<=2000:=⟨Nat.lt_of_le_of_lt (Nat.le_trans h.m (Nat.mul_le_mul_left 4 hc)) (by decide),Nat.le_trans h.n (Nat.le_trans hc (by decide))⟩
theorem c39 {i:Nat}(h:i<20):39 * (i+1)<=1000:=Nat.le_trans (Nat.mul_le_mul_left 39 h) (by decide)
structure FinR (f:PS):Prop where
 few:f.args.length<=8
 reg:f.op≠32->∃r,f.args=[(true,r)]
 tab:f.op=34->∃k l d,f.more=.tup [.int k,l,d]
theorem zIA {e:PS}{kn:Kn}{v:Int}(h:endV e kn=some v)(n:e.op≠32)(f:FinR e):∃r,e.args=[(true,r)]/\knG kn r=v:=by
 obtain⟨r,hr⟩:=f.reg n
 unfold endV at h
 rw[if_neg n,hr] at h
 obtain⟨g,h1,h2⟩:=Option.map_eq_some_iff.mp h
 refine⟨r,hr,?_⟩
 unfold knG
 rw[(yX (jx h1).1 rfl).1];exact h2
structure BsR (Bs:List PB):Prop where
 len:Bs.length<=16
 st:∀B∈Bs,(∀p∈B.steps,DrW p)/\B.steps.length<=39/\FinR B.fin/\∀j∈B.ways,(0:Int)<=j
noncomputable def VsI (G0:Gh)(body kd me no:Addr)(Bs:List PB)(o:Out1)(i:Nat)(m:M)(G:Gh):Prop:=
 ∀C:M->Prop,(∀(at_:Int) (s:MSt) (vi ea va gi en pl:Option Val),0<=at_->RunH G0 kd me no s G->runG Bs (20 - i) at_ s=some o->RunC (39 * i) s->C (rnL body kd me no at_ vi ea va gi en pl))->C m
theorem SnB.els {Q:QS}{t:Expr}{a c sts:List Stmt}{pos:Pos}{r:Bool}(h:RdT X n sc t m G r)(hr:r=false)(k:SnB X n sc c m G (Then X n sc sts Q)):SnB X n sc (.If t a c pos::sts) m G Q:=.ifs h (λe=>by rw[hr] at e;cases e) λ_=>k
theorem zFa {f:PS}{i v j:Int}(h:f.op=32)(hj:[i][wayI f [i] v]?=some j):i=j:=by
 unfold wayI at hj
 rw[if_pos h] at hj
 exact Option.some.inj hj
theorem zHE {f:PS}{i1 i2 v j:Int}(h:f.op=33)(hj:[i1,i2][wayI f [i1,i2] v]?=some j):(if (!(v == 0))=true then Val.int i1 else Val.int i2)=.int j:=by
 unfold wayI at hj
 rw[if_neg (by rw[h];decide),if_pos h] at hj
 by_cases c:v=0
 ·rw[if_pos c] at hj
  rw[c,<-Option.some.inj hj];rfl
 ·rw[if_neg c] at hj
  rw[if_pos (by rw[beq_eq_false_iff_ne.mpr c];rfl),<-Option.some.inj hj]
theorem zHD {f:PS}{js:List Int}{d k v j:Int}{a b:Val}(h:f.op=34)(hm:f.more=.tup [.int k,a,b])(hj:(js++[d])[wayI f (js++[d]) v]?=some j):(Int.fmod (v - k) sz<js.length->wW (js.map Val.int) (Int.fmod (v - k) sz)=some (.int j))/\(¬Int.fmod (v - k) sz<js.length->d=j):=by
 unfold wayI at hj
 have hk:zD2 f.more=k:=by rw[hm];rfl
 have hl:(((js++[d]).length:Nat):Int) - 1=js.length:=by rw[List.length_append,List.length_singleton,Int.natCast_add];exact Int.add_sub_cancel _ 1
 have h0:=(fm (x:=v - k) (k:=sz) (by decide)).1
 rw[if_neg (by rw[h];decide),if_neg (by rw[h];decide),hk,hl] at hj
 refine⟨λc=>?_,λc=>?_⟩
 ·rw[if_pos c,List.getElem?_append_left ((Int.toNat_lt h0).mpr c)] at hj
  have:=zV (f:=Val.int) hj
  rw[Int.toNat_of_nonneg h0] at this
  exact this
 ·rw[if_neg c,List.length_append,List.length_singleton,Nat.add_sub_cancel,List.getElem?_append_right (Nat.le_refl _),Nat.sub_self] at hj
  exact Option.some.inj hj
theorem vq {body:Addr}{pr:List Int}{sl:Zg}{bls:List Addr}{Bs:List PB}{o:Out1}{Q:QE}(T:Tops X)(hf:Zk G body pr sl bls)(hB:Zd G 0 bls Bs)(ok:BsR Bs)(hrun:runG Bs 20 0 s00=some o)(kk:∀r G',Yi G o r G'->Q (.ref r) G'):Cal X (n+5) yk [.ref body] G Q:=by
 refine' Cal.start (os:=?os) T.d_law_run ?q ?b;case q=>walk_at"r"
 case b=>
 refine .cons (.assignT (Sn.tup (SnEs.cons (Sn.dictN λkd G1 hk x1 k1=>SnEs.cons (Sn.dictN λme G2 hm x2 m2=>SnEs.cons (Sn.listN .nil λno G3 hn x3 n3=>SnEs.cons (Rd.to (v:=.int 0) .int (SnEs.nil ⟨by show 4<cap;decide,_,.tup (.cons (Upd.bnd (os':=[some (.ref body),some (.ref kd),none,none,none,none,none,none,none,none,none,none,none,none,none,none,none]) (by walk_at"r")) (.cons (Upd.bnd (os':=[some (.ref body),some (.ref kd),some (.ref me),none,none,none,none,none,none,none,none,none,none,none,none,none,none]) (by walk_at"r")) (.cons (Upd.bnd (os':=[some (.ref body),some (.ref kd),some (.ref me),some (.ref no),none,none,none,none,none,none,none,none,none,none,none,none,none]) (by walk_at"r")) (.cons (Upd.bnd (os':=[some (.ref body),some (.ref kd),some (.ref me),some (.ref no),some (.int 0),none,none,none,none,none,none,none,none,none,none,none,none]) (by walk_at"r")) .nil)))),.next ?_⟩)) (λ_=>rfl)) (λ_=>rfl)) (λ_=>rfl)) (λ_=>rfl))))
 have fr:Frsh G kd me no:=⟨hk,x1.none hm,(x1.trans x2).none hn,λq=>by rw[q,hm] at k1;cases k1⟩
 have h0:RunH G kd me no s00 G3:=⟨(x1.trans x2).trans x3,x3 _ _ (x2 _ _ k1),x3 _ _ m2,[],n3,.nil⟩
 clear hk hm hn x1 k1 x2 m2 x3 n3
 refine SnB.forRM 20 T.blt (by walk_at"r") .int (by decide) (VsI G body kd me no Bs o) (λ_ k=>k 0 s00 none none none none none none (Int.le_refl 0) h0 hrun ⟨Nat.zero_le _,Nat.zero_le _,Nat.zero_le _⟩) (λi m G4 QT hi hI hN hR=>?_) λm G4 hI=>?_
 ·clear h0 hrun
  apply hI
  intro at_ s vi ea va gi en pl a0 h run hc
  refine⟨_,.name (Upd.put (os':=[some (.ref body),some (.ref kd),some (.ref me),some (.ref no),some (.int at_),some (.int i),ea,va,gi,en,pl,none,none,none,none,none,none]) (by walk_at"r")),?_⟩
  have hR:∀{v m G'},Q v G'->QT (.ret v) m G':=λq=>hR (.ret q)
  rw[zFg hi,jt] at run
  obtain⟨B,hBi,run⟩:=Option.bind_eq_some_iff.mp run
  have run:(runS B.steps s).bind (zG1 Bs (20 - (i+1)) B)=some o:=run
  obtain⟨oks,okl,okf,okw⟩:=ok.st B (List.mem_of_getElem? hBi)
  obtain⟨b,hbi,⟨sts,eo,⟨fbb,stl,q1,⟨b1,b2,b3⟩,q3⟩,s2,s3,s4⟩⟩:=hB.get hBi
  have hat:wW (bls.map Val.ref) at_=some (.ref b):=by have:=zV (f:=Val.ref) hbi;rw[Int.toNat_of_nonneg a0] at this;exact this
  have hcap:at_.natAbs<cap:=zp a0 (Nat.lt_of_lt_of_le (List.getElem?_eq_some_iff.mp hBi).1 (Nat.le_trans ok.len (by decide)))
  obtain⟨ff,fp,fl,fb,f1,⟨g1,g2,g3⟩,f2,f3,f4⟩:=hf
  have rb:∀{G':Gh} {vi ea va gi en pl:Option Val} {p1 p2 p3 p4:Pos},Ext G G'->Rd X (n+4) yf (.Subscript (.Attribute (.Name "body" p1) "blocks" p2) (.Name "at" p3) p4) (rnL body kd me no at_ vi ea va gi en pl) G' (.ref b):=λx=>by
   have f1:=x _ _ f1
   exact .idxL (by walk_at"r") (x _ _ f4) (by walk_at"r") hcap hat
  have c39:=c39 hi
  refine SnB.forSt (a:=stl) (.attr T.cls .steps (rb h.x) (h.x _ _ q1) b2) (h.x _ _ q3) s2 (RnI G body kd me no at_ (some (.int i)) en pl Bs (20 - (i+1)) B o (39 * (i+1))) (λ_ k=>k s (39 * i) ea va gi h oks run hc (Nat.add_le_add_left okl _)) (λps m G5 hJ=>hJ (λ_=>_) λ_ _ _ _ _ h _ _ _ _=>h.x _ _ q3) (λa p ps m G5 QU hs1 hJ hM hS=>?_) (λm G5 hJ=>?_)
  ·clear hN h run hc a0 oks okl okf okw s3 s4 hat hcap f1 f4
   apply hJ
   intro s c1 ea va gi h hd run hc le
   refine⟨_,.name (Upd.put (os':=[some (.ref body),some (.ref kd),some (.ref me),some (.ref no),some (.int at_),some (.int i),some (.ref a),va,gi,en,pl,none,none,none,none,none,none]) (by walk_at"r")),?_⟩
   have hS:∀{v m G'},Q v G'->QU (.ret v) m G':=λq=>hS (hR q)
   obtain⟨g,o',hg,he,hflt,hok⟩:=zEA run
   have c1k:=Nat.le_trans (Nat.le_add_right _ _) (Nat.le_trans le c39)
   obtain⟨c6,c7⟩:=zKA hc c1k
   have hst:=hs1.ext h.x
   obtain⟨⟨fs,la,h1,⟨p1,p2,p3,p4,p5,_⟩,h2⟩,ho⟩:=id hst
   refine SnB.given (la:=la) (kd:=kd) (args:=p.args) (zEv s.1) (sc':=zA5) (by decide +kernel) (by walk_at"r") h2 ((zIH (hd p (.head _))).few) (λo=>?_) (λo=>.tup (.two (os':=[none,some (.str (rk o.1)),none,some (.ref kd)]) (by walk_at"r") (by walk_at"r"))) (capn (capn (capn (capv ⟨by walk_at"r",by walk_at"r",by walk_at"r"⟩ cap0)))) λgi G6 hgi x6 l6=>⟨_,by walk_at"r",?_⟩
   ·rw[show Val.int (zEv s.1 o)=if o.1=true then .int (knG s.1 o.2) else .int o.2 from zO]
    exact .ite (zId (by walk_at"r")) (λ_=>.knGet (by walk_at"r") h.k (by walk_at"r")) λ_=>by walk_at"r"
   ·rw[zGS hg] at l6
    have hne:gi≠no:=λq=>by obtain⟨vs,hn,_⟩:=h.ms.n;rw[q,hn] at hgi;cases hgi
    have h6:=h.new x6
    refine SnB.assignQ (Sn.ref T.f_law_value (by walk_at"r") (λ_ _=>rfl) (vs:=[.ref a,.ref gi,.ref me,.ref no]) (by walk_at"r") (zBF T (hst.ext x6) (hd p (.head _)) hg l6 hne he h6.ms c6 c7 ⟨λe=>⟨_,by walk_at"r",?_⟩,λe mem' nt' e' G7 x7 m7=>⟨_,by walk_at"r",?_⟩⟩))
    ·refine .take (.cmp (by walk_at"r") .noneC (.isNone ⟨rfl,rfl⟩)) rfl (.ret (Sn.listN (vs:=[.str "fault",.ref no,.int (getW s.2.1 8192 8)]) (.cons (by walk_at"r") (.cons (by walk_at"r") (.cons (.obj T (by walk_at"r") (by walk_at"r") (by walk_at"r") h6.ms.m) .nil))) λr G8 hr x8 r8=>?_))
     rw[hflt e] at kk
     exact .ret (hS (kk r G8 (h6.res x8 r8 (.str _ (by decide +kernel)))))
    ·subst e'
     have run':=hok _ rfl
     have hc':=hc.step (d:=p.dst) (e:=e) (zIE (hd p (.head _)).dr (vR hg) he)
     have h7:=h6.mem fr x7 m7
     obtain⟨vs6,n6,_⟩:=h6.ms.n
     have h1':=x7 _ _ (jl h6.ms.m (x6 _ _ h1)) (jl n6 (x6 _ _ h1)) (x6 _ _ h1)
     refine .skip (.cmp (by walk_at"r") .noneC (.isNoneI ⟨rfl,rfl⟩)) rfl ?_
     refine SnB.ifs (r:=decide (p.dst >= 0)) (.cmp (by walk_at"r") .int (.ge ⟨rfl,rfl⟩)) (λq=>?_) λq=>?_
     ·have e1:setK s.1 p.dst e=st s.1 p.dst (Int.fmod e.1 sz,e.2):=if_pos (of_decide_eq_true q)
      rw[e1] at run' hc'
      refine SnB.setIdxQ (Rd.to (v:=.int (Int.fmod e.1 sz)) (.bin (by walk_at"r") (.glob T.g_law_SIZE (by walk_at"r")) (.mod (by decide) ⟨rfl,rfl⟩)) ⟨kd,_,p.dst,by walk_at"r",by walk_at"r",h7.k,?_,λG8 x8 k8=>?_⟩)
      ·unfold knE
       rw[List.length_map];exact Nat.le_trans hc.k (Nat.le_trans c1k (by decide))
      ·rw[show st (knE (s.1,mem',nt').1) p.dst (.int (Int.fmod e.1 sz))=knE (st s.1 p.dst (Int.fmod e.1 sz,e.2)) from zJE s.1 p.dst (Int.fmod e.1 sz,e.2)] at k8
       exact .nil (.next (.nil (hM λ_ k=>k _ (c1+1) _ _ _ (h7.known fr x8 k8) (zH hd) run' hc' (zHS le))))
     ·have e1:setK s.1 p.dst e=s.1:=if_neg (of_decide_eq_false q)
      rw[e1] at run' hc'
      exact .nil (.next (.nil (hM λ_ k=>k _ (c1+1) _ _ _ h7 (zH hd) run' hc' (zHS le))))
  ·apply hJ
   intro s c1 ea va gi h _ run hc le
   obtain⟨v,hv,run⟩:=Option.bind_eq_some_iff.mp (show (endV B.fin s.1).bind _=some o from run)
   have hx:=h.x
   refine SnB.assign (v:=.ref eo) (.attr T.cls .end_ (rb hx) (hx _ _ q1) b3) (by walk_at"r") ?_
   have he:=s3.ext hx
   obtain⟨⟨fs,la,h1,⟨p1,p2,p3,p4,p5,_⟩,h2⟩,ho⟩:=id he
   refine SnB.given (la:=la) (kd:=kd) (args:=B.fin.args) (λo=>knG s.1 o.2) (sc':=zA4) (by decide +kernel) (by walk_at"r") h2 okf.few (λo=>.knGet (by walk_at"r") h.k (by walk_at"r")) (λo=>.tup (.two (os':=[none,some (.str (rk o.1)),none,some (.ref kd)]) (by walk_at"r") (by walk_at"r"))) (capn (capn (capn (capv ⟨by walk_at"r",by walk_at"r",by walk_at"r"⟩ cap0)))) λgi G6 hgi x6 l6=>⟨_,by walk_at"r",?_⟩
   have h:=h.new x6
   have h1:=x6 _ _ h1
   have giv:B.fin.op≠32->wW ((B.fin.args.map λo=>knG s.1 o.2).map Val.int) 0=some (.int v):=λn=>by
    obtain⟨r,e1,e2⟩:=zIA hv n okf
    rw[e1,<-e2];rfl
   refine SnB.ifs (r:=decide (B.fin.op=35)) (.eqOp 35 (by walk_at"r") ho) (λq=>?_) λq=>.nilT ?_
   ·have q:=of_decide_eq_true q
    rw[if_pos q] at run
    refine .ret (Sn.listN (vs:=[.int v,.ref no,.int (getW s.2.1 8192 8)]) (.cons (.idxL (by walk_at"r") l6 .int (by decide) (giv (by rw[q];decide))) (.cons (by walk_at"r") (.cons (.obj T (by walk_at"r") (by walk_at"r") (by walk_at"r") h.ms.m) .nil))) λr G8 hr x8 r8=>?_)
    rw[<-Option.some.inj run] at kk
    exact .ret (hR (kk r G8 (h.res x8 r8 (.int _))))
   have q:=of_decide_eq_false q
   rw[if_neg q] at run
   obtain⟨j,hj,run⟩:=Option.bind_eq_some_iff.mp run
   have j0:=okw j (List.mem_of_getElem? hj)
   have fin:∀{pl:Option Val},VsI G body kd me no Bs o (i+1) (rnL body kd me no j (some (.int i)) ea va (some (.ref gi)) (some (.ref eo)) pl) G6:=λ_ k=>k j s _ _ _ _ _ _ j0 h run (hc.up le)
   generalize hw:B.ways=ws at s4 hj
   cases s4 with
   | @jump i' h32 e=>
    have h32:=Nat.eq_of_beq_eq_true h32
    rw[e] at p4
    obtain rfl:=zFa h32 hj
    exact .take (.eqOp 32 (by walk_at"r") ho) (decide_eq_true h32) (.assign (v:=.int i') (by walk_at"r") (by walk_at"r") (.nil (.next (.nil (hN fin)))))
   | @branch i1 i2 h33 e=>
    have h33:=Nat.eq_of_beq_eq_true h33
    rw[e] at p4
    have e2:=zHE h33 hj
    have p0:=giv (by rw[h33];decide)
    exact .els (.eqOp 32 (by walk_at"r") ho) (decide_eq_false (by rw[h33];decide)) (.take (.eqOp 33 (by walk_at"r") ho) (decide_eq_true h33) (.assign (v:=.int j) (e2▸.ite (.cmp (.idxL (by walk_at"r") l6 .int (by decide) p0) .int (.neI ⟨rfl,rfl⟩)) (λ_=>.idxT (vs:=[.int i1,.int i2]) (by walk_at"r") .int (by decide) rfl) λ_=>.idxT (vs:=[.int i1,.int i2]) (by walk_at"r") .int (by decide) rfl) (by walk_at"r") (.nil (.next (.nil (.next (.nil (hN fin))))))))
   | @table v' l js d h34 e hl hjs=>
    have h34:=Nat.eq_of_beq_eq_true h34
    obtain⟨k,l',d',ek⟩:=okf.tab h34
    rw[e] at ek
    cases ek
    rw[e] at p4
    obtain⟨t1,t2⟩:=zHD h34 e hj
    have hl:=h.x _ _ hl
    have p0:=giv (by rw[h34];decide)
    have h0:=fm (x:=v - k) (k:=sz) (by decide)
    refine .els (.eqOp 32 (by walk_at"r") ho) (decide_eq_false (by rw[h34];decide)) (.els (.eqOp 33 (by walk_at"r") ho) (decide_eq_false (by rw[h34];decide)) (.assign (v:=.int (Int.fmod (v - k) sz)) (.bin (.bin (.idxL (by walk_at"r") l6 .int (by decide) p0) (.idxT (vs:=[.int k,.ref l,.int d]) (by walk_at"r") .int (by decide) rfl) (.sub ⟨rfl,rfl⟩)) (.glob T.g_law_SIZE (by walk_at"r")) (.mod (by decide) ⟨rfl,rfl⟩)) (by walk_at"r") ?_))
    refine SnB.assignQ (Sn.ite (RdT.to (t:=decide (Int.fmod (v - k) sz<js.length)) (.cmp (by walk_at"r") (.fn (id:="len") T.blt (by decide) (by decide) (by walk_at"r") (λ_ _=>rfl) (vs:=[.ref l]) (.cons (.idxT (vs:=[.int k,.ref l,.int d]) (by walk_at"r") .int (by decide) rfl) .nil) (Blt.lenL hl (by rw[List.length_map];exact Nat.lt_trans hjs (by decide)) ⟨by rw[List.length_map],rfl⟩)) (.lt ⟨rfl,rfl⟩)) ⟨λc=>?_,λc=>?_⟩))
    ·have c:=of_decide_eq_true c
     exact Rd.to (.idxL (.idxT (vs:=[.int k,.ref l,.int d]) (by walk_at"r") .int (by decide) rfl) hl (by walk_at"r") (zE7 h0.1 c (Nat.le_of_lt (Nat.lt_trans hjs (by decide)))) (t1 c)) ⟨_,by walk_at"r",.nil (.next (.nil (.next (.nil (hN fin)))))⟩
    ·have c:=of_decide_eq_false c
     exact Rd.to (v:=.int j) (t2 c▸.idxT (vs:=[.int k,.ref l,.int d]) (by walk_at"r") .int (by decide) rfl) ⟨_,by walk_at"r",.nil (.next (.nil (.next (.nil (hN fin)))))⟩
   | other h1 h2 h3=>cases hj
 ·apply hI
  intro at_ s vi ea va gi en pl _ h run _
  cases Option.some.inj run
  exact SnB.retB (Sn.listN (vs:=[.str "long",.ref no,.int 0]) (by walk_at"r") λr G5 hr x5 r5=>kk r G5 (h.res x5 r5 (.str _ (by decide +kernel))))
end
noncomputable section
section
variable {prog:Program}{w:World}{A:Around}{E:Value->Shared->Prop}{s:Shared}
theorem zC4 (a n:Nat):Builtin.Slice.sliceAdjust (some (a:Int)) none 1 (n:Int)=(((min a n:Nat):Int),(n:Int)):=by
 unfold Builtin.Slice.sliceAdjust
 have h1:¬((1:Int)<0):=by decide
 have h2:¬((a:Int)<0):=Int.not_lt.mpr (Int.natCast_nonneg a)
 simp only [h1,h2,if_false]
 congr 1
 omega
theorem zBf {sl:Addr}{a n:Nat}{u:Tok}{Q:Int×Int×Nat->Shared->Prop}(hs:s.heap.IsSliceOf sl (.int a u) .none .none)(h:Q (((min a n:Nat):Int),1,n - min a n) s) :
  wpAny (model prog w) A (Builtin.Slice.sliceApplied (.ref sl) (pure (n:Int))) Q E s:=by
 obtain⟨os,hos,hcs,hds⟩:=id hs
 unfold Builtin.Slice.sliceApplied Builtin.Slice.sliceFields
 refine wpAny_bind (wpAny_bind (wpAny_field hos hds (x:=.int a u) rfl (wpAny_bind (wpAny_field hos hds (x:=.none) rfl (wpAny_bind (wpAny_field hos hds (x:=.none) rfl (wpAny_pure ?_)))))))
 refine wpAny_bind (slicePart_none ?_)
 show wpAny _ _ (if ((1:Int) == 0)=true then _ else _) _ _ s
 rw[if_neg (by decide)]
 refine wpAny_bind (slicePart_int (wpAny_bind (slicePart_none (wpAny_bind (wpAny_pure ?_)))))
 show wpAny _ _ (match Builtin.Slice.sliceAdjust (some (a:Int)) none 1 (n:Int) with | (lo,hi)=>pure (lo,(1:Int),Builtin.Slice.slicePlaces lo hi 1)) _ _ s
 rw[zC4 a n]
 show wpAny _ _ (pure (((min a n:Nat):Int),(1:Int),Builtin.Slice.slicePlaces ((min a n:Nat):Int) (n:Int) 1)) _ _ s
 rw[places_from _ n (Nat.min_le_right a n)]
 exact wpAny_pure h
theorem jw {t sl:Addr}{items:Array Value}{a:Nat}{u:Tok}{Q:Value->Shared->Prop}(ht:IsTup s.heap t items)(hs:s.heap.IsSliceOf sl (.int a u) .none .none)(hn:0<items.size)(h0:a=0->Q (.ref t) s)
  (h:Q (.ref s.heap.objs.size) { s with heap:=s.heap.push { cls:=.type "tuple",data:=.seq (items.toList.drop a).toArray } })
  (hsz:items.size<=sizeLine:=by size_fits):wpAny (model prog w) A (getItem (.ref t) (.ref sl)) Q E s:=by
 have hdrop:sizeOk (.seq (items.toList.drop a).toArray):=by
  show (items.toList.drop a).toArray.size<=sizeLine
  rw[List.size_toArray,List.length_drop,Array.length_toList]
  exact Nat.le_trans (Nat.sub_le _ _) hsz
 obtain⟨os,hos,hcs,hds⟩:=id hs
 have hTs:s.TypeIs (.ref sl) "slice":=⟨os,hos,hcs⟩
 unfold getItem
 refine wpAny_holding ?_
 refine wpAny_bind (wpAny_sequenceKey ht.typeIs (by decide) ?_)
 refine wpAny_bind (wpAny_callSpecial?_slot (name:=Str.ofString "__getitem__") ht.typeIs slot_tuple_getitem
  (wpAny_call_entry slot_tuple_getitem ht.typeIs entry_tuple_getitem ?_ (args_tuple_getitem _ _)))
 show wpAny _ _ (Builtin.Tuple.tupleItemsOf (.ref t) >>= _) _ _ s
 refine wpAny_bind (tupleItemsOf_ ht ?_)
 refine wpAny_bind (wpAny_typeOf hTs ?_)
 rw[if_pos (by decide)]
 refine wpAny_bind (zBf hs ?_)
 show wpAny _ _ (if (((min a items.size:Nat):Int) == 0&&(1:Int) == 1&&(items.size - min a items.size) == items.size)=true then _ else _) _ _ s
 have one:((1:Int) == 1)=true:=rfl
 by_cases c:a=0
 ·subst c
  rw[Nat.zero_min,one,Nat.sub_zero,beq_self_eq_true,if_pos (by rfl)]
  unfold Builtin.Tuple.tupleIsExact
  refine wpAny_bind (wpAny_bind (wpAny_typeOf ht.typeIs (wpAny_pure ?_)))
  rw[if_pos (by decide)]
  exact wpAny_bind (wpAny_rule (wpAny_pure ⟨_,rfl,wpAny_pure (h0 rfl)⟩))
 ·have nz:(((min a items.size:Nat):Int) == 0&&(1:Int) == 1&&(items.size - min a items.size) == items.size)=false:=by
   have:(items.size - min a items.size == items.size)=false:=by rw[beq_eq_false_iff_ne];exact Nat.ne_of_lt (Nat.sub_lt hn (Nat.lt_min.mpr ⟨Nat.pos_of_ne_zero c,hn⟩))
   rw[this,Bool.and_false]
  rw[nz,if_neg Bool.false_ne_true]
  have pk:((List.range (items.size - min a items.size)).filterMap λ(k:Nat)=>items[(((min a items.size:Nat):Int)+(k:Int) * 1).toNat]?).toArray=(items.toList.drop a).toArray:=by
   rw[pick_from items _ (Nat.min_le_right a _)]
   by_cases l:a<=items.size
   ·rw[Nat.min_eq_left l]
   ·rw[Nat.min_eq_right (Nat.le_of_not_le l),List.drop_eq_nil_of_le (by rw[Array.length_toList];exact Nat.le_refl _),List.drop_eq_nil_of_le (by rw[Array.length_toList];exact Nat.le_of_lt (Nat.lt_of_not_le l))]
  rw[pk]
  exact wpAny_bind (m:=Builtin.Tuple.tupleExact _) (wpAny_newObj_type (wpAny_pure ⟨_,rfl,wpAny_pure h⟩) hdrop)
end
section
variable {X:Cx}{n:Nat}{G:Gh}{m:M}{s:Shared}{Q:QE}
theorem SlOp.tup {vs:List Val}{a:Nat}(hl:vs.length<cap)(hn:0<vs.length)(h:Q (.tup (vs.drop a)) G):SlOp X (.tup vs) (some (a:Int)) .none G Q:=⟨λ{A b s x vl vu o l u p} hb hr hv pl pu=>by
 obtain⟨t,k,ys,rfl,e,hs⟩:=hv.tup_inv
 cases pu
 cases pl with | int _ tk=>
 generalize hso:({ cls:=.type "slice",data:=.fields #[.int a tk,.none,.none] }:Obj)=so
 have kp:∀a o,s.heap.get? a=some o->(s.heap.push so).get? a=some o:=λa o e=>Heap.get?_push_of_some _ e
 have ht:IsTup s.heap t ys.toArray:=⟨_,e,rfl,_,rfl⟩
 have ht':IsTup (s.heap.push so) t ys.toArray:=ht.keeps kp
 have hr':=hr.mono kp
 have hs':=hs.mono (.of_keep kp)
 have f':Fwd s { s with heap:=s.heap.push so }:=⟨.of_keep kp,rfl,rfl⟩
 refine tail_any (s:={ s with heap:=s.heap.push so }) ht'.typeIs slot_tuple_getitem.lookup
  (jw (s:={ s with heap:=s.heap.push so }) ht' (by rw[<-hso];exact Heap.IsSliceOf.new ..) (by rw[List.size_toArray,<-hs.length];exact hn) (λe=>?_) ?_ (by rw[List.size_toArray,<-hs.length,sizeLine_eq];exact zDi (yc hl))) rfl
 ·subst e
  exact .mk _ _ (hv.mono (.of_keep kp)) hr' f' h
 ·exact(newT (s:={ s with heap:=s.heap.push so }) (Q:=Q) hr' (hs'.drop a) h).next f'⟩
end
end
noncomputable section
variable {X:Cx}{n:Nat}{G:Gh}{sc:Scope}{os os' os'':List (Option Val)}{m:M}{v w:Val}
noncomputable def zFq:List Int:=[9,40,3,1000,5,2,1541,6342,965,20]
noncomputable def u7 (ns:List Int):List Int:=(slice ns none (some 16)).map λi=>Int.fmod i 2147483647
noncomputable def zE3 (ns:List Int):List Int:=u7 ns++zFq.drop (u7 ns).length
theorem zCz (ns:List Int):(u7 ns).length<=16:=by
 unfold u7 slice
 rw[List.length_map,List.length_take]
 exact Nat.le_trans (Nat.min_le_left ..) (Nat.le_trans (Nat.sub_le ..) (Nat.min_le_left ..))
theorem zHb (ns:List Int):NsOK (zE3 ns):=by
 have h:=zCz ns
 have hl:(zE3 ns).length=(u7 ns).length+(10 - (u7 ns).length):=by unfold zE3;rw[List.length_append,List.length_drop];rfl
 refine⟨by omega,by omega,zF2 (λi hi=>?_) λi hi=>?_⟩
 ·obtain⟨j,_,rfl⟩:=List.mem_map.mp hi
  exact⟨(fm (by decide)).1,Int.lt_trans (fm (x:=j) (k:=2147483647) (by decide)).2 (by decide)⟩
 ·exact(show ∀i∈zFq,okN i by unfold okN;decide +kernel) i (List.mem_of_mem_drop hi)
theorem uH (ns:List Int)(lo hi:Option Int):slice (ns.map Val.int) lo hi=(slice ns lo hi).map .int:=by unfold slice;rw[List.length_map,List.map_take,List.map_drop]
inductive NuI (G0:Gh)(goal:List Int)(xs acc:List Val)(G:Gh):Prop where
 | mk (is ks:List Int) (e1:xs=is.map .int) (e2:acc=ks.map .int) (x:G=G0) (hg:ks++is.map (λi=>Int.fmod i 2147483647)=goal)
theorem v7 {l:Addr}{ns:List Int}{Q:QE}(T:Tops X)(hl:(ns.map Val.int).length<=2 * cap/\∃ys,X.H0.IsList l ys/\VRs X.H0 (ns.map .int) ys.toList)(kk:∀a G',G' a=some (.list ((zE3 ns).map .int))->Ext G G'->Q (.ref a) G'):Cal X (n+1) wB [.ref l] G Q:=by
 refine' Cal.start (os:=?os) T.d_law_numbers ?q ?b;case q=>walk_at"r"
 case b=>
 have h16:=zCz ns
 refine .cons (SnS.assignComp (by decide +kernel) (.seq (Sn.slice (Rd.to (v:=.ref l) (by walk_at"r") (.none (.some (Rd.int.to ⟨16,rfl,SlOp.ground hl (NewL.nl λsa G1 h1 x1 e1=>⟨_,_,.list e1,?_,NuI G1 (u7 ns),.cap (sc':=uI) [none,none] ⟨λv xs acc G2 hI=>?_,λacc G2 hI=>?_⟩ (capn (capn (cap0))),⟨slice ns none (some 16),[],uH _ _ _,rfl,rfl,rfl⟩⟩)⟩)))))))
 ·rw[uH,List.length_map];unfold u7 at h16;rw[List.length_map] at h16;exact Nat.lt_of_le_of_lt h16 (by decide)
 ·obtain⟨is,ks,e2,rfl,rfl,hk⟩:=hI
  obtain⟨i,is,rfl,rfl,rfl⟩:=zr e2
  exact⟨e1,_,Upd.bnd (os:=[none,none]) (os':=[none,some (.int i)]) (by walk_at"r"),.nil ⟨λ_=>Rd.to (.modK (by walk_at"r")) ⟨is,ks++[_],rfl,by rw[List.map_append];rfl,rfl,by rw[<-hk,List.append_assoc];rfl⟩,λq=>nomatch q⟩⟩
 ·obtain⟨is,ks,e2,rfl,rfl,hk⟩:=hI
  obtain rfl:=wO e2
  have hk:ks=u7 ns:=by rw[<-hk];exact(List.append_nil ks).symm
  subst hk
  refine⟨e1,NewL.nl λnu G3 h3 x3 e3=>⟨_,Upd.put (os':=[some (.ref l),some (.ref nu),none,none,none]) (by walk_at"r"),.next ?_⟩⟩
  refine .retB (Sn.bin (Rd.to (v:=.ref nu) (by walk_at"r") (Sn.ty (id:="list") T.blt (by decide) (by decide) (by walk_at"r") (λ_ _=>rfl) (.cons (Sn.slice (Rd.to (.glob T.g_law_REST (by walk_at"r")) (.some (Rd.to (v:=.int (u7 ns).length) (.fn (id:="len") T.blt (by decide) (by decide) (by walk_at"r") (λ_ _=>rfl) (vs:=[.ref nu]) (by walk_at"r") (Blt.lenL e3 (by rw[List.length_map];exact Nat.lt_of_le_of_lt h16 (by decide)) ⟨by rw[List.length_map],rfl⟩)) ⟨_,rfl,.none (SlOp.tup (by decide) (by decide) (.nil (Blt.listT ?_ (NewL.nl λra G4 h4 x4 e4=>?_))))⟩)))) (λ_=>rfl)))))
  ·rw[List.length_drop];exact Nat.lt_of_le_of_lt (Nat.sub_le ..) (by decide)
  ·rw[show List.drop (u7 ns).length [Val.int 9,.int 40,.int 3,.int 1000,.int 5,.int 2,.int 1541,.int 6342,.int 965,.int 20]=(zFq.drop (u7 ns).length).map .int from(List.map_drop (f:=Val.int) (l:=zFq)).symm] at e4
   refine Op2.addL (x4 _ _ e3) e4 (by rw[List.length_map,List.length_map,List.length_drop];show _+(10 - _)<_;exact Nat.lt_of_le_of_lt (Nat.add_le_add h16 (Nat.sub_le 10 _)) (by decide)) (NewL.nl λnb G5 h5 x5 e5=>?_)
   rw[<-List.map_append] at e5
   exact kk nb G5 e5 ((x1.trans x3).trans (x4.trans x5))
end
noncomputable section
variable {X:Cx}{n:Nat}{G:Gh}{sc:Scope}{os os' os'':List (Option Val)}{m:M}{v w:Val}
inductive Zl (bad:List Addr)(G:Gh):List PS->List Val->Prop
 | nil:Zl bad G [] []
 | cons {p:PS} {ps:List PS} {v:Val} {vs:List Val} (la:Addr) (e:v=.tup [.str (opS p.op),.int p.dst,.ref la,p.more,.bool p.vol]) (h:G la=some (.list (p.args.map opdV))) (ho:p.op<36) (hn:la∉bad) (t:Zl bad G ps vs):Zl bad G (p::ps) (v::vs)
section
variable {bad:List Addr}{G':Gh}{ps qs:List PS}{vs ws:List Val}
theorem Zl.off (h:Zl bad G ps vs)(x:∀a o,a∉bad->G a=some o->G' a=some o):Zl bad G' ps vs:=by
 induction h with
 | nil=>exact .nil
 | cons la e h ho hn _ ih=>exact .cons la e (x _ _ hn h) ho hn ih
theorem Zl.more {a:Addr}(h:Zl bad G ps vs)(ha:G a=none):Zl (a::bad) G ps vs:=by
 induction h with
 | nil=>exact .nil
 | cons la e h ho hn _ ih=>exact .cons la e h ho (zQ (λq=>by rw[q,ha] at h;cases h) hn) ih
theorem Zl.append (h:Zl bad G ps vs)(k:Zl bad G qs ws):Zl bad G (ps++qs) (vs++ws):=by
 induction h with
 | nil=>exact k
 | cons la e h ho hn _ ih=>exact .cons la e h ho hn ih
theorem Zl.len (h:Zl bad G ps vs):vs.length=ps.length:=by
 induction h with
 | nil=>rfl
 | cons _ _ _ _ _ _ ih=>exact congrArg (· + 1) ih
theorem Z2.x {G0:Gh}(h:Z2 G0 G ps vs)(hb:∀a∈bad,(G0 a).isSome=true):Zl bad G ps vs:=by
 induction h with
 | nil=>exact .nil
 | cons h _ ih=>obtain⟨la,e,h,ho,hn⟩:=h;exact .cons la e h ho (λq=>by have:=hb _ q;rw[hn] at this;cases this) ih
theorem Zl.rv (h:Zl bad G ps vs):Zm G ps vs:=by
 induction h with
 | nil=>exact .nil
 | cons la e h ho hn _ ih=>exact .cons ⟨la,e,h,ho⟩ ih
end
structure PtH (G:Gh)(N:Nat)(qs:List (List PS))(as:List Addr):Prop where
 len:as.length=qs.length
 at_:∀(i:Nat) a ps,as[i]?=some a->qs[i]?=some ps->∃vs,G a=some (.list vs)/\Zl as G ps vs/\vs.length<=N
theorem PtH.ext {G':Gh}{N:Nat}{qs:List (List PS)}{as:List Addr}(h:PtH G N qs as)(x:Ext G G'):PtH G' N qs as:=⟨h.len,λi a ps h1 h2=>by
 obtain⟨vs,e,r,l⟩:=h.at_ i a ps h1 h2
 exact⟨vs,x _ _ e,r.off λa o _ e=>x a o e,l⟩⟩
theorem PtH.rls {N:Nat}:∀{qs:List (List PS)} {as:List Addr},as.length=qs.length->(∀(i:Nat) a ps,as[i]?=some a->qs[i]?=some ps->RowL G ps a)->RLs G qs as:=λ{qs}=>by
 induction qs with
 | nil=>exact λh _=>by rw[List.eq_nil_of_length_eq_zero h];exact .nil
 | cons q qs ih=>
  intro as h k
  cases as with
  | nil=>cases h
  | cons a as=>exact .cons (k 0 a q rfl rfl) (ih (Nat.succ.inj h) λi b ps h1 h2=>k (i+1) b ps h1 h2)
theorem PtH.R {N:Nat}{qs:List (List PS)}{as:List Addr}(h:PtH G N qs as):RLs G qs as:=PtH.rls (N:=N) h.len λi a ps h1 h2=>by
 obtain⟨vs,e,r,_⟩:=h.at_ i a ps h1 h2
 exact⟨vs,e,r.rv⟩
theorem PtH.set {G':Gh}{N k:Nat}{qs:List (List PS)}{as:List Addr}{i:Nat}{a:Addr}{ps new:List PS}{vs ws:List Val}(h:PtH G N qs as)(hnd:as.Nodup)(ha:as[i]?=some a)(hp:qs[i]?=some ps)(x:Ext1 a G G')(e0:G a=some (.list vs))(e:G' a=some (.list (vs++ws)))(hw:Zl as G new ws)(hk:ws.length<=k):PtH G' (N+k) (qs.set i (ps++new)) as:=by
 have ham:=List.mem_of_getElem? ha
 have off:∀z o,z∉as->G z=some o->G' z=some o:=λz o hz=>x z o λq=>hz (q▸ham)
 refine⟨by rw[List.length_set];exact h.len,λj b rs h1 h2=>?_⟩
 by_cases q:i=j
 ·subst q
  rw[ha] at h1
  cases h1
  rw[List.getElem?_set_self (List.getElem?_eq_some_iff.mp hp).1] at h2
  cases h2
  obtain⟨vs',e',r,l⟩:=h.at_ i a ps ha hp
  rw[e0] at e'
  cases e'
  exact⟨_,e,(r.append hw).off off,by rw[List.length_append];exact Nat.add_le_add l hk⟩
 ·rw[List.getElem?_set_ne q] at h2
  obtain⟨vs',e',r,l⟩:=h.at_ j b rs h1 h2
  refine⟨vs',x _ _ (λz=>q ?_) e',r.off off,Nat.le_trans l (Nat.le_add_right ..)⟩
  subst z
  exact(List.getElem?_inj (List.getElem?_eq_some_iff.mp ha).1 hnd).mp (ha.trans h1.symm)
theorem zBw {l:List Int}{i:Nat}(h:i<l.length):wW (l.map Val.int) (i:Int)=some (.int (l.getD i 0)):=by
 rw[List.getD_eq_getElem?_getD,List.getElem?_eq_getElem h]
 exact zV (List.getElem?_eq_getElem h)
theorem zI5 {l:List Int}(h:6<=l.length):slice l (some 6) none=l.drop 6:=by
 have e1:kms_lo (some (6:Int)) l.length=6:=by
  show (if (6:Int)<0 then l.length - (-(6:Int)).toNat else min (6:Int).toNat l.length)=6
  rw[if_neg (by decide)];exact Nat.min_eq_left h
 unfold slice
 rw[e1]
 exact List.take_of_length_le (by rw[List.length_drop];exact Nat.le_refl _)
theorem mod3 (i:Nat):Int.fmod (i:Int) 3=((i % 3:Nat):Int):=by rw[Int.fmod_eq_emod_of_nonneg _ (by decide)];rfl
theorem zFn (k:Int):(zA7 k).length<=3:=by
 have h:=(zDG k).wt
 have key:∀ps:List PS,ps.length<=wtS ps:=λps=>by
  induction ps with
  | nil=>exact Nat.le_refl _
  | cons p ps ih=>rw[wm,List.length_cons,Nat.add_comm];exact Nat.add_le_add (uk p) ih
 exact Nat.le_trans (key _) h
end
noncomputable section
variable {X:Cx}{n:Nat}{G:Gh}{sc:Scope}{os os' os'':List (Option Val)}{m:M}{v w:Val}
noncomputable abbrev pgL (nu ea:Addr)(pl pa nm wy on mi la:Option Val):M:=L wr [some (.ref nu),some (.ref ea),pl,pa,nm,wy,on,mi,la,none,none,none]
noncomputable def entB:List PS:=[cstR 0 5,⟨9,5,[],.int 0,false⟩,⟨9,6,[],.int 1,false⟩,⟨12,7,[],.tup [.str "g",.int 0],false⟩]
noncomputable def entI (ns:List Int)(i:Nat):List PS:=entB++(List.range i).map λ(j:Nat)=>cstR (1+j) (ns.getD j 0)
theorem zFL (ns:List Int)(i:Nat):entI ns (i+1)=entI ns i++[cstR (1+i) (ns.getD i 0)]:=by
 unfold entI
 rw[List.range_succ,List.map_append,List.append_assoc];rfl
inductive EnI4 (G0:Gh)(ns:List Int)(nu ea:Addr)(i:Nat)(m:M)(G:Gh):Prop where
 | mk (pl:Option Val) (vs:List Val) (e:m=pgL nu ea pl none none none none none none) (x:Ext G0 G) (h:G ea=some (.list vs)) (r:Zl [ea] G (entI ns i) vs) (hn:G nu=some (.list (ns.map .int)))
structure PgR (G0 G:Gh)(ns:List Int)(pa ea:Addr)(as:List Addr)(l:Addr):Prop where
 ex:Ext G0 G
 pt:G pa=some (.list (as.map .ref))
 rl:RLs G (jN ns) as
 li:Int.fmod (ns.getD 4 0) 3=2->G l=some (.list [.int 2,.int 3])
 en:∃e0 e1 e2 e3,G ea=some (.list [e0,e1,e2,e3])/\EndV G ⟨32,-1,[],.int 1,false⟩ e0/\EndV G (midF (ns.getD 4 0) l) e1/\EndV G ⟨33,-1,[(true,0)],.tup [.int 1,.int 3],false⟩ e2/\EndV G ⟨35,-1,[regP (ns.getD 5 0)],.int 0,false⟩ e3
theorem Z3.list4 {ps:List PS}{es:List Expr}{pos:Pos}{Q:QE}(bad:List Addr)(h:Z3 X n sc es m G ps)(hb:∀a∈bad,(G a).isSome=true)(k:∀a vs G',G a=none->Ext G G'->G' a=some (.list vs)->Zl (a::bad) G' ps vs->Q (.ref a) G')(hl:Nat.ble ps.length 1000=true:=by rfl):Sn X n sc (.List es pos) m G Q:=
 Sn.listE (h G _ .refl λvs G1 x1 r1=>⟨by rw[r1.length];exact hl,λa G2 ha x2 e2=>k a vs G2 (x1.none ha) (x1.trans x2) e2 (((r1.x hb).more ha).off λz o _ e=>x2 z o e)⟩)
theorem Zl.sub {bad bad':List Addr}{ps:List PS}{vs:List Val}(h:Zl bad G ps vs)(k:∀x∈bad',x∈bad):Zl bad' G ps vs:=by
 induction h with
 | nil=>exact .nil
 | cons la e h ho hn _ ih=>exact .cons la e h ho (λq=>hn (k _ q)) ih
theorem Sn.endE {e1 e3:Expr}{es:List Expr}{k:Nat}{lp pos:Pos}{Q:QE}(op:Nat)(args:List Opd)(h1:Rd X n sc e1 m G (.str (opS op)))(h2:Rds X n sc es m G (args.map opdV))(h3:∀G',Ext G G'->Sn X n sc e3 m G' λw G2=>Ext G' G2/\∀v,EndV G2 ⟨op,-1,args,w,false⟩ v->Q v G2)
  (hl:Nat.ble (args.map opdV).length 1000=true:=by rfl) (ho:Nat.blt op 36=true:=by rfl) (n1:NS e1:=by intro _ _;rfl) (n3:NS e3:=by intro _ _;rfl):Sn X n sc (.Tuple [e1,.List es lp,e3] k pos) m G Q:=
 Sn.tup (SnEs.cons (h1.to (SnEs.cons (Sn.listN h2 (λla G' hla x l1=>SnEs.cons ((h3 G' x).mono λw G2 q=>SnEs.nil ⟨by show 3<cap;decide,q.2 _ ⟨la,rfl,q.1 _ _ l1,Nat.le_of_ble_eq_true ho⟩⟩) (n3 _)) hl) (λ_=>rfl))) (n1 _))
inductive MdI (F:Option Val->M)(G0:Gh)(f:PS)(m:M)(G:Gh):Prop where
 | mk (v:Val) (e:m=F (some v)) (x:Ext G0 G) (h:EndV G f v)
inductive MdJ (F:Option Val->M)(G0:Gh)(way:Int)(m:M)(G:Gh):Prop where
 | mk (v:Val) (l:Addr) (e:m=F (some v)) (x:Ext G0 G) (h:EndV G (midF way l) v) (hl:Int.fmod way 3=2->G l=some (.list [.int 2,.int 3]))
theorem PtH.some {N:Nat}{qs:List (List PS)}{as:List Addr}(h:PtH G N qs as):∀a∈as,(G a).isSome=true:=λa ha=>by
 obtain⟨i,hi⟩:=List.getElem?_of_mem ha
 have hl:=(List.getElem?_eq_some_iff.mp hi).1
 obtain⟨vs,e,_⟩:=h.at_ i a _ hi (List.getElem?_eq_getElem (by rw[<-h.len];exact hl))
 rw[e];rfl
theorem zHZ {N:Nat}{a b c d:Addr}{p q r s:List PS}{x y z u:List Val}(h1:G a=some (.list x))(r1:Zl [a,b,c,d] G p x)(l1:x.length<=N)(h2:G b=some (.list y))(r2:Zl [a,b,c,d] G q y)(l2:y.length<=N)(h3:G c=some (.list z))(r3:Zl [a,b,c,d] G r z)(l3:z.length<=N)(h4:G d=some (.list u))(r4:Zl [a,b,c,d] G s u)(l4:u.length<=N):PtH G N [p,q,r,s] [a,b,c,d]:=⟨rfl,λi t ps e1 e2=>by
 cases i with
 | zero=>cases e1;cases e2;exact⟨_,h1,r1,l1⟩
 | succ i=>cases i with
 | zero=>cases e1;cases e2;exact⟨_,h2,r2,l2⟩
 | succ i=>cases i with
 | zero=>cases e1;cases e2;exact⟨_,h3,r3,l3⟩
 | succ i=>cases i with
 | zero=>cases e1;cases e2;exact⟨_,h4,r4,l4⟩
 | succ i=>cases e1⟩
noncomputable def PgI (G0:Gh)(ns:List Int)(nu ea pa:Addr)(as:List Addr)(a:Addr)(xs:List Val)(i:Nat)(js:List Int)(m:M)(G:Gh):Prop:=
 ∀C:M->Prop,(∀(pl nm:Option Val) (qs:List (List PS)),Ext G0 G->G a=some (.list xs)->G nu=some (.list (ns.map .int))->G pa=some (.list (as.map .ref))->PtH G (10+3 * i) qs as->qs.length=4->vP i js qs=jN ns->i+js.length=ns.length - 6->C (pgL nu ea pl (some (.ref pa)) nm none none none none))->C m
theorem zH0 {a b i j k:Nat}(la:a<=10+3 * i)(hw:b<=3)(hi:i+(j+1)=k - 6)(hk:k<=16):a+b<cap:=by
 have h1:i<=10:=Nat.le_trans (Nat.le_add_right i _) (hi▸Nat.sub_le_sub_right hk 6)
 exact Nat.lt_of_le_of_lt (Nat.add_le_add (Nat.le_trans la (Nat.add_le_add_left (Nat.mul_le_mul_left 3 h1) 10)) hw) (by decide)
theorem v5 {nu:Addr}{ns:List Int}{Q:QE}(T:Tops X)(hn:G nu=some (.list (ns.map .int)))(ok:NsOK ns)(kk:∀pa ea as l G',PgR G G' ns pa ea as l->Q (.tup [.ref pa,.ref ea]) G'):Cal X (n+3) zz [.ref nu] G Q:=by
 refine' Cal.start (os:=?os) T.d_law_program ?q ?b;case q=>walk_at"r"
 case b=>
 have hlo:=ok.lo
 have hhi:=ok.hi
 refine SnB.assignQ (Z3.list4 [] (ps:=entB) (by unfold entB;walk_at"d") zD λea vs G1 h1 x1 e1 r1=>⟨_,by walk_at"r",?_⟩)
 have gk:∀{z:Addr},(G z).isSome=true->z≠ea:=λh q=>by rw[q,h1] at h;cases h
 refine SnB.forR 4 T.blt (by walk_at"r") .int (by decide) (EnI4 G ns nu ea) ⟨none,vs,rfl,x1,e1,r1,x1 _ _ hn⟩ (λi m G2 hi hI=>?_) λm G2 hI=>?_
 ·obtain⟨pl,vs,rfl,x2,h2,r2,n2⟩:=hI
  refine⟨_,.name (Upd.put (os':=[some (.ref nu),some (.ref ea),some (.int i),none,none,none,none,none,none,none,none,none]) (by walk_at"r")),?_⟩
  have hl:=r2.len
  refine SnB.expr (Sn.meth .append (λ_ _=>rfl) (Rd.to (v:=.ref ea) (by walk_at"r") ⟨.list h2,SnEs.cons (RowE.go (p:=cstR (1+i) (ns.getD i 0)) (RowE.rowX (vs:=[opdV (false,ns.getD i 0)]) (λ_ _=>.str) (λ_ _=>.bin .int (by walk_at"r") (.add ⟨rfl,rfl⟩)) (λ_ x=>.cons (.tup (.cons .str (.cons (.idxL (by walk_at"r") (x _ _ n2) (by walk_at"r") (by exact(show i<cap from Nat.lt_of_lt_of_le hi (by decide))) (zBw (Nat.lt_of_lt_of_le hi (Nat.le_trans (by decide) hlo)))) .nil))) .nil) (λ_ _=>by walk_at"r") (λ_ _=>by walk_at"r") rfl rfl rfl) λv G3 x3 r3=>SnEs.nil (Meth.appN (x3 _ _ h2) ?_ λG4 x4 e4=>.nil (.next ?_))) (λ_=>rfl)⟩))
  ·rw[hl];unfold entI entB;rw[List.length_append,List.length_map,List.length_range];exact Nat.le_trans (Nat.add_le_add_left (Nat.le_of_lt hi) 4) (by decide)
  ·obtain⟨la,e,h,ho,hf⟩:=r3
   have nea:la≠ea:=λq=>by rw[q,h2] at hf;cases hf
   have off:∀z o,z∉[ea]->G3 z=some o->G4 z=some o:=λz o hz=>x4 z o λq=>hz (q▸.head _)
   refine⟨_,_,rfl,(x2.trans x3).fresh h1 x4,e4,?_,x4 _ _ (gk (by rw[hn];rfl)) (x3 _ _ n2)⟩
   rw[zFL]
   exact((r2.off λz o _ q=>x3 z o q).off off).append (.cons la e (off _ _ (zQ nea yh) h) ho (zQ nea yh) .nil)
 ·obtain⟨pl,vs,rfl,x2,h2,r2,n2⟩:=hI
  have l2:vs.length=8:=r2.len
  have r2:Zl [ea] G2 (jS (ns.getD 0 0) (ns.getD 1 0) (ns.getD 2 0) (ns.getD 3 0)) vs:=r2
  refine SnB.assignQ (Sn.listE (SnEs.cons (Rd.to (v:=.ref ea) (by walk_at"r") (SnEs.cons (Sn.listN .nil λa1 G3 f1 x3 e3=>SnEs.cons (Z3.list4 [a1,ea] (ps:=[shrP]) (by unfold shrP;walk_at"d") (zB (by rw[e3];rfl) (zB (by rw[x3 _ _ h2];rfl) zD)) λa2 vs2 G4 f2 x4 e4 r4=>SnEs.cons (Sn.listN .nil λa3 G5 f3 x5 e5=>SnEs.nil ⟨rfl,λpa G6 f6 x6 e6=>⟨_,by walk_at"r",?_⟩⟩) (λ_=>rfl)) (λ_=>rfl)) (λ_=>rfl))) (λ_=>rfl)))
  have l4:vs2.length=1:=r4.len
  have x36:Ext G3 G6:=x4.trans (x5.trans x6)
  have x26:=x3.trans x36
  have n1:a1≠ea:=λq=>by rw[q,h2] at f1;cases f1
  have n2':a2≠ea:=λq=>by rw[q,x3 _ _ h2] at f2;cases f2
  have n3:a2≠a1:=λq=>by rw[q,e3] at f2;cases f2
  have n4:a3≠ea:=λq=>by rw[q,x4 _ _ (x3 _ _ h2)] at f3;cases f3
  have n5:a3≠a1:=λq=>by rw[q,x4 _ _ e3] at f3;cases f3
  have n6:a3≠a2:=λq=>by rw[q,e4] at f3;cases f3
  have nd:[ea,a1,a2,a3].Nodup:=yv (zQ n1.symm (zQ n2'.symm (zQ n4.symm yh))) (yv (zQ n3.symm (zQ n5.symm yh)) (yv (zQ n6.symm yh) (yv yh .nil)))
  have rr1:Zl [ea,a1,a2,a3] G5 (jS (ns.getD 0 0) (ns.getD 1 0) (ns.getD 2 0) (ns.getD 3 0)) vs:=((((((r2.more f1).off λz o _ q=>x3 z o q).more f2).off λz o _ q=>x4 z o q).more f3).off λz o _ q=>x5 z o q).sub (zB (.tail _ (.tail _ (.tail _ (.head _)))) (zB (.tail _ (.tail _ (.head _))) (zB (.tail _ (.head _)) (zB (.head _) zD))))
  have rr3:Zl [ea,a1,a2,a3] G5 [shrP] vs2:=((r4.more f3).off λz o _ q=>x5 z o q).sub (zB (.tail _ (.tail _ (.tail _ (.head _)))) (zB (.tail _ (.tail _ (.head _))) (zB (.tail _ (.head _)) (zB (.head _) zD))))
  have pt5:PtH G5 10 [jS (ns.getD 0 0) (ns.getD 1 0) (ns.getD 2 0) (ns.getD 3 0),[],[shrP],[]] [ea,a1,a2,a3]:=zHZ ((x3.trans (x4.trans x5)) _ _ h2) rr1 (by rw[l2];decide) ((x4.trans x5) _ _ e3) .nil (Nat.zero_le _) (x5 _ _ e4) rr3 (by rw[l4];decide) e5 .nil (Nat.zero_le _)
  have pt:=pt5.ext x6
  have xG:=x2.trans x26
  have hf:∀z∈[ea,a1,a2,a3],G z=none:=zB h1 (zB (x2.none f1) (zB ((x2.trans x3).none f2) (zB ((x2.trans (x3.trans x4)).none f3) zD)))
  have hpa:pa∉[ea,a1,a2,a3]:=λq=>by have:=pt5.some _ q;rw[f6] at this;cases this
  have n26:=x26 _ _ n2
  have hg:vP 0 (ns.drop 6) [jS (ns.getD 0 0) (ns.getD 1 0) (ns.getD 2 0) (ns.getD 3 0),[],[shrP],[]]=jN ns:=rfl
  have hnu:nu∉[ea,a1,a2,a3]:=λq=>by have:=hf _ q;rw[hn] at this;cases this
  clear x26 x36 n1 n2' n3 n4 n5 n6 rr1 rr3 l2 l4 f1 f2 f3 e3 e4 e5 x3 x4 x5 x2 r2 r4 h2 gk pt5 f6 x6 h1 x1 e1 r1
  have e6:G6 pa=some (.list ([ea,a1,a2,a3].map .ref)):=e6
  generalize [ea,a1,a2,a3]=as at *
  generalize hq0:[jS (ns.getD 0 0) (ns.getD 1 0) (ns.getD 2 0) (ns.getD 3 0),[],[shrP],[]]=qs0 at *
  have hq4:qs0.length=4:=by rw[<-hq0];rfl
  refine SnB.forEnM .int T.blt (by walk_at"r") (λ_ _=>rfl) (Sn.slice (Rd.to (v:=.ref nu) (by walk_at"r") (.some (Rd.int.to ⟨6,rfl,.none (SlOp.list n26 (NewL.nl λsl G7 f7 x7 e7=>?_))⟩))))
  rw[uH,zI5 (Nat.le_trans (by decide) hlo)] at e7
  have hsl:sl∉as:=λq=>by have:=pt.some _ q;rw[f7] at this;cases this
  refine⟨sl,ns.drop 6,rfl,e7,PgI G ns nu ea pa as sl ((ns.drop 6).map .int),λ_ k=>k _ _ qs0 (xG.trans x7) e7 (x7 _ _ n26) (x7 _ _ e6) (pt.ext x7) hq4 hg (by rw[List.length_drop];exact Nat.zero_add _),λi r m G8 hI=>hI (λ_=>_) λ_ _ _ _ hx _ _ _ _ _ _=>hx,λi j js m G8 QT hI hN _=>?_,λi m G8 hI=>?_⟩
  ·clear kk pt e6 n26 hg hq0 hq4 e7 xG f7 x7
   apply hI
   intro pl nm qs x hx hn' hp h hq hg hi
   refine⟨_,.tup (.two (os':=[some (.ref nu),some (.ref ea),some (.int i),some (.ref pa),nm,none,none,none,none,none,none,none]) (os'':=[some (.ref nu),some (.ref ea),some (.int i),some (.ref pa),some (.int j),none,none,none,none,none,none,none]) (by walk_at"r") (by walk_at"r")),?_⟩
   have hk:1+i % 3<4:=Nat.add_lt_add_left (Nat.mod_lt i (by decide)) 1
   obtain⟨a,ha⟩:∃a,as[1+i % 3]?=some a:=⟨_,List.getElem?_eq_getElem (by rw[h.len,hq];exact hk)⟩
   have hps:qs[1+i % 3]?=some (qs.getD (1+i % 3) []):=by rw[List.getD_eq_getElem?_getD,List.getElem?_eq_getElem (by rw[hq];exact hk)];rfl
   obtain⟨vs,ea',ra,la⟩:=h.at_ _ _ _ ha hps
   have hat:wW (as.map Val.ref) (1+Int.fmod (i:Int) 3)=some (.ref a):=by
    have:=zV (f:=Val.ref) ha
    rw[mod3]
    exact this
   have ham:=List.mem_of_getElem? ha
   refine SnB.expr (Sn.meth .extend (λ_ _=>rfl) (Rd.to (v:=.ref a) (.idxL (by walk_at"r") hp (.bin .int (.modK (by walk_at"r")) (.add ⟨rfl,rfl⟩)) (by rw[mod3];exact(show 1+i % 3<cap from Nat.lt_of_lt_of_le hk (by decide))) hat) ⟨.list ea',SnEs.cons (Sn.ref T.f_law_rows (by walk_at"r") (λ_ _=>rfl) (vs:=[.int j]) (by walk_at"r") (zBl T λra G3 x3 r3=>SnEs.nil ?_)) (λ_=>rfl)⟩))
   obtain⟨ws,er,rr⟩:=r3
   have hw:=zFn j
   rw[<-rr.length] at hw
   exact Meth.extend (x3 _ _ ea') er (zH0 la hw hi hhi) (.nil (hN λ_ k=>k _ _ (qs.set (1+i % 3) (qs.getD (1+i % 3) []++zA7 j)) ((x.trans x3).fresh (hf _ ham) .upd) (Ext1.upd _ _ (λq=>hsl (q▸ham)) (x3 _ _ hx)) (Ext1.upd _ _ (λq=>hnu (q▸ham)) (x3 _ _ hn')) (Ext1.upd _ _ (λq=>hpa (q▸ham)) (x3 _ _ hp)) ((h.ext x3).set (k:=3) nd ha hps .upd (x3 _ _ ea') (Gh.upd_same ..) (rr.x h.some) hw) (by rw[List.length_set];exact hq) hg (zDx.symm.trans hi)))
  ·apply hI
   intro pl nm qs x hx hn' hp h hq hg hi
   have hg:qs=jN ns:=hg
   rw[hg] at h
   have rls:=h.R
   clear e6 f7 x7 e7 hx pt nd xG hf hpa n26 hnu hq4 hg hsl hq0 hq h hi
   refine SnB.assign (v:=.int (ns.getD 4 0)) (.idxL (by walk_at"r") hn' .int (by decide) (zBw (i:=4) (Nat.lt_of_lt_of_le (by decide) hlo))) (by walk_at"r") ?_
   refine SnB.assign (v:=opdV (regP (Int.fdiv (ns.getD 4 0) 3))) (.tup (.cons .str (.cons (.bin .int (.modK (.divK (by walk_at"r"))) (.add ⟨rfl,rfl⟩)) .nil))) (by walk_at"r") ?_
   generalize hway:ns.getD 4 0=way at *
   refine SnB.assignQ (Sn.endE 32 [] .str .nil λG9 x9=>Rd.int.to ⟨.refl,λv hv=>⟨_,by walk_at"r",?_⟩⟩)
   refine SnB.ifsM (MdI (λmi=>pgL nu ea pl (some (.ref pa)) nm (some (.int way)) (some (opdV (regP (Int.fdiv way 3)))) mi none) G9 (if Int.fmod way 3=1 then⟨33,-1,[regP (Int.fdiv way 3)],.tup [.int 2,.int 3],false⟩ else⟨32,-1,[],.int 2,false⟩)) (.eqK (.modK (by walk_at"r"))) (λm' G10 hM=>?_) λQJ hM _=>⟨λe=>?_,λe=>?_⟩
   rotate_left
   ·rw[if_pos (of_decide_eq_true e)] at hM
    exact SnB.assignQ (Sn.endE 33 [regP (Int.fdiv way 3)] .str (.cons (by walk_at"r") .nil) λG' x=>Rd.to (v:=.tup [.int 2,.int 3]) (by walk_at"r") ⟨.refl,λv hv=>⟨_,by walk_at"r",.nil (hM ⟨v,rfl,x,hv⟩)⟩⟩)
   ·rw[if_neg (of_decide_eq_false e)] at hM
    exact .nil (hM ⟨v,rfl,.refl,hv⟩)
   obtain⟨v2,rfl,x10,hv2⟩:=hM
   refine SnB.ifsM (MdJ (λmi=>pgL nu ea pl (some (.ref pa)) nm (some (.int way)) (some (opdV (regP (Int.fdiv way 3)))) mi none) G10 way) (.eqK (.modK (by walk_at"r"))) (λm' G11 hM=>?_) λQJ hM _=>⟨λe=>?_,λe=>?_⟩
   rotate_left
   ·have e:=of_decide_eq_true e
    refine SnB.assignQ (Sn.endE 34 [regP (Int.fdiv way 3)] .str (.cons (by walk_at"r") .nil) λG' x=>Sn.tup (SnEs.cons (Rd.to (v:=.int (Int.fmod (Int.fdiv way 12) 3)) (.modK (.divK (by walk_at"r"))) (SnEs.cons (Sn.listN (vs:=[.int 2,.int 3]) (by walk_at"r") λl G2 hl x2 l2=>SnEs.cons (Rd.int.to (SnEs.nil ⟨by show 3<cap;decide,x2,λv hv=>⟨_,by walk_at"r",.nil (hM ⟨v,l,rfl,x.trans x2,?_,λ_=>l2⟩)⟩⟩)) (λ_=>rfl)) (λ_=>rfl))) (λ_=>rfl)))
    unfold midF
    rw[if_pos e];exact hv
   ·have e:=of_decide_eq_false e
    refine .nil (hM ⟨v2,0,rfl,.refl,?_,λq=>absurd q e⟩)
    unfold midF
    rw[if_neg e];exact hv2
   obtain⟨v3,l,rfl,x11,hv3,hl3⟩:=hM
   refine SnB.assignQ (Sn.endE 35 [regP (ns.getD 5 0)] .str (.cons (.tup (.cons .str (.cons (.bin .int (.modK (.idxL (by walk_at"r") (x11 _ _ (x10 _ _ (x9 _ _ hn'))) .int (by decide) (zBw (i:=5) (Nat.lt_of_lt_of_le (by decide) hlo)))) (.add ⟨rfl,rfl⟩)) .nil))) .nil) λG12 x12=>Rd.int.to ⟨.refl,λv4 hv4=>⟨_,by walk_at"r",?_⟩⟩)
   have xx:=x9.trans (x10.trans (x11.trans x12))
   refine SnB.retB (Sn.tup (SnEs.cons (Rd.to (v:=.ref pa) (by walk_at"r") (SnEs.cons (Sn.listE (SnEs.cons (Sn.endE 32 [] .str .nil λG' x=>Rd.int.to ⟨.refl,λv0 hv0=>SnEs.cons (Rd.to (v:=v3) (by walk_at"r") (SnEs.cons (Sn.endE 33 [(true,0)] .str (.cons (by walk_at"r") .nil) λG2 x2=>Rd.to (v:=.tup [.int 1,.int 3]) (by walk_at"r") ⟨.refl,λv1 hv1=>SnEs.cons (Rd.to (v:=v4) (by walk_at"r") (SnEs.nil ⟨rfl,λen G3 hen x3 e3=>SnEs.nil ⟨by show 2<cap;decide,?_⟩⟩)) (λ_=>rfl)⟩) (λ_=>rfl))) (λ_=>rfl)⟩) (λ_=>rfl))) (λ_=>rfl))) (λ_=>rfl)))
   have x123:=x.trans (x2.trans x3)
   have y:=xx.trans x123
   exact kk pa en as l G3 ⟨‹Ext G G8›.trans y,y _ _ hp,rls.map λ_ _ h=>h.ext y,λe=>(x12.trans x123) _ _ (hl3 (hway▸e)),v0,v3,v1,v4,e3,hv0.ext (x2.trans x3),hway▸hv3.ext (x12.trans x123),hv1.ext x3,hv4.ext x123⟩
end
noncomputable section
variable {X:Cx}{n:Nat}{G:Gh}{sc:Scope}{os os' os'':List (Option Val)}{m:M}{v w:Val}
theorem Sn.newFunc1 {Q:QE}{e:Expr}{s:Str}{p pos:Pos}(T:Tops X)(hk:Ze sc "Func")(hn:Zj [e])(h:Rds X (n+1) sc [e] m G [.str s])
  (k:∀f bl pa fs G',G f=none->G bl=none->G pa=none->f≠bl->f≠pa->pa≠bl->Ext G G'->G' f=some (.inst .func fs)->fs .blocks=some (.ref bl)->fs .params=some (.ref pa)->G' bl=some (.list [])->G' pa=some (.list [])->Q (.ref f) G'):Sn X (n+1) sc (.Call (.Name "Func" p) [e] [] pos) m G Q:=by
 refine Sn.newN T.f_Func T.cls hk hn h λb G1 hb x1 b1=>?_
 refine' Cal.start (os:=?os) T.d_Func ?q ?b;case q=>walk_at"r"
 case b=>
 refine SnB.setAN (f:=.name) T.cls (.name) (by walk_at"r") (by walk_at"r") b1 λG2 x2 b2=>?_
 refine SnB.setAQ (f:=.params) T.cls (by walk_at"r") (Sn.listN .nil λpa G3 hpa x3 s3=>⟨b,.func,_,by walk_at"r",x3 _ _ b2,λG4 x4 b4=>?_⟩)
 refine SnB.setAN (f:=.is_static) T.cls .is_static (v:=.bool false) (by walk_at"r") (by walk_at"r") b4 λG5 x5 b5=>?_
 refine SnB.setAQ (f:=.slots) T.cls (by walk_at"r") (Sn.listN .nil λsl G6 hsl x6 s6=>⟨b,.func,_,by walk_at"r",x6 _ _ b5,λG7 x7 b7=>?_⟩)
 refine SnB.setAQ (f:=.blocks) T.cls (by walk_at"r") (Sn.listN .nil λbl G8 hbl x8 s8=>⟨b,.func,_,by walk_at"r",x8 _ _ b7,λG9 x9 b9=>?_⟩)
 refine SnB.setAN (f:=.registers) T.cls .registers (v:=.int 0) (by walk_at"r") (by walk_at"r") b9 λG10 x10 b10=>?_
 refine SnB.setAN (f:=.has_value) T.cls .has_value (v:=.bool false) (by walk_at"r") (by walk_at"r") b10 λG11 x11 b11=>?_
 have y2:=x1.fresh hb x2
 have y7:=(((y2.trans x3).fresh hb (x4.trans x5)).trans x6).fresh hb x7
 have bs:=ne_new b7 hbl
 have bp:=ne_new b2 hpa
 have x911:=(x9.trans x10).trans x11
 have p7:=x7 _ _ bp.symm (x6 _ _ ((x4.trans x5) _ _ bp.symm s3))
 exact .nil (.next ⟨rfl,k b bl pa _ G11 hb (y7.none hbl) (y2.none hpa) bs bp (ne_new p7 hbl) ((y7.trans x8).fresh hb x911) b11 rfl rfl (x911 _ _ (Ne.symm bs) s8) (x911 _ _ bp.symm (x8 _ _ p7))⟩)
theorem Zd.snoc {b eo:Addr}{sts:List Addr}{B:PB}{j:Int}(hs:Zb G sts B.steps)(he:Zh G eo B.fin)(hw:Zv G B.fin B.ways){i:Int}{bs:List Addr}{Bs:List PB}(h:Zd G i bs Bs):j=i+bs.length->Zo G b j sts eo->Zd G i (bs++[b]) (Bs++[B]):=by
 induction h with
 | nil=>intro e hb;rw[show j=_ from(e.trans (Int.add_zero _))] at hb;exact .cons hb hs he hw .nil
 | @cons i' _ _ _ bs' _ _ a1 a2 a3 a4 _ ih=>intro e hb;exact .cons a1 a2 a3 a4 (ih (by rw[e,List.length_cons,Int.natCast_add];show i'+((bs'.length:Int)+1)=_;lia) hb)
theorem zHg {α:Type}{a:α}{l:List α}(h:l.Nodup)(k:a∉l):(l++[a]).Nodup:=List.nodup_append.mpr ⟨h,yv yh .nil,λx hx y hy q=>k (by rw[List.mem_singleton] at hy;rw[<-hy,<-q];exact hx)⟩
theorem zHf {a c:Addr}(e:(G a).isSome=true)(h:G c=none):a≠c:=λq=>by rw[q,h] at e;cases e
inductive Mk4 (G:Gh):List PB->List Addr->List Val->Prop
 | nil:Mk4 G [] [] []
 | cons {B:PB} {Bs:List PB} {a:Addr} {as:List Addr} {v:Val} {vs:List Val} (h1:RowL G B.steps a) (h2:EndV G B.fin v) (h3:Zv G B.fin B.ways) (h4:B.fin=⟨B.fin.op,-1,B.fin.args,B.fin.more,false⟩) (h5:B.fin.args.length<=8) (h6:B.steps.length<=900/\∀p∈B.steps,p.args.length<=8) (t:Mk4 G Bs as vs):Mk4 G (B::Bs) (a::as) (v::vs)
noncomputable abbrev mdL (pt en f:Addr)(nm rw bk op ds ar mo lo ea:Option Val):M:=L yt [some (.ref pt),some (.ref en),some (.ref f),nm,rw,bk,op,ds,ar,mo,lo,ea,none,none,none,none,none]
noncomputable def Md1 (Gb:Gh)(pt en f b st bl:Addr)(fs:Fld->Option Val)(nm rw:Option Val)(goal:List PS)(xs:List Val)(m:M)(G:Gh):Prop:=
 ∀C:M->Prop,(∀(op ds ar mo lo ea:Option Val) (ps qs:List PS) (as:List Addr),Ext Gb G->G b=some (.inst .block fs)->G st=some (.list (as.map .ref))->Zm Gb ps xs->(∀H,ExtB [b,st,bl] G H->Zb H as qs)->qs++ps=goal->as.length+ps.length<=900->C (mdL pt en f nm rw (some (.ref b)) op ds ar mo lo ea))->C m
noncomputable def Md2 (G0:Gh)(pt en f bl pa sa:Addr)(ff:Fld->Option Val)(vs0:List Val)(goal:List PB)(i:Nat)(as:List Addr)(m:M)(G:Gh):Prop:=
 ∀C:M->Prop,(∀(nm rw bk op ds ar mo lo ea:Option Val) (vs:List Val) (ps Bs:List PB) (bs:List Addr),Ext G0 G->G f=some (.inst .func ff)->G pa=some (.list [])->G sa=some (.list (sl0.map zFi))->G bl=some (.list (bs.map .ref))->Mk4 G0 ps as vs->vs0.drop i=vs->(∀H,ExtB [bl] G H->Zd H 0 bs Bs)->bs.Nodup->(∀b∈bs,(G b).isSome=true)->(∀b∈bs,G0 b=none)->Bs++ps=goal->i=bs.length->bs.length+ps.length<=16->C (mdL pt en f nm rw bk op ds ar mo lo ea))->C m
theorem zIG {vs:List Val}{i:Nat}{v:Val}{r:List Val}(h:vs.drop i=v::r):wW vs (i:Int)=some v/\vs.drop (i+1)=r:=by
 have e:vs[i]?=some v:=by rw[<-Nat.add_zero i,<-List.getElem?_drop,h];rfl
 obtain⟨_,e2⟩:=jT e
 rw[h] at e2
 refine⟨?_,(List.cons.inj e2).2.symm⟩
 unfold wW
 rw[if_pos (Int.natCast_nonneg i),Int.toNat_natCast]
 exact e
end
noncomputable section
variable {X:Cx}{n:Nat}{G:Gh}{sc:Scope}{os os' os'':List (Option Val)}{m:M}{v w:Val}
theorem zBn {pt en:Addr}{ptas:List Addr}{evs:List Val}{Bs0:List PB}{Q:QE}(T:Tops X)(hpt:G pt=some (.list (ptas.map .ref)))(hen:G en=some (.list evs))(hv:Mk4 G Bs0 ptas evs)(hl16:Bs0.length<=16)
  (kk:∀f bs G',Ext G G'->Zk G' f [] sl0 bs->Zd G' 0 bs Bs0->bs.Nodup->(∀b∈bs,G b=none)->Q (.ref f) G'):Cal X (n+2) yK [.ref pt,.ref en] G Q:=by
 refine' Cal.start (os:=?os) T.d_law_made ?q ?b;case q=>walk_at"r"
 case b=>
 refine SnB.assignQ (Sn.newFunc1 T (by walk_at"r") (λ_ _=>rfl) (by walk_at"r") λf bl pa fs G1 f1 b1 pa1 nfb nfp npb x1 e1 g1 g2 l1 p1=>⟨_,by walk_at"r",?_⟩)
 refine SnB.setAN (f:=.has_value) T.cls .has_value (v:=.bool true) (by walk_at"r") (by walk_at"r") e1 λG3 x3 e3=>?_
 refine SnB.setAN (f:=.registers) T.cls .registers (v:=.int 9) (by walk_at"r") (by walk_at"r") e3 λG5 x5 e5=>?_
 refine SnB.setAQ (f:=.slots) T.cls (by walk_at"r") (Sn.listN (vs:=sl0.map zFi) (.cons (.tup (by walk_at"r")) (.cons (.tup (by walk_at"r")) .nil)) λsa G6 h6 x6 s6=>⟨f,.func,_,by walk_at"r",x6 _ _ e5,λG7 x7 e7=>?_⟩)
 have y15:Ext1 f G1 G5:=x3.trans x5
 have l5:=y15 _ _ (Ne.symm nfb) l1
 have p5:=y15 _ _ (Ne.symm nfp) p1
 have e6':=x6 _ _ e5
 have p7:=x7 _ _ (Ne.symm nfp) (x6 _ _ p5)
 have l7:=x7 _ _ (Ne.symm nfb) (x6 _ _ l5)
 have s7:=x7.kind e6' s6
 have y7:Ext G G7:=((x1.fresh f1 y15).trans x6).fresh f1 x7
 have nsa:=ne_new l5 h6
 obtain⟨ff,e7,fi⟩:∃ff,G7 f=some (.inst .func ff)/\Yn ff pa sa bl:=⟨_,e7,g2,rfl,g1⟩
 clear l5 p5 y15 x3 x5 x6 x7 e3 e5 e1 g1 g2 l1 p1 x1 e6'
 refine SnB.forEnM .ref T.blt (by walk_at"r") (λ_ _=>rfl) (Rd.to (v:=.ref pt) (by walk_at"r") ⟨pt,ptas,rfl,y7 _ _ hpt,Md2 G pt en f bl pa sa ff evs Bs0,λ_ k=>k none none none none none none none none none evs Bs0 [] [] y7 e7 p7 s7 l7 hv rfl (λ_ _=>.nil) .nil zD zD rfl rfl (Nat.le_trans (Nat.le_of_eq (Nat.zero_add _)) hl16),λi r m G8 hI=>hI (λ_=>_) λ_ _ _ _ _ _ _ _ _ _ _ _ _ x _ _ _ _ _ _ _ _ _ _ _ _ _=>x _ _ hpt,λi rl as m G8 QT hI hN _=>?_,λi m G8 hI=>?_⟩)
 ·clear y7 e7 p7 s7 l7 hv hl16 kk
  apply hI
  intro nm rw_ bk op ds ar mo lo ea vs ps' Bs bs x hf hpa hsa hbl hp hvs hS nd ex fr hg hi hl
  cases hp with | @cons B ps' rl as ve vs hp1 hp2 hp3 hp4 hp5 hp6 hp=>
  obtain⟨rvs,r1,r2⟩:=hp1
  obtain⟨el,rfl,el1,elo⟩:=hp2
  obtain⟨hat,hvs⟩:=zIG hvs
  refine⟨_,.tup (.two (os':=[some (.ref pt),some (.ref en),some (.ref f),some (.int i),rw_,bk,op,ds,ar,mo,lo,ea,none,none,none,none,none]) (os'':=[some (.ref pt),some (.ref en),some (.ref f),some (.int i),some (.ref rl),bk,op,ds,ar,mo,lo,ea,none,none,none,none,none]) (by walk_at"r") (by walk_at"r")),?_⟩
  refine SnB.assignQ (Sn.newBlock T (by walk_at"r") (λ_ _=>rfl) (by walk_at"r") λb st fb G9 hb hst nbs x9 b9 fb1 fb2 st9=>⟨_,by walk_at"r",?_⟩)
  refine SnB.forN (a:=rl) (by walk_at"r") (x9 _ _ (x _ _ r1)) (Md1 G8 pt en f b st bl fb (some (.int i)) (some (.ref rl)) B.steps) (λ_ k=>k op ds ar mo lo ea B.steps [] [] x9 b9 st9 (r2.ext x) (λ_ _=>.nil) rfl (Nat.le_trans (Nat.le_of_eq (Nat.zero_add _)) hp6.1)) (λv xs m G10 hI=>?_) (λm G10 hI=>?_) λxs m G10 hI=>hI (λ_=>_) λ_ _ _ _ _ _ _ _ _ h _ _ _ _ _ _=>h _ _ (x _ _ r1)
  ·clear hN x9 b9 st9
   apply hI
   intro op ds ar mo lo ea qs' qs as' x10 hb10 hst10 hr hS1 hg1 hl1
   cases hr with | @cons q qs' _ _ hq hr=>
   obtain⟨la,rfl,la1,qo⟩:=hq
   have la1:=x10 _ _ la1
   have hbl10:=x10 _ _ hbl
   refine⟨_,.tup (.cons (Upd.bnd (os':=[some (.ref pt),some (.ref en),some (.ref f),some (.int i),some (.ref rl),some (.ref b),some (.str (opS q.op)),ds,ar,mo,lo,ea,none,none,none,none,none]) (by walk_at"r")) (.cons (Upd.bnd (os':=[some (.ref pt),some (.ref en),some (.ref f),some (.int i),some (.ref rl),some (.ref b),some (.str (opS q.op)),some (.int q.dst),ar,mo,lo,ea,none,none,none,none,none]) (by walk_at"r")) (.cons (Upd.bnd (os':=[some (.ref pt),some (.ref en),some (.ref f),some (.int i),some (.ref rl),some (.ref b),some (.str (opS q.op)),some (.int q.dst),some (.ref la),mo,lo,ea,none,none,none,none,none]) (by walk_at"r")) (.cons (Upd.bnd (os':=[some (.ref pt),some (.ref en),some (.ref f),some (.int i),some (.ref rl),some (.ref b),some (.str (opS q.op)),some (.int q.dst),some (.ref la),some q.more,lo,ea,none,none,none,none,none]) (by walk_at"r")) (.cons (Upd.bnd (os':=[some (.ref pt),some (.ref en),some (.ref f),some (.int i),some (.ref rl),some (.ref b),some (.str (opS q.op)),some (.int q.dst),some (.ref la),some q.more,some (.bool q.vol),ea,none,none,none,none,none]) (by walk_at"r")) .nil))))),.abs λQU hM _=>?_⟩
   have hqm:q∈B.steps:=by rw[<-hg1];exact List.mem_append_right _ (.head _)
   have hqw:=hp6.2 q hqm
   refine SnB.assignQ (Sn.newStepN (s:=q) T (by walk_at"r") (λ_ _=>rfl) (SnEs.cons (Rd.to (v:=.str (opS q.op)) (by walk_at"r") (SnEs.cons (Rd.to (v:=.int q.dst) (by walk_at"r") (SnEs.cons (Sn.ty (id:="list") T.blt (by decide) (by decide) (by walk_at"r") (λ_ _=>rfl) (Rds.to (vs:=[.ref la]) (by walk_at"r") (Blt.listLN la1 (by rw[List.length_map];exact Nat.le_trans hqw (by decide)) λlb G11 hlb x11 l11=>SnEs.cons (Rd.to (v:=q.more) (by walk_at"r") (SnEs.nil ⟨lb,rfl,λa fa G12 ha x12 fa1 a12=>⟨_,by walk_at"r",?_⟩⟩)))))))))))
   refine SnB.setAN (f:=.is_volatile) T.cls (by walk_at"r") (v:=.bool q.vol) (by walk_at"r") (by walk_at"r") a12 λG13 x13 a13=>?_
   have y13:Ext G10 G13:=(x11.trans x12).fresh (x11.none ha) x13
   have st13:=y13 _ _ hst10
   have b13:=y13 _ _ hb10
   have lb13:G13 lb=_:=x13.kind a12 (x12 _ _ l11)
   have nlb:=ne_new hst10 hlb
   have nlb2:=ne_new hbl10 hlb
   refine SnB.expr (Sn.meth .append (λ_ _=>rfl) (Rd.to (v:=.ref st) (.attr T.cls .steps (by walk_at"r") b13 fb2) ⟨.list st13,Rds.to (vs:=[.ref a]) (by walk_at"r") (Meth.appN st13 (by rw[List.length_map];exact zAC hl1 (by decide)) λG14 x14 st14=>?_)⟩))
   have y14:Ext G8 G14:=(x10.trans y13).fresh hst x14
   have abl:a≠bl:=Ne.symm (ne_new (x11 _ _ hbl10) ha)
   refine .nil (hM λ_ k=>k _ _ _ _ _ _ qs' (qs++[q]) (as'++[a]) y14 (x14.kind st13 b13) (by rw[st14,List.map_append];rfl) hr (λH xH=>?_) (by rw[<-hg1,List.append_assoc];rfl) (zA0 hl1))
   have xx:ExtB [b,st,bl] G13 H:=(x14.toB (.tail _ (.head _))).trans xH
   have ab:=Ne.symm (ne_new (x11 _ _ hb10) ha)
   have lbb:=Ne.symm (ne_new hb10 hlb)
   have nin:∀{z:Addr},z≠b->z≠st->z≠bl->z∉[b,st,bl]:=λh0 h1 h2=>zQ h0 (zQ h1 (zQ h2 yh))
   exact(hS1 H (y13.toB.trans xx)).snoc ⟨⟨_,lb,xx _ _ (nin ab (jl st13 a13) abl) a13,⟨fa1.op,fa1.dst,fa1.args,fa1.more,rfl,fa1.line⟩,xx _ _ (nin lbb (Ne.symm nlb) (Ne.symm nlb2)) lb13⟩,qo⟩
  ·clear x9 b9 st9
   apply hI
   intro op ds ar mo lo ea qs' qs as' x10 hb10 hst10 hr hS1 hg1 hl1
   cases hr
   have hg1:qs=B.steps:=by rw[<-hg1];exact(List.append_nil qs).symm
   subst hg1
   have el10:=x10 _ _ (x _ _ el1)
   have hen10:=x10 _ _ (x _ _ hen)
   refine .cons (.assignT (Rd.to (.idxL (by walk_at"r") hen10 (by walk_at"r") (by exact(show i<cap from hi▸zCw hl (by decide))) hat) ⟨_,.tup (.cons (Upd.bnd (os':=[some (.ref pt),some (.ref en),some (.ref f),some (.int i),some (.ref rl),some (.ref b),some (.str (opS B.fin.op)),ds,ar,mo,lo,ea,none,none,none,none,none]) (by walk_at"r")) (.cons (Upd.bnd (os':=[some (.ref pt),some (.ref en),some (.ref f),some (.int i),some (.ref rl),some (.ref b),some (.str (opS B.fin.op)),ds,some (.ref el),mo,lo,ea,none,none,none,none,none]) (by walk_at"r")) (.cons (Upd.bnd (os':=[some (.ref pt),some (.ref en),some (.ref f),some (.int i),some (.ref rl),some (.ref b),some (.str (opS B.fin.op)),ds,some (.ref el),some B.fin.more,lo,ea,none,none,none,none,none]) (by walk_at"r")) .nil))),.next ?_⟩))
   refine SnB.setAQ (f:=.end_) T.cls (by walk_at"r") (Sn.newStepN (s:=⟨B.fin.op,-1,B.fin.args,B.fin.more,false⟩) T (by walk_at"r") (λ_ _=>rfl) (SnEs.cons (Rd.to (v:=.str (opS B.fin.op)) (by walk_at"r") (SnEs.cons (Rd.to (v:=.int (-1)) (by walk_at"r") (SnEs.cons (Sn.ty (id:="list") T.blt (by decide) (by decide) (by walk_at"r") (λ_ _=>rfl) (Rds.to (vs:=[.ref el]) (by walk_at"r") (Blt.listLN el10 (by rw[List.length_map];exact Nat.le_trans hp5 (by decide)) λlb G11 hlb x11 l11=>SnEs.cons (Rd.to (v:=B.fin.more) (by walk_at"r") (SnEs.nil ⟨lb,rfl,λeo fa G12 heo x12 fa1 a12=>⟨b,.block,fb,by walk_at"r",x12 _ _ (x11 _ _ hb10),λG13 x13 b13=>?_⟩⟩)))))))))))
   rw[<-hp4] at fa1
   have y12:Ext G10 G12:=x11.trans x12
   have y13:Ext G8 G13:=(x10.trans y12).fresh hb x13
   have hfb:=ne_new hf hb
   have hblb:=ne_new hbl hb
   have f13:=y13 _ _ hf
   have bl13:=y13 _ _ hbl
   refine SnB.expr (Sn.meth .append (λ_ _=>rfl) (Rd.to (v:=.ref bl) (.attr T.cls .blocks (by walk_at"r") f13 fi.blocks) ⟨.list bl13,Rds.to (vs:=[.ref b]) (by walk_at"r") (Meth.appN bl13 (by rw[List.length_map];exact zAC hl (by decide)) λG14 x14 bl14=>?_)⟩))
   have nstbl:st≠bl:=Ne.symm (ne_new hbl hst)
   have neob:eo≠b:=Ne.symm (ne_new (x11 _ _ hb10) heo)
   have nlbb:lb≠b:=Ne.symm (ne_new hb10 hlb)
   have nlbbl:lb≠bl:=Ne.symm (ne_new (x10 _ _ hbl) hlb)
   have neobl:eo≠bl:=Ne.symm (ne_new (x11 _ _ (x10 _ _ hbl)) heo)
   have eo13:=x13 _ _ neob a12
   have lb13:=x13 _ _ nlbb (x12 _ _ l11)
   have st13:=x13.kind (y12 _ _ hb10) (y12 _ _ hst10)
   have bnin:b∉bs:=λz=>zHf (ex b z) hb rfl
   have hx14:Ext G G14:=(x.trans y13).fresh b1 x14
   refine .nil (hN λ_ k=>k _ _ _ _ _ _ _ _ _ vs ps' (Bs++[B]) (bs++[b]) hx14 (x14.kind bl13 f13) (x14 _ _ npb (y13 _ _ hpa)) (x14 _ _ (Ne.symm nsa) (y13 _ _ hsa)) (by rw[bl14,List.map_append];rfl) hp hvs (λH xH=>?_) (zHg nd bnin) (λz hz=>?_) (λz hz=>(List.mem_append.mp hz).elim (fr z) λq=>by rw[List.mem_singleton.mp q];exact x.none hb) (by rw[<-hg,List.append_assoc];rfl) (by rw[List.length_append,List.length_singleton,<-hi]) (zA0 hl))
   ·have x1H:ExtB [bl] G13 H:=(x14.toB (.head _)).trans xH
    have nin:∀{z:Addr},z≠bl->z∉[bl]:=λh=>zQ h yh
    have x3H:ExtB [b,st,bl] G10 H:=λz o hz e=>x1H _ _ (nin (zE6 (vE (vE hz)))) (x13 _ _ (zE6 hz) (y12 _ _ e))
    have hE:Zv H B.fin B.ways:=hp3.keep λz o _ e=>x1H _ _ (λq=>by rw[List.mem_singleton.mp q,b1] at e;cases e) (y13 _ _ (x _ _ e))
    exact Zd.snoc (hS1 H x3H) ⟨⟨_,lb,x1H _ _ (nin neobl) eo13,fa1,x1H _ _ (nin nlbbl) lb13⟩,elo⟩ hE (hS H (y13.toB.trans x1H)) (by rw[Int.zero_add,hi]) ⟨_,st,x1H _ _ (nin (Ne.symm hblb)) b13,⟨fb1,fb2,rfl⟩,x1H _ _ (nin nstbl) st13⟩
   ·have hk:∀{w o},G13 w=some o->(G14 w).isSome=true:=λ{w o} e=>by
     by_cases q:w=bl
     ·rw[q,bl14];rfl
     ·rw[x14 _ _ q e];rfl
    rcases List.mem_append.mp hz with hz | hz
    ·obtain⟨o,e⟩:=Option.isSome_iff_exists.mp (ex z hz)
     exact hk (y13 _ _ e)
    ·rw[List.mem_singleton.mp hz];exact hk b13
 ·apply hI
  intro nm rw_ bk op ds ar mo lo ea vs ps' Bs bs x hf hpa hsa hbl hp hvs hS nd ex fr hg hi hl
  cases hp with | nil=>
  have hg:Bs=Bs0:=by rw[<-hg];exact(List.append_nil Bs).symm
  subst hg
  exact .retB (Rd.to (v:=.ref f) (by walk_at"r") (kk f bs G8 x ⟨ff,pa,sa,bl,hf,fi,hpa,hsa,hbl⟩ (hS G8 .refl) nd fr))
end
noncomputable section
variable {X:Cx}{n:Nat}{G:Gh}{sc:Scope}{os os' os'':List (Option Val)}{m:M}{v w:Val}
theorem Zm.snoc {ps:List PS}{vs:List Val}{p:PS}{v:Val}(h:Zm G ps vs)(k:RowV G p v):Zm G (ps++[p]) (vs++[v]):=h.append (.cons k .nil)
inductive LsA (G0:Gh)(goal:List PS)(xs acc:List Val)(G:Gh):Prop where
 | mk (as:List Addr) (ps qs:List PS) (e1:xs=as.map .ref) (x:Ext G0 G) (hs:Zb G0 as ps) (hr:Zm G qs acc) (hg:qs++ps=goal) (hf:∀p∈ps,p.args.length<=8)
inductive LsB (G0:Gh)(goal:List (List PS))(xs acc:List Val)(G:Gh):Prop where
 | mk (i:Int) (bs rls:List Addr) (Bs:List PB) (qs:List (List PS)) (e1:xs=bs.map .ref) (e2:acc=rls.map .ref) (x:Ext G0 G) (hB:Zd G0 i bs Bs) (hr:RLs G qs rls) (hg:qs++Bs.map (·.steps)=goal) (hm:∀B∈Bs,B.steps.length<=900/\∀p∈B.steps,p.args.length<=8)
theorem j9 {f:Addr}{pr:List Int}{sl:Zg}{bs:List Addr}{Bs:List PB}{Q:QE}(T:Tops X)(hf:Zk G f pr sl bs)(hB:Zd G 0 bs Bs)(ok:FnOK Bs)(kk:∀r rls G',Ext G G'->G' r=some (.list (rls.map .ref))->RLs G' (lstB Bs) rls->Q (.ref r) G'):Cal X (n+1) wC [.ref f] G Q:=by
 refine' Cal.start (os:=?os) T.d_law_listing ?q ?b;case q=>walk_at"r"
 case b=>
 obtain⟨ff,fp,fl,fb,f1,⟨g1,g2,g3⟩,f2,f3,f4⟩:=id hf
 have hbl:=hB.length
 have hfew:=ok.few
 refine .retB (Sn.comp (by decide +kernel) (.seq (Rd.to (v:=.ref fb) (by walk_at"r") ⟨_,_,.list f4,by rw[List.length_map];unfold cap;lia,LsB G (lstB Bs),.cap (sc':=uJ) [none,none] ⟨?_,?_⟩ (capn (capn (cap0))),⟨0,bs,[],Bs,[],rfl,rfl,.refl,hB,.nil,rfl,λB hB=>⟨(ok.blks B hB).len,λp hp=>((ok.blks B hB).wf p hp).few⟩⟩⟩)))
 ·intro v xs acc G2 hI
  obtain⟨i,bs',rls,Bs',qs,e1,rfl,x,hB',hr,hg,hm⟩:=hI
  obtain⟨b,bs',rfl,rfl,rfl⟩:=zr e1
  cases hB' with | @cons _ _ eo sts _ B Bs' hb1 hb2 hb3 hb4 hB'=>
  obtain⟨fbb,stl,q1,⟨b1,b2,b3⟩,q3⟩:=hb1
  obtain⟨m1,m2⟩:=hm B (.head _)
  have al:=hb2.length
  have q1:=x _ _ q1
  refine⟨x _ _ f4,_,Upd.bnd (os:=[none,none]) (os':=[none,some (.ref b)]) (by walk_at"r"),.nil ⟨λ_=>?_,λq=>nomatch q⟩⟩
  refine Sn.comp (by decide +kernel) (.seq (Rd.to (v:=.ref stl) (by walk_at"r") ⟨_,_,.list (x _ _ q3),?_,LsA G2 B.steps,.cap (sc':=uK) [none,none,none] ⟨?_,?_⟩ (capn (capn (capn (cap0)))),⟨sts,B.steps,[],rfl,.refl,hb2.ext x,.nil,rfl,m2⟩⟩))
  ·rw[List.length_map];unfold cap;lia
  ·intro v xs acc G3 hI
   obtain⟨as,ps,ks,e1,x3,hs,hr3,hg3,hf3⟩:=hI
   obtain⟨a,as,rfl,rfl,rfl⟩:=zr e1
   cases hs with | @cons _ p _ ps s1 s2=>
   obtain⟨⟨fs,la,h1,⟨p1,p2,p3,p4,p5,_⟩,h2⟩,ho⟩:=s1.ext x3
   have hpl:=hf3 p (.head _)
   refine⟨x3 _ _ (x _ _ q3),_,Upd.bnd (os:=[none,none,none]) (os':=[none,some (.ref a),none]) (by walk_at"r"),.nil ⟨λ_=>?_,λq=>nomatch q⟩⟩
   refine Sn.tup (SnEs.cons (Rd.to (v:=.str (opS p.op)) (by walk_at"r") (SnEs.cons (Rd.to (v:=.int p.dst) (by walk_at"r") (SnEs.cons (Sn.ty (id:="list") T.blt (by decide) (by decide) (by walk_at"r") (λ_ _=>rfl) (Rds.to (vs:=[.ref la]) (by walk_at"r") (Blt.listLN h2 (by rw[List.length_map];lia) λlb G4 hlb x4 l4=>?_))))))))
   have h1':=x4 _ _ h1
   exact SnEs.cons (Rd.to (v:=p.more) (by walk_at"r") (SnEs.cons (Rd.to (v:=.bool p.vol) (by walk_at"r") (SnEs.nil ⟨by show 5<cap;decide,as,ps,ks++[p],rfl,x3.trans x4,s2,(hr3.ext x4).snoc ⟨lb,rfl,l4,ho⟩,by rw[<-hg3,List.append_assoc];rfl,zH hf3⟩))))
  ·intro acc G3 hI
   obtain⟨as,ps,ks,e1,x3,hs,hr3,hg3,hf3⟩:=hI
   obtain rfl:=wO e1
   cases hs
   have hg3:ks=B.steps:=by rw[<-hg3];exact(List.append_nil ks).symm
   subst hg3
   refine⟨x3 _ _ (x _ _ q3),NewL.nl λr G4 hr4 x4 e4=>⟨i+1,bs',rls++[r],Bs',qs++[B.steps],rfl,by rw[List.map_append];rfl,x.trans (x3.trans x4),hB',(hr.map λ_ _ h=>h.ext (x3.trans x4)).snoc ⟨acc,e4,hr3.ext x4⟩,by rw[<-hg,List.append_assoc];rfl,zH hm⟩⟩
 ·intro acc G2 hI
  obtain⟨i,bs',rls,Bs',qs,e1,rfl,x,hB',hr,hg,_⟩:=hI
  obtain rfl:=wO e1
  cases hB'
  have hg:qs=lstB Bs:=by rw[<-hg];exact(List.append_nil qs).symm
  subst hg
  exact⟨x _ _ f4,NewL.nl λr G3 hr3 x3 e3=>kk r rls G3 (x.trans x3) e3 (hr.map λ_ _ h=>h.ext x3)⟩
inductive EnsV (G:Gh):List PB->List Val->Prop
 | nil:EnsV G [] []
 | cons {B:PB} {Bs:List PB} {v:Val} {vs:List Val} (h:EndV G B.fin v) (t:EnsV G Bs vs):EnsV G (B::Bs) (v::vs)
theorem EnsV.ext {G':Gh}{Bs:List PB}{vs:List Val}(h:EnsV G Bs vs)(x:Ext G G'):EnsV G' Bs vs:=by
 induction h with
 | nil=>exact .nil
 | cons a _ ih=>exact .cons (a.ext x) ih
theorem EnsV.snoc {B:PB}{Bs:List PB}{v:Val}{vs:List Val}(h:EnsV G Bs vs)(k:EndV G B.fin v):EnsV G (Bs++[B]) (vs++[v]):=by
 induction h with
 | nil=>exact .cons k .nil
 | cons a _ ih=>exact .cons a ih
inductive LsE1 (G0:Gh)(goal:List PB)(xs acc:List Val)(G:Gh):Prop where
 | mk (i:Int) (bs:List Addr) (Bs Ds:List PB) (e1:xs=bs.map .ref) (x:Ext G0 G) (hB:Zd G0 i bs Bs) (hr:EnsV G Ds acc) (hg:Ds++Bs=goal) (hm:∀B∈Bs,B.fin.args.length<=8)
theorem zBo {f:Addr}{pr:List Int}{sl:Zg}{bs:List Addr}{Bs:List PB}{Q:QE}(T:Tops X)(hf:Zk G f pr sl bs)(hB:Zd G 0 bs Bs)(hl:Bs.length<=16)(h8:∀B∈Bs,B.fin.args.length<=8)(kk:∀r vs G',Ext G G'->G' r=some (.list vs)->EnsV G' Bs vs->Q (.ref r) G'):Cal X (n+1) yL [.ref f] G Q:=by
 refine' Cal.start (os:=?os) T.d_law_ends ?q ?b;case q=>walk_at"r"
 case b=>
 obtain⟨ff,fp,fl,fb,f1,⟨g1,g2,g3⟩,f2,f3,f4⟩:=id hf
 have hbl:=hB.length
 refine .retB (Sn.comp (by decide +kernel) (.seq (Rd.to (v:=.ref fb) (by walk_at"r") ⟨_,_,.list f4,by rw[List.length_map];unfold cap;lia,LsE1 G Bs,.cap (sc':=vb) [none,none,none] ⟨?_,?_⟩ (capn (capn (capn (cap0)))),⟨0,bs,Bs,[],rfl,.refl,hB,.nil,rfl,h8⟩⟩)))
 ·intro v xs acc G2 hI
  obtain⟨i,bs',Bs',Ds,e1,x,hB',hr,hg,hm⟩:=hI
  obtain⟨b,bs',rfl,rfl,rfl⟩:=zr e1
  cases hB' with | @cons _ _ eo sts _ B Bs' hb1 hb2 hb3 hb4 hB'=>
  obtain⟨fbb,stl,q1,⟨b1,b2,b3⟩,q3⟩:=hb1
  have hpl:=hm B (.head _)
  have q1:=x _ _ q1
  obtain⟨⟨fs,la,h1,⟨p1,p2,p3,p4,p5,_⟩,h2⟩,ho⟩:=hb3.ext x
  refine⟨x _ _ f4,_,Upd.bnd (os:=[none,none,none]) (os':=[none,some (.ref b),none]) (by walk_at"r"),.nil ⟨λ_=>?_,λq=>nomatch q⟩⟩
  refine Sn.tup (SnEs.cons (Rd.to (v:=.str (opS B.fin.op)) (by walk_at"r") (SnEs.cons (Sn.ty (id:="list") T.blt (by decide) (by decide) (by walk_at"r") (λ_ _=>rfl) (Rds.to (vs:=[.ref la]) (by walk_at"r") (Blt.listLN h2 (by rw[List.length_map];lia) λlb G4 hlb x4 l4=>?_))))))
  have h1':=x4 _ _ h1
  have q1':=x4 _ _ q1
  exact SnEs.cons (Rd.to (v:=B.fin.more) (by walk_at"r") (SnEs.nil ⟨by show 3<cap;decide,i+1,bs',Bs',Ds++[B],rfl,x.trans x4,hB',(hr.ext x4).snoc ⟨lb,rfl,l4,ho⟩,by rw[<-hg,List.append_assoc];rfl,zH hm⟩))
 ·intro acc G2 hI
  obtain⟨i,bs',Bs',Ds,e1,x,hB',hr,hg,_⟩:=hI
  obtain rfl:=wO e1
  cases hB'
  have hg:Ds=Bs:=by rw[<-hg];exact(List.append_nil Ds).symm
  subst hg
  exact⟨x _ _ f4,NewL.nl λr G3 hr3 x3 e3=>kk r acc G3 (x.trans x3) e3 (hr.ext x3)⟩
inductive BdI (F:Int->Option Val->Option Val->Option Val->Option Val->Option Val->M)(G0:Gh)(goal:Int)(xs:List Val)(m:M)(G:Gh):Prop where
 | mk (k:Int) (a b c d e:Option Val) (ps:List PS) (e2:m=F k a b c d e) (eG:G=G0) (h:Zm G0 ps xs) (hd:∀p∈ps,DrW p) (hg:ps.foldl (λk p=>if cntP p then k+1 else k) k=goal)
theorem zJx:∀k<36,([PyData.str "call",.str "move"].any λe=>e.eqv (.str (opS k)))=(Nat.beq k 3||Nat.beq k 2):=by decide +kernel
theorem zBH {ra:Addr}{ps:List PS}{Q:QE}(T:Tops X)(hr:RowL G ps ra)(hd:∀p∈ps,DrW p)(kq:Q (.int (bndP ps)) G):Cal X (n+1) wh [.ref ra] G Q:=by
 refine' Cal.start (os:=?os) T.d_law_bound ?q ?b;case q=>walk_at"r"
 case b=>
 obtain⟨vs,hra,hv⟩:=hr
 refine SnB.assign (v:=.int 0) .int (by walk_at"r") ?_
 refine SnB.forN (a:=ra) (by walk_at"r") hra (BdI (λk a b c d e=>L yU [some (.ref ra),some (.int k),a,b,c,d,e,none]) G (bndP ps)) ⟨0,none,none,none,none,none,ps,rfl,rfl,hv,hd,rfl⟩ (λv xs m G1 hI=>?_) (λm G1 hI=>?_) λxs m G1 hI=>by obtain⟨_,_,_,_,_,_,_,_,rfl,_⟩:=hI;exact hra
 ·obtain⟨k,a,b,c,d,e,ps,rfl,rfl,hv,hd,hg⟩:=hI
  cases hv with | @cons p ps _ _ hp hv=>
  obtain⟨la,rfl,hla,ho⟩:=hp
  refine⟨_,.tup (.cons (Upd.bnd (os':=[some (.ref ra),some (.int k),some (.str (opS p.op)),b,c,d,e,none]) (by walk_at"r")) (.cons (Upd.bnd (os':=[some (.ref ra),some (.int k),some (.str (opS p.op)),some (.int p.dst),c,d,e,none]) (by walk_at"r")) (.cons (Upd.bnd (os':=[some (.ref ra),some (.int k),some (.str (opS p.op)),some (.int p.dst),some (.ref la),d,e,none]) (by walk_at"r")) (.cons (Upd.bnd (os':=[some (.ref ra),some (.int k),some (.str (opS p.op)),some (.int p.dst),some (.ref la),some p.more,e,none]) (by walk_at"r")) (.cons (Upd.bnd (os':=[some (.ref ra),some (.int k),some (.str (opS p.op)),some (.int p.dst),some (.ref la),some p.more,some (.bool p.vol),none]) (by walk_at"r")) .nil))))),?_⟩
  have hc:cntP p=(p.vol||((Nat.beq p.op 3||Nat.beq p.op 2)||(wH p.op&&(p.args.getD 1 (false,0)).1))):=by unfold cntP;rw[Bool.or_assoc,Bool.or_assoc,Bool.or_assoc]
  refine SnB.ifs (r:=cntP p) (hc▸.or (.val (by walk_at"r") .b) λ_=>.or (.cmp (w:=.tup [.str "call",.str "move"]) (by walk_at"r") (by walk_at"r") (.inD (.str (zCK _ ho)) (.inl (.tup' (.cons (.str (by decide +kernel)) (.cons (.str (by decide +kernel)) .nil)))) ⟨by rw[zJx _ ho],rfl⟩)) λ_=>.or1 (.and (.inOver T (by walk_at"r") (by walk_at"r") ho) λq=>.and1 ?_)) (λq=>?_) λq=>?_
  ·obtain⟨o,ho1⟩:∃o,p.args[1]?=some o:=⟨_,List.getElem?_eq_getElem ((zIH (hd p (.head _))).div q)⟩
   rw[List.getD_eq_getElem?_getD,ho1]
   exact zId (.opK (.idxL (by walk_at"r") hla .int (by decide) (zV (f:=opdV) ho1)))
  ·exact .assign (v:=.int (k+1)) (.bin (by walk_at"r") .int (.add ⟨rfl,rfl⟩)) (by walk_at"r") (.nil (.next (.nil (.next ⟨_,_,_,_,_,_,ps,rfl,rfl,hv,zH hd,by rw[<-hg,List.foldl_cons,q];rfl⟩))))
  ·exact .nil (.next (.nil (.next ⟨_,_,_,_,_,_,ps,rfl,rfl,hv,zH hd,by rw[<-hg,List.foldl_cons,q];rfl⟩)))
 ·obtain⟨k',a,b,c,d,e,ps',rfl,rfl,hv,hd,hg⟩:=hI
  cases hv
  have hg:k'=bndP ps:=hg
  subst hg
  exact .retB (Rd.to (v:=.int (bndP ps)) (by walk_at"r") kq)
end
noncomputable section
variable {X:Cx}{n:Nat}{G:Gh}{sc:Scope}{os os' os'':List (Option Val)}{m:M}{v w:Val}
theorem SnB.ifsX {Q:QS}{t:Expr}{a c sts:List Stmt}{pos:Pos}{r:Bool}(h:SnT X n sc t m G λr' G'=>r'=r/\Ext G G')(ha:r=true->∀G',Ext G G'->SnB X n sc a m G' (Then X n sc sts Q))(hb:r=false->∀G',Ext G G'->SnB X n sc c m G' (Then X n sc sts Q)):SnB X n sc (.If t a c pos::sts) m G Q:=
 .cons (.ifs (h.mono λr' G' q=>⟨λe=>ha (q.1▸e) G' q.2,λe=>hb (q.1▸e) G' q.2⟩))
theorem Zm.get {ps:List PS}{vs:List Val}(h:Zm G ps vs):∀{i:Nat} {p:PS},ps[i]?=some p->∃v,vs[i]?=some v/\RowV G p v:=by
 induction h with
 | nil=>intro i p e;cases e
 | cons a _ ih=>
  intro i p e
  cases i with
  | zero=>cases e;exact⟨_,rfl,a⟩
  | succ i=>exact ih (i:=i) e
theorem jp {vs:List Val}{i:Nat}{v:Val}(h:vs[i]?=some v):wW vs (i:Int)=some v:=by
 unfold wW
 rw[if_pos (Int.natCast_nonneg i),Int.toNat_natCast];exact h
inductive LeI (F:Nat->Option Val->Option Val->Option Val->Option Val->Option Val->M)(G0:Gh)(left:List PS)(goal:Nat)(xs:List Val)(m:M)(G:Gh):Prop where
 | mk (k:Nat) (a b c d e:Option Val) (ps:List PS) (e2:m=F k a b c d e) (x:Ext G0 G) (h:Zm G0 ps xs) (hd:∀p∈ps,Zp p.more) (hg:ps.foldl (ja left) k=goal) (hk:k<=left.length)
theorem zGw:3<36:=by decide
theorem v8 {la wa:Addr}{ls ws:List PS}{Q:QE}(T:Tops X)(hl:RowL G ls la)(hw:RowL G ws wa)(ml:∀p∈ls,Zp p.more)(mw:∀p∈ws,Zp p.more)(h1000:ls.length<=1000)(kk:∀G',Ext G G'->Q (.bool (zEi ls ws)) G'):Cal X (n+1) wD [.ref la,.ref wa] G Q:=by
 refine' Cal.start (os:=?os) T.d_law_is_less ?q ?b;case q=>walk_at"r"
 case b=>
 obtain⟨lvs,e1,hlv⟩:=hl
 obtain⟨wvs,e2,hwv⟩:=hw
 have hll:=hlv.length
 refine SnB.assign (v:=.int 0) .int (by walk_at"r") ?_
 refine SnB.forN (a:=wa) (by walk_at"r") e2 (LeI (λk a b c d e=>L zd [some (.ref la),some (.ref wa),some (.int k),a,b,c,d,e,none]) G ls (ws.foldl (ja ls) 0)) ⟨0,none,none,none,none,none,ws,rfl,.refl,hwv,mw,rfl,Nat.zero_le _⟩ (λv xs m G1 hI=>?_) (λm G1 hI=>?_) λxs m G1 hI=>by obtain⟨_,_,_,_,_,_,_,_,x,_⟩:=hI;exact x _ _ e2
 ·obtain⟨k,a,b,c,d,e,ps,rfl,x,hv,hd,hg,hk⟩:=hI
  cases hv with | @cons p ps _ _ hp hv=>
  obtain⟨ga,rfl,hga,ho⟩:=hp
  refine⟨_,.tup (.cons (Upd.bnd (os':=[some (.ref la),some (.ref wa),some (.int k),some (.str (opS p.op)),b,c,d,e,none]) (by walk_at"r")) (.cons (Upd.bnd (os':=[some (.ref la),some (.ref wa),some (.int k),some (.str (opS p.op)),some (.int p.dst),c,d,e,none]) (by walk_at"r")) (.cons (Upd.bnd (os':=[some (.ref la),some (.ref wa),some (.int k),some (.str (opS p.op)),some (.int p.dst),some (.ref ga),d,e,none]) (by walk_at"r")) (.cons (Upd.bnd (os':=[some (.ref la),some (.ref wa),some (.int k),some (.str (opS p.op)),some (.int p.dst),some (.ref ga),some p.more,e,none]) (by walk_at"r")) (.cons (Upd.bnd (os':=[some (.ref la),some (.ref wa),some (.int k),some (.str (opS p.op)),some (.int p.dst),some (.ref ga),some p.more,some (.bool p.vol),none]) (by walk_at"r")) .nil))))),?_⟩
  have hle:=x _ _ e1
  have len:∀{p1 p2 p3 p4 p5:Pos},RdT X n zd (.Compare (.Name "place" p1) [.Lt] [.Call (.Name "len" p2) [.Name "left" p3] [] p4] p5) (L zd [some (.ref la),some (.ref wa),some (.int k),some (.str (opS p.op)),some (.int p.dst),some (.ref ga),some p.more,some (.bool p.vol),none]) G1 (decide ((k:Int)<lvs.length)):=.cmp (by walk_at"r") (.fn (id:="len") T.blt (by decide) (by decide) (by walk_at"r") (λ_ _=>rfl) (vs:=[.ref la]) (by walk_at"r") (Blt.lenL hle (by rw[hll];exact Nat.lt_of_le_of_lt h1000 (by decide)) ⟨rfl,rfl⟩)) (.lt ⟨rfl,rfl⟩)
  rw[List.foldl_cons] at hg
  have hmp:=hd p (.head _)
  cases hq:ls[k]? with
  | none=>
   have e0:ja ls k p=k:=by unfold ja;rw[hq];rfl
   rw[e0] at hg
   have hk2:=List.getElem?_eq_none_iff.mp hq
   exact .ifsX (r:=false) (.and (len.to ⟨λq=>absurd (of_decide_eq_true q) (by rw[hll];exact Int.not_lt.mpr (Int.ofNat_le.mpr hk2)),λ_=>⟨rfl,.refl⟩⟩)) (λq=>(nomatch q)) λ_ G2 x2=>.nilT (.nil (.next ⟨k,_,_,_,_,_,ps,rfl,x.trans x2,hv,zH hd,hg,hk⟩))
  | some q=>
   obtain⟨vx,hvx,hrx⟩:=hlv.get hq
   have hkl:=(List.getElem?_eq_some_iff.mp hq).1
   have hmq:=ml q (List.mem_of_getElem? hq)
   have e0:ja ls k p=if mtP q p then k+1 else k:=by unfold ja;rw[hq];rfl
   rw[e0] at hg
   refine .ifsX (r:=eqP p q||eqP (u5 p) q) (.and (len.to ⟨λ_=>.and1 (.cmp (Rd.to (v:=vx) (.idxL (by walk_at"r") hle (by walk_at"r") (by exact(show k<cap from Nat.lt_of_lt_of_le hkl (Nat.le_trans h1000 (by decide)))) (jp hvx)) (Sn.listE (SnEs.cons (Rd.to (v:=.tup [.str (opS p.op),.int p.dst,.ref ga,p.more,.bool p.vol]) (by walk_at"r") (SnEs.cons (Rd.to (v:=.tup [.str "call",.int (-1),.ref ga,p.more,.bool p.vol]) (by walk_at"r") (SnEs.nil ⟨rfl,λc G2 hc x2 e2=>?_⟩)) (λ_=>rfl))) (λ_=>rfl))))),λe=>absurd (of_decide_eq_false e) (λq=>q (by rw[hll];exact Int.ofNat_lt.mpr hkl))⟩)) (λc G2 x2=>?_) λc G2 x2=>?_
   ·have h1:RowV G2 p (.tup [.str (opS p.op),.int p.dst,.ref ga,p.more,.bool p.vol]):=⟨ga,rfl,x2 _ _ (x _ _ hga),ho⟩
    have h2:RowV G2 (u5 p) (.tup [.str "call",.int (-1),.ref ga,p.more,.bool p.vol]):=⟨ga,rfl,x2 _ _ (x _ _ hga),zGw⟩
    exact .inD ((hrx.ext (x.trans x2)).rd (k:=9) hmq) (.inr (.list' e2 (.cons (h1.rd (k:=8) hmp) (.cons (h2.rd (k:=8) hmp) .nil)))) ⟨_,.b,by rw[<-zFG p q ho (hlv.ops q (List.mem_of_getElem? hq)),<-zFG (u5 p) q zGw (hlv.ops q (List.mem_of_getElem? hq))];show (_||(_||false))=_;rw[Bool.or_false],x2⟩
   ·obtain⟨gq,rfl,hgq,hqo⟩:=hrx
    have eb:mtP q p=Nat.beq q.op p.op:=by unfold mtP;rw[c,Bool.true_and]
    rw[eb] at hg
    refine SnB.ifs (r:=Nat.beq q.op p.op) (.cmp (v:=.str (opS q.op)) (w:=.str (opS p.op)) (.idxT (.idxL (by walk_at"r") (x2 _ _ hle) (by walk_at"r") (by exact(show k<cap from Nat.lt_of_lt_of_le hkl (Nat.le_trans h1000 (by decide)))) (jp hvx)) .int (by decide) rfl) (by walk_at"r") (.eqS ⟨by rw[zE0 _ hqo _ ho],rfl⟩)) (λz=>?_) λz=>?_
    ·rw[z,if_pos rfl] at hg
     exact .assign (v:=.int ((k+1:Nat):Int)) (.bin (by walk_at"r") .int (.add ⟨rfl,rfl⟩)) (by walk_at"r") (.nil (.next (.nil (.next (.nil (.next ⟨k+1,_,_,_,_,_,ps,rfl,x.trans x2,hv,zH hd,hg,hkl⟩))))))
    ·rw[z,if_neg Bool.false_ne_true] at hg
     exact .nil (.next (.nil (.next (.nil (.next ⟨k,_,_,_,_,_,ps,rfl,x.trans x2,hv,zH hd,hg,hk⟩)))))
   ·have eb:mtP q p=false:=by unfold mtP;rw[c];rfl
    rw[eb,if_neg Bool.false_ne_true] at hg
    exact .nilT (.nil (.next ⟨k,_,_,_,_,_,ps,rfl,x.trans x2,hv,zH hd,hg,hk⟩))
 ·obtain⟨k,a,b,c,d,e,ps',rfl,x,hv,hd,hg,hk⟩:=hI
  cases hv
  have hg:k=ws.foldl (ja ls) 0:=hg
  have er:zEi ls ws=decide ((k:Int)=lvs.length):=by
   unfold zEi
   rw[<-hg,Bool.eq_iff_iff,Nat.beq_eq,decide_eq_true_iff,hll]
   exact Int.ofNat_inj.symm
  have kq:=kk G1 x
  rw[er] at kq
  exact .retB (Rd.to (.cmp (by walk_at"r") (.fn (id:="len") T.blt (by decide) (by decide) (by walk_at"r") (λ_ _=>rfl) (vs:=[.ref la]) (by walk_at"r") (Blt.lenL (x _ _ e1) (by rw[hll];exact Nat.lt_of_le_of_lt h1000 (by decide)) ⟨rfl,rfl⟩)) (.eqI ⟨rfl,rfl⟩)) kq)
end
noncomputable section
variable {X:Cx}{n:Nat}{G:Gh}{sc:Scope}{os os' os'':List (Option Val)}{m:M}{v w:Val}
theorem zG8 {env:Env}{A:Around}{s:Shared}{f:Value}{P:Args->Shared->Prop}:∀l:List (Bool×Sem Value),l.any (·.1)=false->wpAny (model X.prog X.w) A (spliced l) (λys s₁=>P ⟨ys,[]⟩ s₁) NoE s->wpAny (model X.prog X.w) A (evalArgs f true l []) P NoE s:=by
 intro l hl h
 cases l with
 | nil=>
  unfold evalArgs
  show wpAny _ A (spliced [] >>= _) _ _ s
  refine wpAny_bind (zA h λvs s' h'=>?_)
  refine wpAny_bind (wpAny_pure ?_)
  refine wpAny_holding ?_
  exact wpAny_bind (wpAny_pure (wpAny_bind (wpAny_pure (wpAny_pure h'))))
 | cons p l=>
  obtain⟨q,t⟩:=p
  rw[List.any_cons,Bool.or_eq_false_iff] at hl
  obtain rfl:q=false:=hl.1
  exact Calls.evalArgs_plain h
theorem Rd.isBool {e:Expr}{c:Bool}{p p2 pos:Pos}(hx:Zx X)(hk:Ze sc "isinstance")(hk2:Ze sc "bool")(h:Rd X n sc e m G (.bool c))(hn:Zj [e,.Name "bool" p2]:=by exact λ_ _=>rfl)(hs:NS e:=by intro _ _;rfl):Rd X n sc (.Call (.Name "isinstance" p) [e,.Name "bool" p2] [] pos) m G (.bool true):=⟨λ{env A b s} hy=>
 PyProof.Rows.Call_ (wpAny_Name (zAD hy.he hy.hb hy.hr hk (hx.mg "isinstance" (by decide)) (hx.fn "isinstance" (by decide)) (Calls.callWith_builtin (first:=[]) (hn.any _ _) (zG8 (env:=env) _ (hn.any _ _) (args_cons (Sn.use h hy λx s₁ v G1 hv hy1 f1 q=>by
  obtain⟨rfl,rfl⟩:=q
  rw[hv.bool_inv]
  refine args_cons (wpAny_Name (zAD hy1.he hy1.hb hy1.hr hk2 (hx.mg "bool" (by decide)) (hx.ty "bool" (by decide)) (args_nil ?_)) (hk2.dbg hy1.he))
  exact PySem.IsiPair.bool_bool (.mk _ _ (.bool _) hy1.hr f1 ⟨rfl,rfl⟩)) (hs _ _))))) (hk.dbg hy.he))⟩
theorem Blt.allL {Q:QE}{a:Addr}{bs:List Bool}(e:G a=some (.list (bs.map .bool)))(hl:bs.length<cap)(q:Q (.bool (bs.all id)) G):Blt X n (.builtin "all") [.ref a] G Q:=.one ⟨λ{A b s x} hA hb hr hv=>by
 rw[hv.ref_inv]
 obtain⟨zs,k,_,ho,hs,hlen⟩:=zJ hr e
 have hL:s.heap.IsList a zs:=⟨_,ho,rfl,k,rfl⟩
 refine call_all_walk (wpAny_pyIter_list hL ?_)
 have hne:a≠s.heap.objs.size:=Nat.ne_of_lt (Heap.lt_size ho)
 refine⟨s.heap.objs.size,_,_,_,_,_,λi=>bs.getD i true,rfl,Walks.list (A:=A.in1) hA.hd _ a hne zs,⟨⟨_,Heap.get?_push_size _ rfl,rfl,rfl⟩,hL.push _⟩,λi v s' Q' E' hP hQ'=>?_,λh4 tk4 kp6=>?_⟩
 ·have hiz:i<zs.size:=(Array.getElem?_eq_some_iff.mp hP).1
  rw[List.length_map] at hlen
  have hi:i<bs.length:=by lia
  have hv2:=hs.at_ i (.bool bs[i]) v (by rw[List.getElem?_map,List.getElem?_eq_getElem hi];rfl) (by rw[Array.getElem?_toList];exact hP)
  rw[hv2.bool_inv]
  have hQ':Q' (bs.getD i true) s':=hQ'
  rw[show bs.getD i true=bs[i] by rw[List.getD_eq_getElem?_getD,List.getElem?_eq_getElem hi];rfl] at hQ'
  exact wpAny_truthy_bool hQ'
 ·have e2:((List.range zs.size).all λi=>bs.getD i true)=bs.all id:=by
   rw[List.length_map] at hlen
   rw[<-hlen,Bool.eq_iff_iff,List.all_eq_true,List.all_eq_true]
   refine⟨λh b hb=>?_,λh i hi=>?_⟩
   ·obtain⟨i,hi⟩:=List.getElem?_of_mem hb
    have:=h i (List.mem_range.mpr (List.getElem?_eq_some_iff.mp hi).1)
    rw[List.getD_eq_getElem?_getD,hi] at this
    exact this
   ·have hi:=List.mem_range.mp hi
    rw[List.getD_eq_getElem?_getD,List.getElem?_eq_getElem hi]
    exact h _ (List.getElem_mem hi)
  rw[e2]
  exact Out.grow (s:=s) (tk:=tk4) hr (.bool _) (λa' o e=>kp6 a' o (by rw[List.mem_singleton];exact Nat.ne_of_lt (Heap.lt_size e)) (Heap.get?_push_of_some _ e)) q⟩
end
noncomputable section
variable {X:Cx}{n:Nat}{G G':Gh}{sc:Scope}{os os' os'':List (Option Val)}{m:M}{v w:Val}
noncomputable def LK (G G':Gh):Prop:=∀a xs,G a=some (.list xs)->G' a=some (.list xs)
theorem Ext.lk (x:Ext G G'):LK G G':=λa xs e=>x a _ e
theorem ExtB.lk {bls:List Addr}{i:Int}{Bs:List PB}(x:ExtB bls G G')(h:Zd G i bls Bs):LK G G':=λa xs e=>x _ _ (h.off e rfl) e
theorem Zm.lk {ps:List PS}{vs:List Val}(h:Zm G ps vs)(x:LK G G'):Zm G' ps vs:=by
 induction h with
 | nil=>exact .nil
 | cons a _ ih=>obtain⟨la,e,h,ho⟩:=a;exact .cons ⟨la,e,x _ _ h,ho⟩ ih
theorem RLs.lk {qs:List (List PS)}{as:List Addr}(h:RLs G qs as)(x:LK G G'):RLs G' qs as:=h.map λ_ _ h=>by
 obtain⟨vs,e,h⟩:=h
 exact⟨vs,x _ _ e,h.lk x⟩
theorem EnsV.lk {Bs:List PB}{vs:List Val}(h:EnsV G Bs vs)(x:LK G G'):EnsV G' Bs vs:=by
 induction h with
 | nil=>exact .nil
 | cons a _ ih=>obtain⟨el,h,ha,ho⟩:=a;exact .cons ⟨el,h,x _ _ ha,ho⟩ ih
noncomputable def zGD (x:Val×List Int×List Int):PyData:=.tuple (ye x.1::.list (x.2.1.map .int)::x.2.2.map .int)
noncomputable def resD (o:Out1):PyData:=.list [ye o.1,.list (o.2.1.map zGD),.int o.2.2]
inductive ResV (G:Gh)(o:Out1)(r:Addr):Prop where
 | mk (no:Addr) (vs:List Val) (h1:G r=some (.list [o.1,.ref no,.int o.2.2])) (h2:G no=some (.list vs)) (h3:NtAt no G o.2.1 vs) (ha:Atom o.1)
theorem Yi.rv {G0:Gh}{o:Out1}{r:Addr}(h:Yi G0 o r G):ResV G o r:=by obtain⟨no,vs,x,h1,h2,h3,ha⟩:=h;exact⟨no,vs,h1,h2,h3,ha⟩
theorem ResV.lk {o:Out1}{r:Addr}(h:ResV G o r)(x:LK G G'):ResV G' o r:=by obtain⟨no,vs,h1,h2,h3,ha⟩:=h;exact⟨no,vs,x _ _ h1,x _ _ h2,h3.map λa xs _ e=>x a xs e,ha⟩
theorem zAh {is:List Int}{k:Nat}:RDs G k (is.map .int) (is.map .int):=.map _ _ _ λi _=>.int i
theorem NtAt.rd {no:Addr}{nt:Nt}{vs:List Val}{k:Nat}(h:NtAt no G nt vs):RDs G (k+2) vs (nt.map zGD):=by
 induction h with
 | nil=>exact .nil
 | cons a _ ih=>obtain⟨ga,rfl,h,_,ha⟩:=a;exact .cons (.tup' (.cons ha.rd (.cons (.list' h zAh) zAh))) ih
theorem ResV.rd {o:Out1}{r:Addr}{k:Nat}(h:ResV G o r):RD G (k+4) (.ref r) (resD o):=by
 obtain⟨no,vs,h1,h2,h3,ha⟩:=h
 exact .list' h1 (.cons ha.rd (.cons (.list' h2 h3.rd) (.cons (.int _) .nil)))
theorem zCW {α:Type}{f:α->PyData}:∀{l:List α},(∀a∈l,(f a).eqv (f a)=true)->PyData.eqvAll (l.map f) (l.map f)=true:=λ{l}=>by
 induction l with
 | nil=>exact λ_=>rfl
 | cons a l ih=>
  intro h
  show ((f a).eqv (f a)&&PyData.eqvAll (l.map f) (l.map f))=true
  rw[h a (.head _),ih (zH h)];rfl
theorem zAi (is:List Int):PyData.eqvAll (is.map .int) (is.map .int)=true:=zCW λi _=>beq_self_eq_true i
theorem NtAt.eqv {no:Addr}{nt:Nt}{vs:List Val}(h:NtAt no G nt vs):∀x∈nt,(zGD x).eqv (zGD x)=true:=by
 induction h with
 | nil=>exact zD
 | cons a _ ih=>
  obtain⟨ga,_,_,_,ha⟩:=a
  refine zB ?_ ih
  show ((ye _).eqv (ye _)&&(PyData.eqvAll _ _&&PyData.eqvAll _ _))=true
  rw[ha.eqv,zAi,zAi];rfl
theorem ResV.eqv {o:Out1}{r:Addr}(h:ResV G o r):(resD o).eqv (resD o)=true:=by
 obtain⟨no,vs,h1,h2,h3,ha⟩:=h
 show ((ye o.1).eqv (ye o.1)&&(PyData.eqvAll _ _&&((o.2.2 == o.2.2)&&true)))=true
 rw[ha.eqv,zCW h3.eqv,beq_self_eq_true];rfl
theorem Op2.eqRes {o:Out1}{r s:Addr}(h:ResV G o r)(k:ResV G o s):O2 X n (compareOp .Eq) (.ref r) (.ref s) G (.bool true):=.eq (h.rd (k:=8)) (k.rd (k:=8)) ⟨by rw[h.eqv],rfl⟩
structure Yd (G:Gh)(v:Val)(d:PyData):Prop where
 rd:RD G 10 v d
 eq:d.eqv d=true
theorem zH6 (o:Opd):(opdD o).eqv (opdD o)=true:=by rw[zDD];unfold zFH;rw[beq_self_eq_true,beq_self_eq_true];rfl
theorem EndV.rd {f:PS}{v:Val}{d:PyData}(h:EndV G f v)(hm:Yd G f.more d):RD G 11 v (.tuple [.str (opS f.op),.list (f.args.map opdD),d]):=by
 obtain⟨el,rfl,ha,ho⟩:=h
 exact .tup' (.cons (.str (zCK _ ho)) (.cons (.list' ha (.map _ _ _ λo _=>zGs o 8)) (.cons hm.rd .nil)))
theorem EnsV.rds {Bs:List PB}{v1 v2:List Val}(h:EnsV G Bs v1)(k:EnsV G Bs v2)(hm:∀B∈Bs,∃d,Yd G B.fin.more d):∃ds,RDs G 11 v1 ds/\RDs G 11 v2 ds/\PyData.eqvAll ds ds=true:=by
 induction h generalizing v2 with
 | nil=>cases k;exact⟨[],.nil,.nil,rfl⟩
 | @cons B Bs _ _ a _ ih=>
  cases k with | cons b k=>
  obtain⟨ds,r1,r2,e⟩:=ih k (zH hm)
  obtain⟨d,hd⟩:=hm B (.head _)
  refine⟨_::ds,.cons (a.rd hd) r1,.cons (b.rd hd) r2,?_⟩
  show (((opS B.fin.op == opS B.fin.op)&&(PyData.eqvAll (B.fin.args.map opdD) (B.fin.args.map opdD)&&(d.eqv d&&true)))&&PyData.eqvAll ds ds)=true
  rw[beq_self_eq_true,zCW λo _=>zH6 o,hd.eq,e];rfl
theorem Op2.neEnds {Bs:List PB}{v1 v2:List Val}{a b:Addr}(h1:EnsV G Bs v1)(e1:G a=some (.list v1))(h2:EnsV G Bs v2)(e2:G b=some (.list v2))(hm:∀B∈Bs,∃d,Yd G B.fin.more d):O2 X n (compareOp .NotEq) (.ref a) (.ref b) G (.bool false):=by
 obtain⟨ds,r1,r2,e⟩:=h1.rds h2 hm
 exact .ne (.list' e1 r1) (.list' e2 r2) ⟨by show Val.bool (!(PyData.eqvAll ds ds))=_;rw[e];rfl,rfl⟩
theorem Op2.neInts {is:List Int}{a b:Addr}(e1:G a=some (.list (is.map .int)))(e2:G b=some (.list (is.map .int))):O2 X n (compareOp .NotEq) (.ref a) (.ref b) G (.bool false):=.ne (.list' e1 zAh) (.list' e2 zAh) ⟨by show Val.bool (!(PyData.eqvAll _ _))=_;rw[zAi];rfl,rfl⟩
end
noncomputable section
variable {X:Cx}{n:Nat}{G G':Gh}{sc:Scope}{os os' os'':List (Option Val)}{m:M}{v w:Val}
theorem zIy {way:Int}{l:Addr}(hl:Int.fmod way 3=2->G l=some (.list [.int 2,.int 3])):Zv G (midF way l) (midW way):=by
 unfold midF midW
 by_cases c:Int.fmod way 3=2
 ·rw[if_pos c,if_pos c];exact .table (js:=[2,3]) rfl rfl (hl c) (by decide)
 ·rw[if_neg c,if_neg c]
  by_cases c:Int.fmod way 3=1
  ·rw[if_pos c,if_pos c];exact .branch rfl rfl
  ·rw[if_neg c,if_neg c];exact .jump rfl rfl
structure FinD (G:Gh)(f:PS):Prop where
 r:FinR f
 self:f=⟨f.op,-1,f.args,f.more,false⟩
 d:∃d,Yd G f.more d
theorem zAj {i:Int}:Yd G (.int i) (.int i):=⟨.int i,beq_self_eq_true i⟩
theorem zCa {i j:Int}:Yd G (.tup [.int i,.int j]) (.tuple [.int i,.int j]):=⟨.tup' (.cons (.int i) (.cons (.int j) .nil)),by show ((i == i)&&((j == j)&&true))=true;rw[beq_self_eq_true,beq_self_eq_true];rfl⟩
theorem zIx {way:Int}{l:Addr}(hl:Int.fmod way 3=2->G l=some (.list [.int 2,.int 3])):FinD G (midF way l):=by
 unfold midF
 by_cases c:Int.fmod way 3=2
 ·rw[if_pos c]
  refine⟨⟨L18,λ_=>⟨_,rfl⟩,λ_=>⟨_,_,_,rfl⟩⟩,rfl,.tuple [.int (Int.fmod (Int.fdiv way 12) 3),.list [.int 2,.int 3],.int 2],.tup' (.cons (.int _) (.cons (.list' (hl c) (.cons (.int 2) (.cons (.int 3) .nil))) (.cons (.int 2) .nil))),?_⟩
  show ((Int.fmod (Int.fdiv way 12) 3 == Int.fmod (Int.fdiv way 12) 3)&&true)=true
  rw[beq_self_eq_true];rfl
 ·rw[if_neg c]
  by_cases c:Int.fmod way 3=1
  ·rw[if_pos c];exact⟨⟨L18,λ_=>⟨_,rfl⟩,λe=>noN e rfl⟩,rfl,_,zCa⟩
  ·rw[if_neg c];exact⟨⟨Nat.zero_le 8,λe=>absurd rfl e,λe=>noN e rfl⟩,rfl,_,zAj⟩
structure Y1 (G:Gh)(ns:List Int)(l:Addr)(as:List Addr)(evs:List Val):Prop where
 m4:Mk4 G (jb ns l) as evs
 en:EnsV G (jb ns l) evs
 fd:∀B∈jb ns l,FinD G B.fin
theorem zHn {G0:Gh}{ns:List Int}{pa ea l:Addr}{as:List Addr}(h:PgR G0 G ns pa ea as l)(ok:NsOK ns)(gd:Gd (midW (ns.getD 4 0)) (jb ns l)):∃evs,G ea=some (.list evs)/\Y1 G ns l as evs:=by
 obtain⟨_,_,rl,li,e0,e1,e2,e3,he,h0,h1,h2,h3⟩:=h
 refine⟨_,he,?_⟩
 have hs:=gd.ok.blks
 unfold jb at hs
 have pt:=zBR ok
 have hm:=zIx li
 have ha:=zIy li
 have e:jb ns l=zipB (jN ns) (zAm (ns.getD 4 0) (ns.getD 5 0) l) (cfg (midW (ns.getD 4 0))):=rfl
 suffices q:Mk4 G (zipB (jN ns) (zAm (ns.getD 4 0) (ns.getD 5 0) l) (cfg (midW (ns.getD 4 0)))) as [e0,e1,e2,e3]/\EnsV G (zipB (jN ns) (zAm (ns.getD 4 0) (ns.getD 5 0) l) (cfg (midW (ns.getD 4 0)))) [e0,e1,e2,e3]/\∀B∈zipB (jN ns) (zAm (ns.getD 4 0) (ns.getD 5 0) l) (cfg (midW (ns.getD 4 0))),FinD G B.fin from⟨q.1,q.2.1,q.2.2⟩
 clear e
 generalize jN ns=pp at rl pt hs
 obtain⟨a,b,c,_,_,_,_⟩:=pt
 cases rl with | cons r0 rl=>cases rl with | cons r1 rl=>cases rl with | cons r2 rl=>cases rl with | cons r3 rl=>cases rl with | nil=>
 have f0:FinD G ⟨32,-1,[],.int 1,false⟩:=⟨⟨Nat.zero_le 8,λe=>absurd rfl e,λe=>noN e rfl⟩,rfl,_,zAj⟩
 have f2:FinD G ⟨33,-1,[(true,0)],.tup [.int 1,.int 3],false⟩:=⟨⟨L18,λ_=>⟨_,rfl⟩,λe=>noN e rfl⟩,rfl,_,zCa⟩
 have f3:FinD G ⟨35,-1,[regP (ns.getD 5 0)],.int 0,false⟩:=⟨⟨L18,λ_=>⟨_,rfl⟩,λe=>noN e rfl⟩,rfl,_,zAj⟩
 have bk:∀{N:Nat} {B:PB},BOK N B->B.steps.length<=900/\∀p∈B.steps,p.args.length<=8:=λh=>⟨h.len,λp hp=>(h.wf p hp).few⟩
 exact⟨.cons r0 h0 (.jump rfl rfl) f0.self f0.r.few (bk (hs _ (.head _))) (.cons r1 h1 ha hm.self hm.r.few (bk (hs _ (.tail _ (.head _)))) (.cons r2 h2 (.branch rfl rfl) f2.self f2.r.few (bk (hs _ (.tail _ (.tail _ (.head _))))) (.cons r3 h3 (.other rfl rfl rfl) f3.self f3.r.few (bk (hs _ (.tail _ (.tail _ (.tail _ (.head _)))))) .nil))),
  .cons h0 (.cons h1 (.cons h2 (.cons h3 .nil))),zB f0 (zB hm (zB f2 (zB f3 zD)))⟩
structure LwS (G:Gh)(mid:List Int)(Bs0:List PB)(o:Out1)(Bs:List PB):Prop where
 gd:Gd mid Bs
 rel:Zu Bs0 Bs
 run:runG Bs 20 0 s00=some o
 fd:∀B∈Bs,FinD G B.fin
 wt:wtB Bs<=39
theorem Zu.fins {Bs Bs':List PB}(h:Zu Bs Bs'){P:PS->Prop}:(∀B∈Bs,P B.fin)->∀B∈Bs',P B.fin:=by
 induction h with
 | nil=>exact λ_=>zD
 | cons h1 _ _ _ ih=>exact λk=>zB (h1▸k _ (.head _)) (ih (zH k))
theorem EnsV.rel {Bs Bs':List PB}{vs:List Val}(h:EnsV G Bs vs)(k:Zu Bs Bs'):EnsV G Bs' vs:=by
 induction k generalizing vs with
 | nil=>exact h
 | cons h1 _ _ _ ih=>cases h with | cons a t=>exact .cons (h1.symm▸a) (ih t)
theorem FinD.lk {f:PS}(h:FinD G f)(x:∀v d,Yd G v d->Yd G' v d):FinD G' f:=by obtain⟨r,s,d,hd⟩:=h;exact⟨r,s,d,x _ _ hd⟩
theorem zGh {Bs:List PB}{B:PB}(h:B∈Bs):B.steps.length<=wtB Bs:=by
 have key:∀ps:List PS,ps.length<=wtS ps:=λps=>by
  induction ps with
  | nil=>exact Nat.le_refl _
  | cons p ps ih=>rw[wm,List.length_cons,Nat.add_comm];exact Nat.add_le_add (uk p) ih
 induction Bs with
 | nil=>cases h
 | cons A As ih=>
  have e:wtB (A::As)=wtS A.steps+wtB As:=by unfold wtB;rw[List.map_cons,List.sum_cons]
  rw[e]
  rcases List.mem_cons.mp h with rfl | q
  ·exact Nat.le_trans (key _) (Nat.le_add_right _ _)
  ·exact Nat.le_trans (ih q) (Nat.le_add_left _ _)
theorem LwS.bs {mid:List Int}{Bs0 Bs:List PB}{o:Out1}(h:LwS G mid Bs0 o Bs):BsR Bs:=⟨h.gd.ok.few,λB hB=>⟨h.gd.steps B hB,Nat.le_trans (zGh hB) h.wt,(h.fd B hB).r,λj hj=>((h.gd.ok.blks B hB).goals j hj).1⟩⟩
theorem Zu.get {Bs Bs':List PB}(h:Zu Bs Bs'):∀{i:Nat} {B:PB},Bs[i]?=some B->∃B',Bs'[i]?=some B'/\Lss B.steps B'.steps:=by
 induction h with
 | nil=>exact λe=>nomatch e
 | cons _ _ h3 _ ih=>
  intro i B e
  cases i with
  | zero=>cases e;exact⟨_,rfl,h3⟩
  | succ i=>exact ih (i:=i) e
theorem RLs.get {qs:List (List PS)}{as:List Addr}(h:RLs G qs as):∀{i:Nat} {q:List PS},qs[i]?=some q->∃a,as[i]?=some a/\RowL G q a:=by
 induction h with
 | nil=>exact λe=>nomatch e
 | cons a _ ih=>
  intro i q e
  cases i with
  | zero=>cases e;exact⟨_,rfl,a⟩
  | succ i=>exact ih (i:=i) e
theorem zIR {Bs Bs':List PB}(h:Zu Bs Bs'):(lstB Bs').map bndP=(lstB Bs).map bndP:=by
 induction h with
 | nil=>rfl
 | cons _ _ h3 _ ih=>
  show bndP _::_=bndP _::_
  rw[zJ1 h3]
  exact congrArg _ ih
theorem zCr {Bs:List PB}(h:∀B∈Bs,∀p∈B.steps,DrW p):Z9 (lstB Bs):=λps hps p hp=>by
 obtain⟨B,hB,rfl⟩:=List.mem_map.mp hps
 exact(h B hB p hp).dr.more
end
noncomputable section
variable {X:Cx}{n:Nat}{G G':Gh}{sc:Scope}{os os' os'':List (Option Val)}{m:M}{v w:Val}
theorem RD.lk {k:Nat}{d:PyData}(h:RD G k v d)(x:LK G G'):RD G' k v d:=by
 induction h with
 | none=>exact .none
 | bool b=>exact .bool b
 | int i=>exact .int i
 | str h=>exact .str h
 | tup l _ ih=>exact .tup l ih
 | list e l _ ih=>exact .list (x _ _ e) l ih
theorem LwS.lk {mid:List Int}{Bs0 Bs:List PB}{o:Out1}(h:LwS G mid Bs0 o Bs)(x:LK G G'):LwS G' mid Bs0 o Bs:=⟨h.gd,h.rel,h.run,λB hB=>(h.fd B hB).lk λv d q=>⟨q.rd.lk x,q.eq⟩,h.wt⟩
inductive A2SP (X:Cx)(n:Nat)(sc:Scope)(os:List (Option Val))(x y:Str)(sts:List Stmt)(Q:QS)(t:Val)(G':Gh):Prop where
 | mk (v w:Val) (os' os'':List (Option Val)) (e:t=.tup [v,w]) (u1:Upd false sc.names os y w os') (u2:Upd false sc.names os' x v os'') (q:SnB X n sc sts (L sc os'') G' Q)
theorem SnB.assign2SQ {Q:QS}{e:Expr}{x y:Str}{k:Nat}{p1 p2 p pos:Pos}{sts:List Stmt}(h:Sn X n sc e (L sc os) G (A2SP X n sc os x y sts Q))
  (hw:swappedStores [.Tuple [.Name x p1,.Name y p2] k p] e (zDd sc)=pure (some [x,y]):=by rfl) (hsw:∀env,swapsWithSole [.Tuple [.Name x p1,.Name y p2] k p] e pos.line env=pure false:=by intro _;rfl):SnB X n sc (.Assign [.Tuple [.Name x p1,.Name y p2] k p] e pos::sts) (L sc os) G Q:=
 .cons (.assignSw [x,y] (h.mono λt G' q=>by obtain⟨v,w,os',os'',e,u1,u2,kk⟩:=q;exact⟨_,_,e,.cons u1.put (.cons u2.put .nil),.next kk⟩) hw hsw)
inductive BnI (G0:Gh)(goal:List Int)(xs acc:List Val)(G:Gh):Prop where
 | mk (as:List Addr) (qs:List (List PS)) (ds:List Int) (e1:xs=as.map .ref) (e2:acc=ds.map .int) (eG:G=G0) (h:RLs G0 qs as) (hd:∀q∈qs,∀p∈q,DrW p) (hg:ds++qs.map bndP=goal)
theorem Sn.bounds {Q:QE}{scope:Scope}{e:Expr}{p1 p2 p3 p4 cpos:Pos}{a:Addr}{as:List Addr}{qs:List (List PS)}(T:Tops X)(hr:relS sc scope=zBK)(hok:jD sc scope=true)(he:Rd X (n+1) sc e m G (.ref a))(ea:G a=some (.list (as.map .ref)))(h:RLs G qs as)(hd:∀q∈qs,∀p∈q,DrW p)(hl:as.length<=16)
  (k:∀c G',Ext G G'->G' c=some (.list ((qs.map bndP).map .int))->Q (.ref c) G') (hs:∀env x,foldedSetIterable e env x=pure x:=by intro _ _;rfl):Sn X (n+1) sc (.ListComp (.Call (.Name "_law_bound" p1) [.Name "rows" p2] [] p3) [⟨.Name "rows" p4,e,[],0⟩] scope cpos) m G Q:=by
 refine Sn.comp hok (.seq (he.to ⟨_,_,.list ea,by rw[List.length_map];exact Nat.lt_of_le_of_lt hl (by decide),BnI G (qs.map bndP),.cap (sc':=zBK) [none,none,none] ⟨?_,?_⟩ (capn (capn (capn (cap0)))) hr,⟨as,qs,[],rfl,rfl,rfl,h,hd,rfl⟩⟩)) hs
 ·intro v xs acc G2 hI
  obtain⟨as,qs,ds,e1,rfl,rfl,h,hd,hg⟩:=hI
  cases h with
  | nil=>cases e1
  | @cons q r qs as h1 h2=>
   obtain⟨rfl,rfl⟩:=List.cons.inj e1
   exact⟨ea,_,Upd.bnd (os:=[none,none,none]) (os':=[none,some (.ref r),none]) (by walk_at"r"),.nil ⟨λ_=>Sn.ref T.f_law_bound (by walk_at"r") (λ_ _=>rfl) (vs:=[.ref r]) (by walk_at"r") (zBH T h1 (hd q (.head _)) ⟨as,qs,ds++[bndP q],rfl,by rw[List.map_append];rfl,rfl,h2,zH hd,by rw[<-hg,List.append_assoc];rfl⟩),λq=>nomatch q⟩⟩
 ·intro acc G2 hI
  obtain⟨as,qs,ds,e1,rfl,rfl,h,hd,hg⟩:=hI
  cases h with
  | cons=>cases e1
  | nil=>
   rw[show ds++List.map bndP []=ds from List.append_nil ds] at hg
   exact⟨ea,NewL.nl λc G3 hc x3 e3=>k c G3 x3 (by rw[e3,hg])⟩
inductive AlI (G0:Gh)(xs acc:List Val)(G:Gh):Prop where
 | mk (i:Nat) (hi:i<=4) (e1:xs=rg i 4) (e2:acc=(List.replicate i true).map .bool) (x:Ext G0 G)
theorem zGf (i:Nat):(List.replicate i true).all id=true:=by
 rw[List.all_eq_true]
 exact λb hb=>(List.mem_replicate.mp hb).2
theorem Sn.allLess {Q:QE}{scope:Scope}{cpos:Pos}{p1 p2 p3 p4 p5 p6 p7 p8 p9 p10 p11 p12 p13 pos:Pos}{kd:Nat}{le wa:Addr}{ls ws:List Addr}{Bs Bs':List PB}(T:Tops X)(hka:Ze sc "all")(hkr:Ze sc "range")(hr:relS sc scope=uz)(hok:jD sc scope=true)
  (hm:∀y w,Loc uz.names [none,none,none,some (.ref le),some (.ref wa)] y w->capM sc scope (L sc os) y w) (e1:G le=some (.list (ls.map .ref))) (h1:RLs G (lstB Bs') ls) (e2:G wa=some (.list (ws.map .ref))) (h2:RLs G (lstB Bs) ws) (d1:∀B∈Bs',∀p∈B.steps,DrW p) (d2:∀B∈Bs,∀p∈B.steps,DrW p) (rel:Zu Bs Bs') (h4:Bs.length=4) (h39:wtB Bs'<=39)
  (k:∀G',Ext G G'->Q (.bool true) G'):Sn X (n+1) sc (.Call (.Name "all" p1) [.ListComp (.Call (.Name "_law_is_less" p2) [.Subscript (.Name "left" p3) (.Name "at" p4) p5,.Subscript (.Name "was" p6) (.Name "at" p7) p8] [] p9) [⟨.Name "at" p10,.Call (.Name "range" p11) [.Constant (.int 4) kd p12] [] p13,[],0⟩] scope cpos] [] pos) (L sc os) G Q:=by
 refine Sn.fn (id:="all") T.blt (by decide) (by decide) hka (λ_ _=>rfl) (SnEs.cons (Sn.comp hok (.range T.blt hkr (λ_ _=>rfl) (Rds.to (vs:=[.int 4]) (.cons .int .nil) ⟨4,rfl,by decide,by decide,AlI G,.cap (sc':=uz) [none,none,none,some (.ref le),some (.ref wa)] ⟨?_,?_⟩ hm hr,⟨0,by decide,zBM 4,rfl,.refl⟩⟩))))
 ·intro v xs acc G2 hI
  obtain⟨i,hi,e0,rfl,x⟩:=hI
  have hlt:i<4:=Nat.lt_of_not_le λq=>by rw[zGp q] at e0;cases e0
  rw[zCB hlt] at e0
  obtain⟨rfl,rfl⟩:=List.cons.inj e0
  obtain⟨B,hB⟩:∃B,Bs[i]?=some B:=⟨_,List.getElem?_eq_getElem (h4▸hlt)⟩
  obtain⟨B',hB',hls⟩:=rel.get hB
  have gB:(lstB Bs)[i]?=some B.steps:=by unfold lstB;rw[List.getElem?_map,hB];rfl
  have gB':(lstB Bs')[i]?=some B'.steps:=by unfold lstB;rw[List.getElem?_map,hB'];rfl
  obtain⟨la,hla,rl⟩:=h1.get gB'
  obtain⟨wb,hwb,rw_⟩:=h2.get gB
  have mB:=List.mem_of_getElem? hB
  have mB':=List.mem_of_getElem? hB'
  have hcap:(i:Int).natAbs<cap:=(show i<cap from Nat.lt_of_lt_of_le hlt (by decide))
  refine⟨trivial,_,Upd.bnd (os:=[none,none,none,some (.ref le),some (.ref wa)]) (os':=[none,some (.int i),none,some (.ref le),some (.ref wa)]) (by walk_at"r"),.nil ⟨λ_=>?_,λq=>nomatch q⟩⟩
  refine Sn.ref T.f_law_is_less (by walk_at"r") (λ_ _=>rfl) (vs:=[.ref la,.ref wb]) (.cons (.idxL (by walk_at"r") (x _ _ e1) (by walk_at"r") hcap (jp (by rw[List.getElem?_map,hla];rfl))) (.cons (.idxL (by walk_at"r") (x _ _ e2) (by walk_at"r") hcap (jp (by rw[List.getElem?_map,hwb];rfl))) .nil)) (v8 T (rl.ext x) (rw_.ext x) (λp hp=>(d1 B' mB' p hp).dr.more) (λp hp=>(d2 B mB p hp).dr.more) (Nat.le_trans (zGh mB') (Nat.le_trans h39 (by decide))) λG3 x3=>?_)
  rw[zHp hls (d2 B mB)]
  exact⟨i+1,hlt,rfl,by rw[List.replicate_succ',List.map_append];rfl,x.trans x3⟩
 ·intro acc G2 hI
  obtain⟨i,hi,e0,rfl,x⟩:=hI
  refine⟨trivial,NewL.nl λc G3 hc x3 e3=>SnEs.nil (Blt.allL e3 (by rw[List.length_replicate];exact Nat.lt_of_le_of_lt hi (by decide)) ?_)⟩
  rw[zGf]
  exact k G3 (x.trans x3)
end
noncomputable section
variable {X:Cx}{n:Nat}{G G':Gh}{sc:Scope}{os os' os'':List (Option Val)}{m:M}{v w:Val}
noncomputable abbrev lwL (l nu pt en bo du fi:Addr)(le tu wa sa:Option Val):M:=L zCi [some (.ref l),some (.ref nu),some (.ref pt),some (.ref en),some (.ref bo),some (.ref du),some (.ref fi),le,tu,wa,sa,none,none,none,none,none,none,none,none,none,none,none]
theorem Yi.x {G0:Gh}{o:Out1}{r:Addr}(h:Yi G0 o r G):Ext G0 G:=by obtain⟨_,_,x,_⟩:=h;exact x
structure LwF (G:Gh)(en bo du fi:Addr)(evs:List Val)(fls:List Addr)(Bs0:List PB)(o:Out1):Prop where
 en:G en=some (.list evs)
 ens:EnsV G Bs0 evs
 du:ResV G o du
 fi:G fi=some (.list (fls.map .ref))
 fr:RLs G (lstB Bs0) fls
theorem LwF.lk {en bo du fi:Addr}{evs:List Val}{fls:List Addr}{Bs0:List PB}{o:Out1}(h:LwF G en bo du fi evs fls Bs0 o)(x:LK G G'):LwF G' en bo du fi evs fls Bs0 o:=⟨x _ _ h.en,h.ens.lk x,h.du.lk x,x _ _ h.fi,h.fr.lk x⟩
structure LwB (G:Gh)(bo le:Addr)(bs rls:List Addr)(Bs:List PB):Prop where
 f:Zk G bo [] sl0 bs
 b:Zd G 0 bs Bs
 nd:bs.Nodup
 le:G le=some (.list (rls.map .ref))
 rl:RLs G (lstB Bs) rls
inductive LwI (l nu pt en bo du fi:Addr)(evs:List Val)(fls:List Addr)(mid:List Int)(Bs0:List PB)(o:Out1)(i:Nat)(m:M)(G:Gh):Prop where
 | mk (le:Addr) (tu wa sa:Option Val) (bs rls:List Addr) (Bs:List PB) (e:m=lwL l nu pt en bo du fi (some (.ref le)) tu wa sa) (F:LwF G en bo du fi evs fls Bs0 o) (B:LwB G bo le bs rls Bs) (S:LwS G mid Bs0 o Bs) (hw:wtB Bs+i<=39)
theorem zF3 {Bs:List PB}{mid:List Int}(h:Gd mid Bs):(z5 Bs).length<=900:=Nat.le_trans zF4 h.few
theorem zI4 {l:Addr}{ns:List Int}{Q:QE}(T:Tops X)(hl:(ns.map Val.int).length<=2 * cap/\∃ys,X.H0.IsList l ys/\VRs X.H0 (ns.map .int) ys.toList)(kk:∀G',Q (.bool true) G'):Cal X (n+11) zC7 [.ref l] G Q:=by
 refine' Cal.start (os:=?os) T.d_law ?q ?b;case q=>walk_at"r"
 case b=>
 have ok:=zHb ns
 refine SnB.assignQ (Sn.ref T.f_law_numbers (by walk_at"r") (λ_ _=>rfl) (vs:=[.ref l]) (by walk_at"r") (v7 T hl λnu G1 hn x1=>⟨_,by walk_at"r",?_⟩))
 generalize zE3 ns=ns at ok hn
 refine SnB.assign2Q (Sn.ref T.f_law_program (by walk_at"r") (λ_ _=>rfl) (vs:=[.ref nu]) (by walk_at"r") (v5 T hn ok λpt en as a2 G2 hP=>⟨.ref pt,.ref en,_,_,rfl,by walk_at"r",by walk_at"r",?_⟩))
 obtain⟨gd,⟨o,run⟩,wt⟩:=zGZ ok a2
 obtain⟨evs,hev,m4,men,mfd⟩:=zHn hP ok gd
 have hpt:=hP.pt
 have hmid:=zHk (ns.getD 4 0)
 generalize jb ns a2=Bs0 at gd run wt m4 men mfd
 generalize midW (ns.getD 4 0)=mid at gd hmid
 refine SnB.assignQ (Sn.ref T.f_law_made (by walk_at"r") (λ_ _=>rfl) (vs:=[.ref pt,.ref en]) (by walk_at"r") (zBn T hpt hev m4 gd.ok.few λbo bs G3 x3 hf hb nd fr=>⟨_,by walk_at"r",?_⟩))
 have S3:LwS G3 mid Bs0 o Bs0:=LwS.lk ⟨gd,.refl,run,mfd,wt⟩ x3.lk
 refine SnB.assign2SQ (Sn.tup (SnEs.cons (Sn.ref T.f_law_run (by walk_at"r") (λ_ _=>rfl) (vs:=[.ref bo]) (by walk_at"r") (vq T hf hb S3.bs run λdu G4 rs=>SnEs.cons (Sn.ref T.f_law_listing (by walk_at"r") (λ_ _=>rfl) (vs:=[.ref bo]) (by walk_at"r") (j9 T (hf.ext rs.x) (hb.ext rs.x) gd.ok λfi fls G5 x5 e5 r5=>SnEs.nil ⟨by show 2<cap;decide,.ref du,.ref fi,_,_,rfl,by walk_at"r",by walk_at"r",?_⟩)) (λ_=>rfl))) (λ_=>rfl)))
 have x35:=rs.x.trans x5
 refine SnB.assign (v:=.ref fi) (by walk_at"r") (by walk_at"r") ?_
 have F5:LwF G5 en bo du fi evs fls Bs0 o:=⟨x35 _ _ (x3 _ _ hev),men.lk (x3.trans x35).lk,rs.rv.lk x5.lk,e5,r5⟩
 have B5:LwB G5 bo fi bs fls Bs0:=⟨hf.ext x35,hb.ext x35,nd,e5,r5⟩
 have S5:=S3.lk x35.lk
 clear hl x1 hn ok hP hev m4 men mfd hpt gd run x3 hf hb nd fr S3 rs x5 e5 r5 x35
 refine SnB.forR 80 T.blt (by walk_at"r") .int (by decide) (LwI l nu pt en bo du fi evs fls mid Bs0 o) ⟨fi,none,none,none,bs,fls,Bs0,rfl,F5,B5,S5,wt⟩ (λi m G6 hi hI=>?_) λm G6 hI=>?_
 ·obtain⟨le,tu,wa,sa,bs,rls,Bs,rfl,F,B,S,hw⟩:=hI
  refine⟨_,.name (Upd.put (os':=[some (.ref l),some (.ref nu),some (.ref pt),some (.ref en),some (.ref bo),some (.ref du),some (.ref fi),some (.ref le),some (.int i),wa,sa,none,none,none,none,none,none,none,none,none,none,none]) (by walk_at"r")),?_⟩
  refine SnB.assign (v:=.ref le) (by walk_at"r") (by walk_at"r") ?_
  obtain⟨AH,t⟩:=turn hmid S.gd
  have cf:=t.cf
  refine SnB.assignQ (Sn.ref T.f_sweep_func (by walk_at"r") (λ_ _=>rfl) (vs:=[.ref bo]) (by walk_at"r") (zAS T B.f B.b B.nd S.gd.ok (zF3 S.gd) (by decide) (λp hp=>?_) (by decide) cf.po cf.pok (λq hq=>Nat.le_trans (cf.two q hq) (by decide)) t.go λG7 x7 hB7=>⟨_,by walk_at"r",?_⟩))
  ·obtain⟨B',hB',hp⟩:=zCp hp
   exact zEE (S.gd.steps B' hB' p hp).dr
  obtain⟨_,_,sw,run7,gd7⟩:=t
  have lk7:=x7.lk B.b
  have hf7:=B.f.extB B.b x7
  have F7:=F.lk lk7
  have le7:=lk7 _ _ B.le
  have rl7:=B.rl.lk lk7
  have S7:LwS G7 mid Bs0 o (ul sl0 (zK [] (z5 Bs)) AH Bs).1:=by
   have S':=S.lk lk7
   exact⟨gd7,S'.rel.trans sw.rel,run7 o S'.run,sw.rel.fins S'.fd,Nat.le_trans sw.le S'.wt⟩
  have hsay:=zHM sw S.gd.steps
  generalize ul sl0 (zK [] (z5 Bs)) AH Bs=R at hB7 sw gd7 S7 hsay ⊢
  obtain⟨Bs7,c7⟩:=R
  have gdS:=S.gd
  have nd:=B.nd
  clear run7 x7 lk7
  refine SnB.assignQ (Sn.ref T.f_law_listing (by walk_at"r") (λ_ _=>rfl) (vs:=[.ref bo]) (by walk_at"r") (j9 T hf7 hB7 gd7.ok λle2 rls2 G8 x8 e8 r8=>⟨_,by walk_at"r",?_⟩))
  have F8:=F7.lk x8.lk
  have S8:=S7.lk x8.lk
  have le8:=x8 _ _ le7
  have rl8:=rl7.lk x8.lk
  have hf8:=hf7.ext x8
  have hB8:=hB7.ext x8
  clear F7 S7 le7 rl7 hf7 hB7 x8 F B S
  have len4:Bs.length=4:=cf.len
  refine SnB.ifsX (r:=false) (.or ((RdT.not (.val (.isBool T.blt (by walk_at"r") (by walk_at"r") (by walk_at"r")) .b)).to ⟨λe=>(nomatch e),λ_=>.or ((RdT.cmp (t:=false) (v:=.bool c7) (w:=.bool (!eqLs (lstB Bs7) (lstB Bs))) (by walk_at"r") (.cmp (by walk_at"r") (by walk_at"r") (.neRows r8 e8 (zCr gd7.steps) rl8 le8 (zCr gdS.steps))) (.ne (.bool _) (.bool _) ⟨by rw[hsay];cases c7<;>rfl,rfl⟩)).to ⟨λe=>(nomatch e),λ_=>.or1 (.cmp (Sn.ref T.f_law_ends (by walk_at"r") (λ_ _=>rfl) (vs:=[.ref bo]) (by walk_at"r") (zBo T hf8 hB8 gd7.ok.few (λB hB=>(S8.fd B hB).r.few) λr vs G9 x9 er hv=>Rd.to (v:=.ref en) (by walk_at"r") (O2.to (.neEnds hv er ((F8.ens.ext x9).rel S8.rel) (x9 _ _ F8.en) λB hB=>((S8.lk x9.lk).fd B hB).d) ⟨_,.b,rfl,x9⟩))))⟩)⟩)) (λe=>(nomatch e)) λ_ G9 x9=>.nilT ?_
  refine SnB.ifsX (r:=false) (.not (.val (Sn.allLess T (by walk_at"r") (by walk_at"r") rfl (by decide +kernel) (capn (capn (capn (capv ⟨by walk_at"r",by walk_at"r",by walk_at"r"⟩ (capv ⟨by walk_at"r",by walk_at"r",by walk_at"r"⟩ cap0))))) (x9 _ _ e8) (r8.lk x9.lk) (x9 _ _ le8) (rl8.lk x9.lk) gd7.steps gdS.steps sw.rel len4 S8.wt λG10 x10=>⟨true,.b,rfl,x10⟩))) (λe=>(nomatch e)) λ_ G10 x10=>.nilT ?_
  have x8:=x9.trans x10
  have F10:=F8.lk x8.lk
  have S10:=S8.lk x8.lk
  have B10:LwB G10 bo le2 bs rls2 Bs7:=⟨hf8.ext x8,hB8.ext x8,nd,x8 _ _ e8,r8.lk x8.lk⟩
  clear F8 S8 hf8 hB8 r8 e8 x9 x10 x8 le8 rl8 gdS hsay gd7 cf
  refine SnB.ifs (r:=!c7) (.not (.val (by walk_at"r") .b)) (λe=>?_) λe=>.nilT (.nil (.next ⟨le2,_,_,_,bs,rls2,Bs7,rfl,F10,B10,S10,?_⟩))
  ·refine .cons (.brk (.brk (.brk (.brk (.next ?_)))))
   have c0:c7=false:=by rw[Bool.not_eq_true'] at e;exact e
   subst c0
   have l1:rls2.length<=16:=by rw[B10.rl.length];unfold lstB;rw[List.length_map];exact S10.gd.ok.few
   have l2:fls.length<=16:=by rw[F10.fr.length];unfold lstB;rw[List.length_map];exact S5.gd.ok.few
   have dl:∀{Bs:List PB},Gd mid Bs->∀q∈lstB Bs,∀p∈q,DrW p:=λg q hq p hp=>by
    obtain⟨B,hB,rfl⟩:=List.mem_map.mp hq
    exact g.steps B hB p hp
   refine SnB.ifsX (r:=false) (.or ((RdT.val (t:=false) (by walk_at"r") .b).to ⟨λe=>(nomatch e),λ_=>.or1 (.cmp (Sn.bounds T rfl (by decide +kernel) (by walk_at"r") B10.le B10.rl (dl S10.gd) l1 λc1 G11 x11 i1=>Sn.bounds T rfl (by decide +kernel) (by walk_at"r") (x11 _ _ F10.fi) (F10.fr.lk x11.lk) (dl S5.gd) l2 λc2 G12 x12 i2=>?_))⟩)) (λe=>(nomatch e)) λ_ G12 x12=>.nilT ?_
   ·rw[zIR S10.rel] at i1
    exact O2.to (.neInts (x12 _ _ i1) i2) ⟨_,.b,rfl,x11.trans x12⟩
   ·exact .retB (Sn.cmp (Sn.ref T.f_law_run (by walk_at"r") (λ_ _=>rfl) (vs:=[.ref bo]) (by walk_at"r") (vq T (B10.f.ext x12) (B10.b.ext x12) S10.bs S10.run λr G13 rs=>Rd.to (v:=.ref du) (by walk_at"r") (O2.to (.eqRes rs.rv (F10.du.lk (x12.trans rs.x).lk)) (kk G13)))))
  ·have:wtB Bs7<wtB Bs:=sw.lt (by rw[Bool.not_eq_false'] at e;exact e)
   lia
 ·obtain⟨le,tu,wa,sa,bs,rls,Bs,rfl,F,B,S,hw⟩:=hI
  exact absurd hw (by lia)
end
noncomputable section
set_option maxRecDepth 100000
set_option maxHeartbeats 4000000
theorem and2 {a b:Bool}(h:(a&&b)=true):a=true/\b=true:=Bool.and_eq_true_iff.mp h
noncomputable def Z1 (fd:FuncData)(ps:List Str):Prop:=∀ys:List Value,ys.length=ps.length->bindArgs fd ⟨ys,[]⟩=pure (ps.zip ys)
theorem un {P:List Value->Prop}{n:Nat}(h:∀y ys,ys.length=n->P (y::ys)):∀ys:List Value,ys.length=n+1->P ys:=λys hl=>by
 cases ys with
 | nil=>cases hl
 | cons y ys=>exact h y ys (Nat.succ.inj hl)
theorem nl {P:List Value->Prop}(h:P []):∀ys:List Value,ys.length=0->P ys:=λys hl=>by
 cases ys with
 | nil=>exact h
 | cons y ys=>cases hl
theorem jB {fd:FuncData}{x1:Str}(h:∀y1,bindArgs fd ⟨[y1],[]⟩=pure [(x1,y1)]):Z1 fd [x1]:=
 un (P:=λys=>bindArgs fd ⟨ys,[]⟩=pure (List.zip [x1] (ys))) λy1=>nl (P:=λys=>bindArgs fd ⟨y1::ys,[]⟩=pure (List.zip [x1] (y1::ys))) (h y1)
theorem vn {fd:FuncData}{x1 x2:Str}(h:∀y1 y2,bindArgs fd ⟨[y1,y2],[]⟩=pure [(x1,y1),(x2,y2)]):Z1 fd [x1,x2]:=
 un (P:=λys=>bindArgs fd ⟨ys,[]⟩=pure (List.zip [x1,x2] (ys))) λy1=>un (P:=λys=>bindArgs fd ⟨y1::ys,[]⟩=pure (List.zip [x1,x2] (y1::ys))) λy2=>nl (P:=λys=>bindArgs fd ⟨y1::y2::ys,[]⟩=pure (List.zip [x1,x2] (y1::y2::ys))) (h y1 y2)
theorem zBe {fd:FuncData}{x1 x2 x3:Str}(h:∀y1 y2 y3,bindArgs fd ⟨[y1,y2,y3],[]⟩=pure [(x1,y1),(x2,y2),(x3,y3)]):Z1 fd [x1,x2,x3]:=
 un (P:=λys=>bindArgs fd ⟨ys,[]⟩=pure (List.zip [x1,x2,x3] (ys))) λy1=>un (P:=λys=>bindArgs fd ⟨y1::ys,[]⟩=pure (List.zip [x1,x2,x3] (y1::ys))) λy2=>un (P:=λys=>bindArgs fd ⟨y1::y2::ys,[]⟩=pure (List.zip [x1,x2,x3] (y1::y2::ys))) λy3=>nl (P:=λys=>bindArgs fd ⟨y1::y2::y3::ys,[]⟩=pure (List.zip [x1,x2,x3] (y1::y2::y3::ys))) (h y1 y2 y3)
theorem zC1 {fd:FuncData}{x1 x2 x3 x4:Str}(h:∀y1 y2 y3 y4,bindArgs fd ⟨[y1,y2,y3,y4],[]⟩=pure [(x1,y1),(x2,y2),(x3,y3),(x4,y4)]):Z1 fd [x1,x2,x3,x4]:=
 un (P:=λys=>bindArgs fd ⟨ys,[]⟩=pure (List.zip [x1,x2,x3,x4] (ys))) λy1=>un (P:=λys=>bindArgs fd ⟨y1::ys,[]⟩=pure (List.zip [x1,x2,x3,x4] (y1::ys))) λy2=>un (P:=λys=>bindArgs fd ⟨y1::y2::ys,[]⟩=pure (List.zip [x1,x2,x3,x4] (y1::y2::ys))) λy3=>un (P:=λys=>bindArgs fd ⟨y1::y2::y3::ys,[]⟩=pure (List.zip [x1,x2,x3,x4] (y1::y2::y3::ys))) λy4=>nl (P:=λys=>bindArgs fd ⟨y1::y2::y3::y4::ys,[]⟩=pure (List.zip [x1,x2,x3,x4] (y1::y2::y3::y4::ys))) (h y1 y2 y3 y4)
theorem zIT {fd:FuncData}{x1 x2 x3 x4 x5:Str}(h:∀y1 y2 y3 y4 y5,bindArgs fd ⟨[y1,y2,y3,y4,y5],[]⟩=pure [(x1,y1),(x2,y2),(x3,y3),(x4,y4),(x5,y5)]):Z1 fd [x1,x2,x3,x4,x5]:=
 un (P:=λys=>bindArgs fd ⟨ys,[]⟩=pure (List.zip [x1,x2,x3,x4,x5] (ys))) λy1=>un (P:=λys=>bindArgs fd ⟨y1::ys,[]⟩=pure (List.zip [x1,x2,x3,x4,x5] (y1::ys))) λy2=>un (P:=λys=>bindArgs fd ⟨y1::y2::ys,[]⟩=pure (List.zip [x1,x2,x3,x4,x5] (y1::y2::ys))) λy3=>un (P:=λys=>bindArgs fd ⟨y1::y2::y3::ys,[]⟩=pure (List.zip [x1,x2,x3,x4,x5] (y1::y2::y3::ys))) λy4=>un (P:=λys=>bindArgs fd ⟨y1::y2::y3::y4::ys,[]⟩=pure (List.zip [x1,x2,x3,x4,x5] (y1::y2::y3::y4::ys))) λy5=>nl (P:=λys=>bindArgs fd ⟨y1::y2::y3::y4::y5::ys,[]⟩=pure (List.zip [x1,x2,x3,x4,x5] (y1::y2::y3::y4::y5::ys))) (h y1 y2 y3 y4 y5)
noncomputable def zJH {α:Type}:List α->Bool | []=>true | _=>false
theorem zGQ {α:Type}{l:List α}(h:zJH l=true):l=[]:=by cases l;rfl;cases h
noncomputable def fdOf (o:Option Obj):Option FuncData:=match o with | some o=>(match o.data with | .func fd=>some fd | _=>none) | none=>none
noncomputable def zJF (sc:Scope)(x:Str):Bool:=sc.names.any λp=>p.1 == x&&(decide (p.2=.local)||decide (p.2=.cell))
noncomputable def zJS (K:Frag)(fd:FuncData)(ps:List Str):Bool:=decide ps.Nodup&&(zJH fd.closure&&(decide (fd.globals=mainGlobals)&&(decide (fd.builtins=builtinsNs)&&(codeIn K fd.code fd.qualname &&
 (!fd.scope.isCoroutine&&(!fd.scope.isGenerator&&(decide (fd.scope.kind=.function)&&(ps.all (zJF fd.scope)&&scOK fd.scope))))))))
theorem zGL {sc:Scope}{x:Str}(h:zJF sc x=true):Z6 false sc x:=by
 obtain⟨⟨y,k⟩,hp,h⟩:=List.any_eq_true.mp h
 obtain⟨h1,h2⟩:=and2 h
 obtain rfl:y=x:=eq_of_beq h1
 clear h h1
 rcases Bool.or_eq_true_iff.mp h2 with q | q
 ·exact .inl (of_decide_eq_true q▸hp)
 ·exact .inr ⟨rfl,of_decide_eq_true q▸hp⟩
structure DefK (K:Frag)(a:Addr)(ps:List Str)(scope:Scope)(body:List Stmt):Prop where
 body:(fdOf (K.lookup a)).map (·.body)=some (.stmts body)
 scope:(fdOf (K.lookup a)).map (·.scope)=some scope
 chk:(fdOf (K.lookup a)).any (λfd=>zJS K fd ps)=true
 bind:∀fd,fdOf (K.lookup a)=some fd->Z1 fd ps
theorem fdIs {K:Frag}{a:Addr}{o:Obj}{fd0:FuncData}{ps:List Str}(h:K.lookup a=some o)(hd:o.data=.func fd0)(hb:Z1 fd0 ps):∀fd,fdOf (K.lookup a)=some fd->Z1 fd ps:=λfd e=>by
 rw[h] at e
 unfold fdOf at e
 dsimp only at e
 rw[hd] at e
 rw[<-Option.some.inj e];exact hb
theorem nos {C:Prop}{α:Type}{a:α}(h:Option.none=some a):C:=by cases h
theorem zFF {fd:FuncData}{R:Option Obj->Prop}(k:∀o:Obj,o.data=.func fd->R (some o)){o:Option Obj}:fdOf o=some fd->R o:=by
 cases o with
 | none=>exact λh=>nos h
 | some o=>
  cases o with | mk c d dt sl=>
  cases dt with
  | func f=>exact λh=>k _ (congrArg Data.func (Option.some.inj h))
  | _=>exact λh=>nos h
theorem nt {b:Bool}(h:(!b)=true):b=false:=Bool.not_eq_true' b▸h
theorem DefK.at {X:Cx}{a:Addr}{ps:List Str}{scope:Scope}{body:List Stmt}(h:DefK X.K a ps scope body):Zi X a ps scope body:=by
 obtain⟨hb,hs,hc,hbd⟩:=h
 cases e:fdOf (X.K.lookup a) with
 | none=>rw[e] at hb;exact nos hb
 | some fd=>
  have hbd:=hbd fd e
  rw[e] at hb hs hc
  obtain⟨o,ho,hd⟩:=zFF (R:=λq=>∃o,q=some o/\o.data=.func fd) (λo h=>⟨o,rfl,h⟩) e
  clear e
  have hb:=Option.some.inj hb
  obtain rfl:=Option.some.inj hs
  have hc:zJS X.K fd ps=true:=hc
  obtain⟨g2,h⟩:=and2 hc;obtain⟨g4,h⟩:=and2 h;obtain⟨g5,h⟩:=and2 h;obtain⟨g6,h⟩:=and2 h;obtain⟨g7,h⟩:=and2 h
  obtain⟨g8,h⟩:=and2 h;obtain⟨g9,h⟩:=and2 h;obtain⟨g10,h⟩:=and2 h;obtain⟨g11,g12⟩:=and2 h
  exact⟨⟨o,fd,ho,hd,hb,rfl,zGQ g4,of_decide_eq_true g5,of_decide_eq_true g6,g7,hbd⟩,nt g8,nt g9,of_decide_eq_true g10,λp hp=>zGL (List.all_eq_true.mp g11 p hp),of_decide_eq_true g2,g12⟩
theorem zHt {P:Params}{l:List DictEntry}{xs:List Str}{ts:List Tok}(hl:xs.length<=ts.length)(h:l.map (λe=>(e.hash,e.key))=(xs.zip ts).map (λx=>(PyData.keyHash P x.1,Value.str x.1 x.2)))(x:Str):(l.find? λe=>Value.isStrOf x e.key).isSome=xs.contains x:=by
 have e1:(l.any λe=>Value.isStrOf x e.key)=(l.map λe=>(e.hash,e.key)).any λk=>Value.isStrOf x k.2:=by rw[List.any_map];rfl
 rw[List.isSome_find?,e1,h,List.any_map]
 have e2:(xs.zip ts).any ((λk:Int×Value=>Value.isStrOf x k.2) ∘ λx=>(PyData.keyHash P x.1,Value.str x.1 x.2))=((xs.zip ts).map Prod.fst).any λz=>z == x:=by rw[List.any_map];rfl
 rw[e2,List.map_fst_zip hl,List.contains_eq_any_beq]
 exact congrArg (λf=>xs.any f) (funext λz=>BEq.comm)
theorem zD7 {P:Params}{l:List DictEntry}:∀{zs:List (Str×Tok)},l.map (λe=>(e.hash,e.key))=zs.map (λx=>(PyData.keyHash P x.1,Value.str x.1 x.2))->KeysLit P l:=by
 induction l with
 | nil=>exact λ_=>trivial
 | cons e l ih=>
  intro zs h
  cases zs with
  | nil=>exact absurd h (List.cons_ne_nil _ _)
  | cons z zs=>
   have h1:=List.head_eq_of_cons_eq h
   exact⟨⟨z.1,z.2,congrArg Prod.snd h1,congrArg Prod.fst h1⟩,ih (List.tail_eq_of_cons_eq h)⟩
theorem zAL {h:Heap}(zs:List (Str×Tok)):VRs h (zs.map λx=>.str x.1) (zs.map λx=>Value.str x.1 x.2):=by
 induction zs with
 | nil=>exact .nil
 | cons z zs ih=>exact .cons (.str _ _) ih
theorem zFe {h:Heap}(zs:List (Int×Tok)):VRs h (zs.map λx=>.int x.1) (zs.map λx=>Value.int x.1 x.2):=by
 induction zs with
 | nil=>exact .nil
 | cons z zs ih=>exact .cons (.int _ _) ih
structure TabK (P:Params)(K:Frag)(es0:Array DictEntry)(x:Str)(a:Addr)(es:Array DictEntry)(k:Nat)(ks:List Str)(ts:List Tok):Prop where
 mg:nsFind es0 x=some (.ref a)
 look:K.lookup a=some ⟨.type "dict",none,.dict es k,#[]⟩
 keys:es.toList.map (λe=>(e.hash,e.key))=(ks.zip ts).map (λx=>(PyData.keyHash P x.1,Value.str x.1 x.2))
 len:Nat.ble ks.length ts.length=true
theorem TabK.at {X:Cx}{es0 es:Array DictEntry}{x:Str}{a:Addr}{k:Nat}{ks:List Str}{ts:List Tok}(hm:∀x,X.mg x=nsFind es0 x)(h:TabK X.w.params X.K es0 x a es k ks ts)(hs:(a == sysModules)=false):Zz X x ks:=
 ⟨a,es,k,(hm _).trans h.mg,h.look,zD7 h.keys,hs,λz=>by
  rw[<-zHt (Nat.le_of_ble_eq_true h.len) h.keys z]
  unfold findBy
  rw[Option.isSome_map,<-Array.find?_toList]⟩
theorem zJr (P:Params):(K0 P).lookup 3=some (ko3 P):=by kernel_rfl
noncomputable def zc (P:Params):Array DictEntry:=match (ko3 P).data with | .dict es _=>es | _=>#[]
theorem zHm {w:World}{mg:Str->Option Value}{h:Heap}(kin:(K0 w.params).In h)(ng:h.Ns mainGlobals mg):∀x,mg x=nsFind (zc w.params) x:=by
 intro x
 obtain⟨o,es,ep,h1,h2,_,h3⟩:=ng
 have e:=kin 3 _ (zJr w.params)
 have:o=ko3 w.params:=Option.some.inj (h1.symm.trans e)
 subst this
 rw[<-h3 x]
 unfold zc
 rw[h2]
noncomputable def cA0:Cls->Addr | .step=>31 | .block=>52 | .func=>73
theorem cls0 (X:Cx)(hK:X.K=K0 X.w.params)(hc:X.cA=cA0):Z5 X:=by
 refine⟨?_,?_,?_,?_,?_,?_⟩<;>rw[hK,hc]<;>generalize X.w.params=P
 ·intro c f;cases c<;>kernel_rfl
 ·intro c;cases c<;>kernel_rfl
 ·intro c f;cases c<;>cases f<;>kernel_rfl
 ·intro c;cases c<;>kernel_rfl
 ·intro c;cases c<;>kernel_rfl
 ·intro c;cases c<;>kernel_rfl
theorem mgB (P:Params):(["len","list","sorted","any","all","sum","int","abs","min","set","range","enumerate","zip","isinstance","bool"]:List String).all (λx=>(nsFind (zc P) (Str.ofString x)).isNone)=true:=by kernel_rfl
theorem fnB:∀x∈(["len","sorted","any","all","sum","abs","min","isinstance"]:List String),Str.ofString x≠"__name__"/\bootBuiltins (Str.ofString x)=some (.builtin x):=
 ac ⟨by decide +kernel,by kernel_rfl⟩ <| ac ⟨by decide +kernel,by kernel_rfl⟩ <| ac ⟨by decide +kernel,by kernel_rfl⟩ <| ac ⟨by decide +kernel,by kernel_rfl⟩ <| ac ⟨by decide +kernel,by kernel_rfl⟩ <| ac ⟨by decide +kernel,by kernel_rfl⟩ <| ac ⟨by decide +kernel,by kernel_rfl⟩ <| ac ⟨by decide +kernel,by kernel_rfl⟩ <| an
theorem tyB:∀x∈(["list","int","set","range","enumerate","zip","bool"]:List String),Str.ofString x≠"__name__"/\bootBuiltins (Str.ofString x)=some (.type x):=
 ac ⟨by decide +kernel,by kernel_rfl⟩ <| ac ⟨by decide +kernel,by kernel_rfl⟩ <| ac ⟨by decide +kernel,by kernel_rfl⟩ <| ac ⟨by decide +kernel,by kernel_rfl⟩ <| ac ⟨by decide +kernel,by kernel_rfl⟩ <| ac ⟨by decide +kernel,by kernel_rfl⟩ <| ac ⟨by decide +kernel,by kernel_rfl⟩ <| an
theorem blt0 (X:Cx)(hm:∀x,X.mg x=nsFind (zc X.w.params) x)(hb:∀x:Str,x≠"__name__"->X.mb x=bootBuiltins x):Zx X:=
 ⟨λx hx=>by rw[hm];exact Option.isNone_iff_eq_none.mp (List.all_eq_true.mp (mgB X.w.params) x hx),λx hx=>(hb _ (fnB x hx).1).trans (fnB x hx).2,λx hx=>(hb _ (tyB x hx).1).trans (tyB x hx).2⟩
theorem zIJ {X:Cx}{x:Str}{a:Addr}(hK:X.K=K0 X.w.params)(hm:∀x,X.mg x=nsFind (zc X.w.params) x)(h:∀P,nsFind (zc P) x=some (.ref a)/\keepIn (K0 P) (.ref a)=true):Zc X x a:=⟨(hm _).trans (h _).1,by rw[hK];exact(h _).2⟩
theorem zCZ {X:Cx}{x:Str}{k:Cls}{a:Addr}(hK:X.K=K0 X.w.params)(hc:X.cA=cA0)(hm:∀x,X.mg x=nsFind (zc X.w.params) x)(h:∀P,nsFind (zc P) x=some (.ref (cA0 k))/\keepIn (K0 P) (.ref (cA0 k))=true/\findIn (K0 P) (.ref (cA0 k)) "__init__" = some (some (.ref a))/\typeIn (K0 P) (.ref a)=some (.type "function")):Z0 X x k a:=by
 obtain⟨h1,h2,h3,h4⟩:=h X.w.params
 exact⟨by rw[hc];exact(hm _).trans h1,by rw[hK,hc];exact h2,by rw[hK,hc];exact h3,by rw[hK];exact h4⟩
theorem zHr (P:Params):nsFind (zc P) "Step" = some (.ref (cA0 .step))/\keepIn (K0 P) (.ref (cA0 .step))=true/\findIn (K0 P) (.ref (cA0 .step)) "__init__" = some (some (.ref vS))/\typeIn (K0 P) (.ref vS)=some (.type "function"):=⟨by kernel_rfl,by kernel_rfl,by kernel_rfl,by kernel_rfl⟩
theorem zGO (P:Params):nsFind (zc P) "Block" = some (.ref (cA0 .block))/\keepIn (K0 P) (.ref (cA0 .block))=true/\findIn (K0 P) (.ref (cA0 .block)) "__init__" = some (some (.ref uT))/\typeIn (K0 P) (.ref uT)=some (.type "function"):=⟨by kernel_rfl,by kernel_rfl,by kernel_rfl,by kernel_rfl⟩
theorem zHs (P:Params):nsFind (zc P) "Func" = some (.ref (cA0 .func))/\keepIn (K0 P) (.ref (cA0 .func))=true/\findIn (K0 P) (.ref (cA0 .func)) "__init__" = some (some (.ref zAK))/\typeIn (K0 P) (.ref zAK)=some (.type "function"):=⟨by kernel_rfl,by kernel_rfl,by kernel_rfl,by kernel_rfl⟩
theorem zGM (P:Params):nsFind (zc P) "ROUND" = some (.int 4294967296 304):=by kernel_rfl
noncomputable def vN (P:Params):Array DictEntry:=match (ko85 P).data with | .dict es _=>es | _=>#[]
theorem zD6 (P:Params):TabK P (K0 P) (zc P) "EFFECTS" 85 (vN P) 4 ["store","move","call","callreg"] [306,308,310,312]:=⟨by kernel_rfl,by kernel_rfl,by kernel_rfl,by kernel_rfl⟩
noncomputable def jy (P:Params):Array DictEntry:=match (ko86 P).data with | .dict es _=>es | _=>#[]
theorem zB1 (P:Params):TabK P (K0 P) (zc P) "DIVISIONS" 86 (jy P) 4 ["div","divu","rem","remu"] [319,321,323,325]:=⟨by kernel_rfl,by kernel_rfl,by kernel_rfl,by kernel_rfl⟩
noncomputable def zB8 (P:Params):Array DictEntry:=match (ko127 P).data with | .dict es _=>es | _=>#[]
theorem zGN (P:Params):TabK P (K0 P) (zc P) "CALLS" 127 (zB8 P) 2 ["call","callreg"] [387,389]:=⟨by kernel_rfl,by kernel_rfl,by kernel_rfl,by kernel_rfl⟩
noncomputable def jQ (P:Params):Array DictEntry:=match (ko128 P).data with | .dict es _=>es | _=>#[]
theorem vj (P:Params):TabK P (K0 P) (zc P) "SELDOM_FREE" 128 (jQ P) 9 ["load","store","move","call","callreg","div","divu","rem","remu"] [394,396,398,400,402,404,406,408,410]:=⟨by kernel_rfl,by kernel_rfl,by kernel_rfl,by kernel_rfl⟩
theorem zCR (P:Params):nsFind (zc P) "_law_SIZE" = some (.int 4294967296 590):=by kernel_rfl
theorem zCS (P:Params):nsFind (zc P) "_law_HALF" = some (.int 2147483648 592):=by kernel_rfl
theorem zAf (P:Params):nsFind (zc P) "_law_OBJECT" = some (.int 8192 594):=by kernel_rfl
theorem vJ (P:Params):nsFind (zc P) "_law_REST" = some (.ref 230)/\(K0 P).lookup 230=some ⟨.type "tuple",none,.seq ((([9,40,3,1000,5,2,1541,6342,965,20]:List Int).zip [596,597,598,599,600,601,602,603,604,605]).map λx=>Value.int x.1 x.2).toArray 0,#[]⟩:=⟨by kernel_rfl,by kernel_rfl⟩
theorem zAF (P:Params):nsFind (zc P) "_law_TWO" = some (.ref 231)/\(K0 P).lookup 231=some ⟨.type "tuple",none,.seq (((["add","sub","mul","and","or","xor","lt","ltu","eq","ne","shl","sar"]:List Str).zip [607,608,609,610,611,612,613,614,615,616,617,618]).map λx=>Value.str x.1 x.2).toArray 0,#[]⟩:=⟨by kernel_rfl,by kernel_rfl⟩
theorem vK (P:Params):nsFind (zc P) "_law_OVER" = some (.ref 232)/\(K0 P).lookup 232=some ⟨.type "tuple",none,.seq (((["div","divu","rem","remu"]:List Str).zip [620,621,622,623]).map λx=>Value.str x.1 x.2).toArray 0,#[]⟩:=⟨by kernel_rfl,by kernel_rfl⟩
theorem zAG (P:Params):nsFind (zc P) "_law_ONE" = some (.ref 233)/\(K0 P).lookup 233=some ⟨.type "tuple",none,.seq (((["copy","neg","not","sx8","sx16","zx8","zx16"]:List Str).zip [625,626,627,628,629,630,631]).map λx=>Value.str x.1 x.2).toArray 0,#[]⟩:=⟨by kernel_rfl,by kernel_rfl⟩
theorem kfA (P:Params):∀r∈topF,nsFind (zc P) r.1=some (.ref r.2)/\keepIn (K0 P) (.ref r.2)=true:=
 ac ⟨by kernel_rfl,by kernel_rfl⟩ <| ac ⟨by kernel_rfl,by kernel_rfl⟩ <| ac ⟨by kernel_rfl,by kernel_rfl⟩ <| ac ⟨by kernel_rfl,by kernel_rfl⟩ <| ac ⟨by kernel_rfl,by kernel_rfl⟩ <| ac ⟨by kernel_rfl,by kernel_rfl⟩ <| ac ⟨by kernel_rfl,by kernel_rfl⟩ <| ac ⟨by kernel_rfl,by kernel_rfl⟩ <| ac ⟨by kernel_rfl,by kernel_rfl⟩ <| ac ⟨by kernel_rfl,by kernel_rfl⟩ <| ac ⟨by kernel_rfl,by kernel_rfl⟩ <| ac ⟨by kernel_rfl,by kernel_rfl⟩ <| ac ⟨by kernel_rfl,by kernel_rfl⟩ <| ac ⟨by kernel_rfl,by kernel_rfl⟩ <| ac ⟨by kernel_rfl,by kernel_rfl⟩ <| ac ⟨by kernel_rfl,by kernel_rfl⟩ <| ac ⟨by kernel_rfl,by kernel_rfl⟩ <| ac ⟨by kernel_rfl,by kernel_rfl⟩ <| ac ⟨by kernel_rfl,by kernel_rfl⟩ <| ac ⟨by kernel_rfl,by kernel_rfl⟩ <| ac ⟨by kernel_rfl,by kernel_rfl⟩ <| ac ⟨by kernel_rfl,by kernel_rfl⟩ <| ac ⟨by kernel_rfl,by kernel_rfl⟩ <| ac ⟨by kernel_rfl,by kernel_rfl⟩ <| ac ⟨by kernel_rfl,by kernel_rfl⟩ <| ac ⟨by kernel_rfl,by kernel_rfl⟩ <| ac ⟨by kernel_rfl,by kernel_rfl⟩ <| ac ⟨by kernel_rfl,by kernel_rfl⟩ <| ac ⟨by kernel_rfl,by kernel_rfl⟩ <| ac ⟨by kernel_rfl,by kernel_rfl⟩ <| ac ⟨by kernel_rfl,by kernel_rfl⟩ <| ac ⟨by kernel_rfl,by kernel_rfl⟩ <| ac ⟨by kernel_rfl,by kernel_rfl⟩ <| ac ⟨by kernel_rfl,by kernel_rfl⟩ <| ac ⟨by kernel_rfl,by kernel_rfl⟩ <| ac ⟨by kernel_rfl,by kernel_rfl⟩ <| ac ⟨by kernel_rfl,by kernel_rfl⟩ <| ac ⟨by kernel_rfl,by kernel_rfl⟩ <| ac ⟨by kernel_rfl,by kernel_rfl⟩ <| ac ⟨by kernel_rfl,by kernel_rfl⟩ <| ac ⟨by kernel_rfl,by kernel_rfl⟩ <| ac ⟨by kernel_rfl,by kernel_rfl⟩ <| ac ⟨by kernel_rfl,by kernel_rfl⟩ <| ac ⟨by kernel_rfl,by kernel_rfl⟩ <| an
theorem kdA (P:Params):∀r∈topD,DefK (K0 P) r.a r.ps r.sc (fdB r.st):=
 ac ⟨by kernel_rfl,by kernel_rfl,by kernel_rfl,fdIs (o:=ko28 P) (by kernel_rfl) rfl (zIT λ_ _ _ _ _=>by kernel_rfl)⟩ <| 
 ac ⟨by kernel_rfl,by kernel_rfl,by kernel_rfl,fdIs (o:=ko49 P) (by kernel_rfl) rfl (vn λ_ _=>by kernel_rfl)⟩ <| 
 ac ⟨by kernel_rfl,by kernel_rfl,by kernel_rfl,fdIs (o:=ko70 P) (by kernel_rfl) rfl (vn λ_ _=>by kernel_rfl)⟩ <| 
 ac ⟨by kernel_rfl,by kernel_rfl,by kernel_rfl,fdIs (o:=ko84 P) (by kernel_rfl) rfl (jB λ_=>by kernel_rfl)⟩ <| 
 ac ⟨by kernel_rfl,by kernel_rfl,by kernel_rfl,fdIs (o:=ko93 P) (by kernel_rfl) rfl (jB λ_=>by kernel_rfl)⟩ <| 
 ac ⟨by kernel_rfl,by kernel_rfl,by kernel_rfl,fdIs (o:=ko100 P) (by kernel_rfl) rfl (jB λ_=>by kernel_rfl)⟩ <| 
 ac ⟨by kernel_rfl,by kernel_rfl,by kernel_rfl,fdIs (o:=ko107 P) (by kernel_rfl) rfl (jB λ_=>by kernel_rfl)⟩ <| 
 ac ⟨by kernel_rfl,by kernel_rfl,by kernel_rfl,fdIs (o:=ko112 P) (by kernel_rfl) rfl (jB λ_=>by kernel_rfl)⟩ <| 
 ac ⟨by kernel_rfl,by kernel_rfl,by kernel_rfl,fdIs (o:=ko119 P) (by kernel_rfl) rfl (jB λ_=>by kernel_rfl)⟩ <| 
 ac ⟨by kernel_rfl,by kernel_rfl,by kernel_rfl,fdIs (o:=ko126 P) (by kernel_rfl) rfl (zIT λ_ _ _ _ _=>by kernel_rfl)⟩ <| 
 ac ⟨by kernel_rfl,by kernel_rfl,by kernel_rfl,fdIs (o:=ko135 P) (by kernel_rfl) rfl (jB λ_=>by kernel_rfl)⟩ <| 
 ac ⟨by kernel_rfl,by kernel_rfl,by kernel_rfl,fdIs (o:=ko142 P) (by kernel_rfl) rfl (vn λ_ _=>by kernel_rfl)⟩ <| 
 ac ⟨by kernel_rfl,by kernel_rfl,by kernel_rfl,fdIs (o:=ko149 P) (by kernel_rfl) rfl (jB λ_=>by kernel_rfl)⟩ <| 
 ac ⟨by kernel_rfl,by kernel_rfl,by kernel_rfl,fdIs (o:=ko156 P) (by kernel_rfl) rfl (zBe λ_ _ _=>by kernel_rfl)⟩ <| 
 ac ⟨by kernel_rfl,by kernel_rfl,by kernel_rfl,fdIs (o:=ko163 P) (by kernel_rfl) rfl (zC1 λ_ _ _ _=>by kernel_rfl)⟩ <| 
 ac ⟨by kernel_rfl,by kernel_rfl,by kernel_rfl,fdIs (o:=ko170 P) (by kernel_rfl) rfl (vn λ_ _=>by kernel_rfl)⟩ <| 
 ac ⟨by kernel_rfl,by kernel_rfl,by kernel_rfl,fdIs (o:=ko177 P) (by kernel_rfl) rfl (vn λ_ _=>by kernel_rfl)⟩ <| 
 ac ⟨by kernel_rfl,by kernel_rfl,by kernel_rfl,fdIs (o:=ko184 P) (by kernel_rfl) rfl (jB λ_=>by kernel_rfl)⟩ <| 
 ac ⟨by kernel_rfl,by kernel_rfl,by kernel_rfl,fdIs (o:=ko191 P) (by kernel_rfl) rfl (zC1 λ_ _ _ _=>by kernel_rfl)⟩ <| 
 ac ⟨by kernel_rfl,by kernel_rfl,by kernel_rfl,fdIs (o:=ko196 P) (by kernel_rfl) rfl (vn λ_ _=>by kernel_rfl)⟩ <| 
 ac ⟨by kernel_rfl,by kernel_rfl,by kernel_rfl,fdIs (o:=ko203 P) (by kernel_rfl) rfl (zC1 λ_ _ _ _=>by kernel_rfl)⟩ <| 
 ac ⟨by kernel_rfl,by kernel_rfl,by kernel_rfl,fdIs (o:=ko210 P) (by kernel_rfl) rfl (zBe λ_ _ _=>by kernel_rfl)⟩ <| 
 ac ⟨by kernel_rfl,by kernel_rfl,by kernel_rfl,fdIs (o:=ko217 P) (by kernel_rfl) rfl (zBe λ_ _ _=>by kernel_rfl)⟩ <| 
 ac ⟨by kernel_rfl,by kernel_rfl,by kernel_rfl,fdIs (o:=ko222 P) (by kernel_rfl) rfl (zBe λ_ _ _=>by kernel_rfl)⟩ <| 
 ac ⟨by kernel_rfl,by kernel_rfl,by kernel_rfl,fdIs (o:=ko229 P) (by kernel_rfl) rfl (jB λ_=>by kernel_rfl)⟩ <| 
 ac ⟨by kernel_rfl,by kernel_rfl,by kernel_rfl,fdIs (o:=ko238 P) (by kernel_rfl) rfl (jB λ_=>by kernel_rfl)⟩ <| 
 ac ⟨by kernel_rfl,by kernel_rfl,by kernel_rfl,fdIs (o:=ko245 P) (by kernel_rfl) rfl (zBe λ_ _ _=>by kernel_rfl)⟩ <| 
 ac ⟨by kernel_rfl,by kernel_rfl,by kernel_rfl,fdIs (o:=ko252 P) (by kernel_rfl) rfl (zBe λ_ _ _=>by kernel_rfl)⟩ <| 
 ac ⟨by kernel_rfl,by kernel_rfl,by kernel_rfl,fdIs (o:=ko259 P) (by kernel_rfl) rfl (zIT λ_ _ _ _ _=>by kernel_rfl)⟩ <| 
 ac ⟨by kernel_rfl,by kernel_rfl,by kernel_rfl,fdIs (o:=ko266 P) (by kernel_rfl) rfl (jB λ_=>by kernel_rfl)⟩ <| 
 ac ⟨by kernel_rfl,by kernel_rfl,by kernel_rfl,fdIs (o:=ko273 P) (by kernel_rfl) rfl (jB λ_=>by kernel_rfl)⟩ <| 
 ac ⟨by kernel_rfl,by kernel_rfl,by kernel_rfl,fdIs (o:=ko280 P) (by kernel_rfl) rfl (vn λ_ _=>by kernel_rfl)⟩ <| 
 ac ⟨by kernel_rfl,by kernel_rfl,by kernel_rfl,fdIs (o:=ko287 P) (by kernel_rfl) rfl (jB λ_=>by kernel_rfl)⟩ <| 
 ac ⟨by kernel_rfl,by kernel_rfl,by kernel_rfl,fdIs (o:=ko294 P) (by kernel_rfl) rfl (zBe λ_ _ _=>by kernel_rfl)⟩ <| 
 ac ⟨by kernel_rfl,by kernel_rfl,by kernel_rfl,fdIs (o:=ko301 P) (by kernel_rfl) rfl (zBe λ_ _ _=>by kernel_rfl)⟩ <| 
 ac ⟨by kernel_rfl,by kernel_rfl,by kernel_rfl,fdIs (o:=ko308 P) (by kernel_rfl) rfl (vn λ_ _=>by kernel_rfl)⟩ <| 
 ac ⟨by kernel_rfl,by kernel_rfl,by kernel_rfl,fdIs (o:=ko315 P) (by kernel_rfl) rfl (vn λ_ _=>by kernel_rfl)⟩ <| 
 ac ⟨by kernel_rfl,by kernel_rfl,by kernel_rfl,fdIs (o:=ko322 P) (by kernel_rfl) rfl (zC1 λ_ _ _ _=>by kernel_rfl)⟩ <| 
 ac ⟨by kernel_rfl,by kernel_rfl,by kernel_rfl,fdIs (o:=ko329 P) (by kernel_rfl) rfl (zC1 λ_ _ _ _=>by kernel_rfl)⟩ <| 
 ac ⟨by kernel_rfl,by kernel_rfl,by kernel_rfl,fdIs (o:=ko336 P) (by kernel_rfl) rfl (zC1 λ_ _ _ _=>by kernel_rfl)⟩ <| 
 ac ⟨by kernel_rfl,by kernel_rfl,by kernel_rfl,fdIs (o:=ko343 P) (by kernel_rfl) rfl (zC1 λ_ _ _ _=>by kernel_rfl)⟩ <| 
 ac ⟨by kernel_rfl,by kernel_rfl,by kernel_rfl,fdIs (o:=ko348 P) (by kernel_rfl) rfl (jB λ_=>by kernel_rfl)⟩ <| 
 ac ⟨by kernel_rfl,by kernel_rfl,by kernel_rfl,fdIs (o:=ko353 P) (by kernel_rfl) rfl (jB λ_=>by kernel_rfl)⟩ <| 
 ac ⟨by kernel_rfl,by kernel_rfl,by kernel_rfl,fdIs (o:=ko358 P) (by kernel_rfl) rfl (jB λ_=>by kernel_rfl)⟩ <| 
 ac ⟨by kernel_rfl,by kernel_rfl,by kernel_rfl,fdIs (o:=ko365 P) (by kernel_rfl) rfl (vn λ_ _=>by kernel_rfl)⟩ <| 
 ac ⟨by kernel_rfl,by kernel_rfl,by kernel_rfl,fdIs (o:=ko372 P) (by kernel_rfl) rfl (jB λ_=>by kernel_rfl)⟩ <| 
 ac ⟨by kernel_rfl,by kernel_rfl,by kernel_rfl,fdIs (o:=ko377 P) (by kernel_rfl) rfl (jB λ_=>by kernel_rfl)⟩ <| an
theorem zJ7 (X:Cx)(hK:X.K=K0 X.w.params)(hc:X.cA=cA0)(hm:∀x,X.mg x=nsFind (zc X.w.params) x)(hb:∀x:Str,x≠"__name__"->X.mb x=bootBuiltins x):Tops X:=
 ⟨cls0 X hK hc,blt0 X hm hb,
  zCZ hK hc hm zHr,
  zCZ hK hc hm zGO,
  zCZ hK hc hm zHs,
  ⟨_,(hm _).trans (zGM _),.int _ _⟩,
  TabK.at (es:=vN X.w.params) hm (by rw[hK];exact zD6 _) (by decide),
  TabK.at (es:=jy X.w.params) hm (by rw[hK];exact zB1 _) (by decide),
  TabK.at (es:=zB8 X.w.params) hm (by rw[hK];exact zGN _) (by decide),
  TabK.at (es:=jQ X.w.params) hm (by rw[hK];exact vj _) (by decide),
  ⟨_,(hm _).trans (zCR _),.int _ _⟩,
  ⟨_,(hm _).trans (zCS _),.int _ _⟩,
  ⟨_,(hm _).trans (zAf _),.int _ _⟩,
  ⟨_,(hm _).trans (vJ _).1,.tup' (X.kin _ _ (by rw[hK];exact(vJ _).2)) (zFe (([9,40,3,1000,5,2,1541,6342,965,20]:List Int).zip [596,597,598,599,600,601,602,603,604,605]))⟩,
  ⟨_,(hm _).trans (zAF _).1,.tup' (X.kin _ _ (by rw[hK];exact(zAF _).2)) (zAL ((["add","sub","mul","and","or","xor","lt","ltu","eq","ne","shl","sar"]:List Str).zip [607,608,609,610,611,612,613,614,615,616,617,618]))⟩,
  ⟨_,(hm _).trans (vK _).1,.tup' (X.kin _ _ (by rw[hK];exact(vK _).2)) (zAL ((["div","divu","rem","remu"]:List Str).zip [620,621,622,623]))⟩,
  ⟨_,(hm _).trans (zAG _).1,.tup' (X.kin _ _ (by rw[hK];exact(zAG _).2)) (zAL ((["copy","neg","not","sx8","sx16","zx8","zx16"]:List Str).zip [625,626,627,628,629,630,631]))⟩,
  λr h=>zIJ hK hm λP=>kfA P r h,
  λr h=>DefK.at (by rw[hK];exact kdA _ r h)⟩
end
section
set_option maxRecDepth 100000
set_option maxHeartbeats 4000000
theorem hd0 (H:WalkO q0 zBX (XL q0 []) (kHook K0 as0 K0e).says rw0.row.toRowW ⟨"law",fdA (pst 62),fdB (pst 62),fdS (pst 62),(match pst 62 with | .FunctionDef _ _ _ _ _ _ _ _ _ p=>p | _=>⟨0,0,0,0⟩)⟩ [] λf vs=>PySem.call f vs):PySem.Challenge.rw_nm0021_01.Holds:=by
 w_on
 refine holds_law zJe λsaid=>?_
 refine holds_open (q:=q0) (loose:=zBX) (Xt:=λs=>xlAt q0 [] s&&recOk (RowW.records rw0.row.toRowW) s) (XP:=XL q0 []) (Yf:=(kHook K0 as0 K0e).obs) (Ya:=(kHook K0 as0 K0e).val) (YP:=(kHook K0 as0 K0e).says) (N:=4250) zJu
  (Hook.of _) (Hook.keeps _) (λs e=>xl_of s (Bool.and_eq_true_iff.mp e).1) XL.keeps (by rfl) (by rfl) (by rfl) (λs e=>recFacts_of (Bool.and_eq_true_iff.mp e).2) (by rfl) (by first | assumption | decide +kernel) (by decide +kernel) ⟨rfl,rfl,rfl,rfl,rfl,by decide +kernel⟩ ?hw H
 case hw=>w_witness2
theorem zEP {X:Cx}{h:Heap}:Rep X h.get? (λ_=>none) h where
 keep:=λ_ _ e=>e
 low:=λa g e=>by cases e
 own:=λa g e=>by cases e
 dsep:=λa c fs o d e=>by cases e
theorem zG4 {ns:List Int}(h:ns.length<=63):(ns.map Val.int).length<=2 * cap:=by rw[List.length_map];unfold cap;omega
theorem law_of:PySem.Challenge.rw_nm0021_01.Holds:=by
 refine hd0 ?_
 intro w s0 s₁ mg mb G Y fa o pm cd doc dV kV ho hd hcd hD hmg hg args vals as hpre hlay hrd hwl hlo
 have KX:=kIn_of Y
 wrow_args hpre hlay hrd hwl hlo
 rename_i ns _ _ _ _ _ _ _ l lv _ hL _ _ _ hI _ hlen _
 have hm:=zHm KX G.T.g
 have T:=zJ7 { prog:=rw0.row.prog,w:=w,K:=K0 w.params,H0:=s₁.heap,mg:=mg,mb:=mb,cA:=cA0,kin:=KX,ng:=G.T.g,nb:=G.T.b,lim:=G.T.nolimit } rfl rfl hm G.T.builtins
 have hfa:fa=zC7:=by
  have e2:=(hm "law").trans (kfA w.params ⟨"law",zC7⟩ (mi 43 rfl)).1
  have e3:mg "law" = some (.ref fa):=hmg
  rw[e3] at e2
  cases e2;rfl
 subst hfa
 have hv0:VRs s₁.heap (ns.map .int) lv.toArray.toList:=by rw[List.toList_toArray];exact zC9 hI
 refine wpAny_call (Cal.go (zI4 (n:=9) (G:=λ_=>none) (Q:=λv _=>v=.bool true) T ⟨zG4 (by omega),_,hL,hv0⟩ λ_=>rfl) (b:=s₁.heap.get?) ⟨rfl,by decide +kernel,by decide +kernel⟩ ?_ zEP (.cons (.ref _) .nil) ?_)
 ·exact λ_ _ e=>e
 rintro v s' ⟨u,G',hv,hr,⟨tk,hgen,hos⟩,rfl⟩
 rw[hv.bool_inv]
 exact⟨.inl ⟨_,.bool true,[],rfl,λ_=>rfl,.bool _,by kernel_rfl,λ_=>⟨List.nodup_nil,λa h=>by cases h⟩⟩,.of_keep λb o e=>hr.keep b o e,hos,.of_eq (hgen.trans hg)⟩
end
end Mine.Internal
theorem PySem.Challenge.cw_nm0021_01_holds : PySem.Challenge.rw_nm0021_01.Holds :=
 Mine.Internal.law_of
