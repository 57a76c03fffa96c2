import PyProof.Rows.All
import Wide.All
import OpenK.AllK
import Wide.FinOn
import Lean
import PySem.Challenge.RW_nm0021_03
open PySem PySem.W PyProof.Rows
set_option Elab.async false
set_option linter.all false
set_option genInjectivity false
set_option genSizeOf false
set_option maxRecDepth 4000
namespace Mine
noncomputable section
inductive Val where
  | none
  | bool (b : Bool)
  | int (i : Int)
  | str (s : Str)
  | tup (vs : List Val)
  | ref (a : Addr)
inductive Fld where
  | op | dst | args | more | is_volatile | line | number | steps | end_ | name | params | is_static | slots | blocks | registers | has_value
  deriving DecidableEq
noncomputable def Fld.txts : List Str := ["op", "dst", "args", "more", "is_volatile", "line", "number", "steps", "end", "name", "params", "is_static", "slots", "blocks", "registers", "has_value"]
noncomputable def Fld.all : List Fld := [.op, .dst, .args, .more, .is_volatile, .line, .number, .steps, .end_, .name, .params, .is_static, .slots, .blocks, .registers, .has_value]
noncomputable def Fld.txt (f : Fld) : Str := Fld.txts.getD f.ctorIdx ""
theorem Fld.txts_nodup : Fld.txts.Nodup := by decide +kernel
theorem Fld.idx_lt (f : Fld) : f.ctorIdx < 16 := by cases f <;> decide
theorem Fld.at_idx (f : Fld) : Fld.all[f.ctorIdx]? = some f := by cases f <;> rfl
theorem Fld.txt_inj (a b : Fld) (h : a.txt = b.txt) : a = b := by
  have key : ∀ f : Fld, Fld.txts[f.ctorIdx]? = some f.txt := fun f => by
    have : f.ctorIdx < Fld.txts.length := f.idx_lt
    unfold Fld.txt
    rw [List.getD_eq_getElem?_getD, List.getElem?_eq_getElem this]; rfl
  obtain ⟨l1, e1⟩ := List.getElem?_eq_some_iff.mp (key a)
  obtain ⟨l2, e2⟩ := List.getElem?_eq_some_iff.mp (key b)
  have e := (List.getElem_inj Fld.txts_nodup).mp ((e1.trans h).trans e2.symm)
  have := a.at_idx
  rw [e, b.at_idx] at this
  exact (Option.some.inj this).symm
inductive Cls where
  | step | block | func
inductive GObj where
  | list (xs : List Val)
  | dict (es : List (Int × Val))
  | set (S : Int → Bool) (fresh : Bool)
  | inst (C : Cls) (fs : Fld → Option Val)
noncomputable abbrev Gh := Addr → Option GObj
noncomputable def Gh.upd (G : Gh) (a : Addr) (o : GObj) : Gh := fun b => if b = a then some o else G b
theorem Gh.upd_same (G : Gh) (a : Addr) (o : GObj) : G.upd a o a = some o := if_pos rfl
theorem Gh.upd_ne (G : Gh) {a b : Addr} (o : GObj) (h : b ≠ a) : G.upd a o b = G b := if_neg h
inductive VR (h : Heap) : Val → Value → Prop where
  | none : VR h .none .none
  | bool (b : Bool) : VR h (.bool b) (.bool b)
  | int (i : Int) (t : Tok) : VR h (.int i) (.int i t)
  | str (x : Str) (t : Tok) : VR h (.str x) (.str x t)
  | ref (a : Addr) : VR h (.ref a) (.ref a)
  | tup {a : Addr} {n : Nat} {vs : List Val} {ys : List Value} :
      h.get? a = some ⟨.type "tuple", .none, .seq ys.toArray n, #[]⟩ → vs.length = ys.length → (∀ (i : Nat) (v : Val) (y : Value), vs[i]? = some v → ys[i]? = some y → VR h v y) → VR h (.tup vs) (.ref a)
structure VRs (h : Heap) (vs : List Val) (ys : List Value) : Prop where
  length : vs.length = ys.length
  at_ : ∀ (i : Nat) (v : Val) (y : Value), vs[i]? = some v → ys[i]? = some y → VR h v y
theorem VR.tup' {h : Heap} {a : Addr} {n : Nat} {vs : List Val} {ys : List Value} (e : h.get? a = some ⟨.type "tuple", .none, .seq ys.toArray n, #[]⟩) (r : VRs h vs ys) : VR h (.tup vs) (.ref a) := .tup e r.length r.at_
theorem VR.int_inv {h : Heap} {i : Int} {y : Value} (r : VR h (.int i) y) : ∃ t, y = .int i t := by cases r; exact ⟨_, rfl⟩
theorem VR.str_inv {h : Heap} {x : Str} {y : Value} (r : VR h (.str x) y) : ∃ t, y = .str x t := by cases r; exact ⟨_, rfl⟩
theorem VR.ref_inv {h : Heap} {a : Addr} {y : Value} (r : VR h (.ref a) y) : y = .ref a := by cases r; rfl
theorem VR.bool_inv {h : Heap} {b : Bool} {y : Value} (r : VR h (.bool b) y) : y = .bool b := by cases r; rfl
theorem VR.none_inv {h : Heap} {y : Value} (r : VR h .none y) : y = .none := by cases r; rfl
theorem VR.tup_inv {h : Heap} {vs : List Val} {y : Value} (r : VR h (.tup vs) y) : ∃ a n ys, y = .ref a ∧ h.get? a = some ⟨.type "tuple", .none, .seq (List.toArray ys) n, #[]⟩ ∧ VRs h vs ys := by
  cases r with | tup e l k => exact ⟨_, _, _, rfl, e, l, k⟩
noncomputable def IsT (o : Obj) : Prop := o.cls = .type "tuple" ∧ ∃ xs k, o.data = .seq xs k
theorem notT {o : Obj} {T : String} (h : o.cls = .type T) (n : (T == "tuple") = false := by rfl) : ¬ IsT o := fun t => by
  have := h.symm.trans t.1
  cases this; cases n
noncomputable def TK (h h' : Heap) : Prop := ∀ a o, h.get? a = some o → IsT o → h'.get? a = some o
theorem TK.refl (h : Heap) : TK h h := fun _ _ e _ => e
theorem TK.trans {h₁ h₂ h₃ : Heap} (x : TK h₁ h₂) (y : TK h₂ h₃) : TK h₁ h₃ := fun a o e c => y a o (x a o e c) c
theorem TK.of_keep {h h' : Heap} (k : ∀ b o, h.get? b = some o → h'.get? b = some o) : TK h h' := fun a o e _ => k a o e
theorem TK.extBut {h h' : Heap} {a : Addr} {o : Obj} (hs : Heap.ExtBut a h h') (ho : h.get? a = some o) (hc : ¬ IsT o) : TK h h' := fun b o' e c =>
  hs b o' (fun q => by subst q; rw [ho] at e; cases e; exact hc c) e
theorem TK.sameButT {h h' : Heap} {a : Addr} {o : Obj} (hs : Heap.SameBut a h h') (ho : h.get? a = some o) (hc : ¬ IsT o) : TK h h' := .extBut hs.extBut ho hc
theorem TK.sameBut {h h' : Heap} {a : Addr} {o : Obj} (hs : Heap.SameBut a h h') (ho : h.get? a = some o) (hc : o.cls ≠ .type "tuple") : TK h h' := .sameButT hs ho fun c => hc c.1
theorem VR.mono {h h' : Heap} (k : TK h h') {v : Val} {y : Value} (r : VR h v y) : VR h' v y := by
  induction r with
  | none => exact .none
  | bool b => exact .bool b
  | int i t => exact .int i t
  | str x t => exact .str x t
  | ref a => exact .ref a
  | tup e l _ ih => exact .tup (k _ _ e ⟨rfl, _, _, rfl⟩) l ih
theorem VRs.mono {h h' : Heap} (k : TK h h') {vs : List Val} {ys : List Value} (r : VRs h vs ys) : VRs h' vs ys := ⟨r.length, fun i v y a b => (r.at_ i v y a b).mono k⟩
section
variable {h : Heap}
theorem VRs.get {vs : List Val} {ys : List Value} (r : VRs h vs ys) {i : Nat} {v : Val} (e : vs[i]? = some v) : ∃ y, ys[i]? = some y ∧ VR h v y := by
  have hi := (List.getElem?_eq_some_iff.mp e).1
  rw [r.length] at hi
  exact ⟨_, List.getElem?_eq_getElem hi, r.at_ i v _ e (List.getElem?_eq_getElem hi)⟩
theorem VRs.nil : VRs h [] [] := ⟨rfl, fun i v y a _ => by cases a⟩
theorem VRs.cons {v : Val} {vs : List Val} {y : Value} {ys : List Value} (a : VR h v y) (r : VRs h vs ys) : VRs h (v :: vs) (y :: ys) :=
  ⟨congrArg (· + 1) r.length, fun i w z e1 e2 => by
    cases i with
    | zero => cases e1; cases e2; exact a
    | succ i => exact r.at_ i w z e1 e2⟩
theorem VRs.cons_inv {v : Val} {vs : List Val} {zs : List Value} (r : VRs h (v :: vs) zs) : ∃ y ys, zs = y :: ys ∧ VR h v y ∧ VRs h vs ys := by
  cases zs with
  | nil => exact absurd r.length (by simp)
  | cons y ys => exact ⟨y, ys, rfl, r.at_ 0 v y rfl rfl, by simpa using r.length, fun i w z e1 e2 => r.at_ (i + 1) w z e1 e2⟩
theorem VRs.nil_inv {zs : List Value} (r : VRs h [] zs) : zs = [] := List.length_eq_zero_iff.mp r.length.symm
theorem VRs.one_inv {v : Val} {zs : List Value} (r : VRs h [v] zs) : ∃ y, zs = [y] ∧ VR h v y := by
  obtain ⟨y, ys, e, a, b⟩ := r.cons_inv
  exact ⟨y, by rw [e, b.nil_inv], a⟩
theorem VRs.two_inv {v w : Val} {zs : List Value} (r : VRs h [v, w] zs) : ∃ y z, zs = [y, z] ∧ VR h v y ∧ VR h w z := by
  obtain ⟨y, ys, e, a, b⟩ := r.cons_inv
  obtain ⟨z, e', c⟩ := b.one_inv
  exact ⟨y, z, by rw [e, e'], a, c⟩
theorem VRs.single {v : Val} {y : Value} (a : VR h v y) : VRs h [v] [y] := .cons a .nil
theorem VRs.append {vs ws : List Val} {ys zs : List Value} (a : VRs h vs ys) (b : VRs h ws zs) : VRs h (vs ++ ws) (ys ++ zs) :=
  ⟨by rw [List.length_append, List.length_append, a.length, b.length], fun i v y e1 e2 => by
    by_cases hi : i < vs.length
    · rw [List.getElem?_append_left hi] at e1
      rw [List.getElem?_append_left (a.length ▸ hi)] at e2
      exact a.at_ i v y e1 e2
    · rw [List.getElem?_append_right (Nat.le_of_not_lt hi)] at e1
      rw [List.getElem?_append_right (Nat.le_of_not_lt (a.length ▸ hi))] at e2
      exact b.at_ _ v y e1 (by rw [a.length]; exact e2)⟩
theorem VRs.take {vs : List Val} {ys : List Value} (a : VRs h vs ys) (n : Nat) : VRs h (vs.take n) (ys.take n) :=
  ⟨by rw [List.length_take, List.length_take, a.length], fun i v y e1 e2 => by
    rw [List.getElem?_take] at e1 e2
    by_cases hi : i < n
    · rw [if_pos hi] at e1 e2; exact a.at_ i v y e1 e2
    · rw [if_neg hi] at e1; cases e1⟩
theorem VRs.drop {vs : List Val} {ys : List Value} (a : VRs h vs ys) (n : Nat) : VRs h (vs.drop n) (ys.drop n) :=
  ⟨by rw [List.length_drop, List.length_drop, a.length], fun i v y e1 e2 => by
    rw [List.getElem?_drop] at e1 e2; exact a.at_ _ v y e1 e2⟩
theorem VRs.reverse {vs : List Val} {ys : List Value} (a : VRs h vs ys) : VRs h vs.reverse ys.reverse :=
  ⟨by rw [List.length_reverse, List.length_reverse, a.length], fun i v y e1 e2 => by
    have hi := (List.getElem?_eq_some_iff.mp e1).1
    rw [List.length_reverse] at hi
    rw [List.getElem?_reverse hi] at e1
    rw [List.getElem?_reverse (a.length ▸ hi), ← a.length] at e2
    exact a.at_ _ v y e1 e2⟩
theorem VRs.set {vs : List Val} {ys : List Value} (a : VRs h vs ys) (j : Nat) {v : Val} {y : Value} (b : VR h v y) : VRs h (vs.set j v) (ys.set j y) :=
  ⟨by rw [List.length_set, List.length_set, a.length], fun i w z e1 e2 => by
    rw [List.getElem?_set] at e1 e2
    by_cases hj : j = i
    · rw [if_pos hj] at e1 e2
      by_cases hl : i < vs.length
      · rw [if_pos (hj ▸ hl)] at e1; rw [if_pos (hj ▸ a.length ▸ hl)] at e2; cases e1; cases e2; exact b
      · rw [if_neg (hj ▸ hl)] at e1; cases e1
    · rw [if_neg hj] at e1 e2; exact a.at_ i w z e1 e2⟩
end
structure Cx where
  prog : Program
  w : World
  K : Frag
  H0 : Heap
  mg : Str → Option Value
  mb : Str → Option Value
  cA : Cls → Addr
  kin : K.In H0
  ng : H0.Ns mainGlobals mg
  nb : H0.Ns builtinsNs mb
  lim : H0.NoLimit
inductive DR (h : Heap) : List (Int × Val) → List (Int × Value) → Prop where
  | nil : DR h [] []
  | cons {k : Int} {v : Val} {y : Value} {es : List (Int × Val)} {ys : List (Int × Value)} : VR h v y → DR h es ys → DR h ((k, v) :: es) ((k, y) :: ys)
theorem DR.mono {h h' : Heap} (k : TK h h') {es : List (Int × Val)} {ys : List (Int × Value)} (d : DR h es ys) : DR h' es ys := by
  induction d with
  | nil => exact .nil
  | cons a _ ih => exact .cons (a.mono k) ih
noncomputable def FR (h : Heap) (od : Obj) (fs : Fld → Option Val) : Prop := ∀ f : Fld, (∀ v, fs f = some v → ∃ y, lookIn f.txt od = some (some y) ∧ VR h v y) ∧ (fs f = none → lookIn f.txt od = some none)
theorem FR.mono {h h' : Heap} (k : TK h h') {od : Obj} {fs : Fld → Option Val} (r : FR h od fs) : FR h' od fs := fun f =>
  ⟨fun v e => by obtain ⟨y, a, b⟩ := (r f).1 v e; exact ⟨y, a, b.mono k⟩, (r f).2⟩
noncomputable def cap : Nat := 1048576
noncomputable def cntF (fs : Fld → Option Val) : Nat := Fld.all.countP fun f => (fs f).isSome
theorem cntF_le (fs : Fld → Option Val) : cntF fs ≤ 16 := List.countP_le_length
theorem countP_put {α : Type} [DecidableEq α] (p : α → Bool) (f : α) (l : List α) (hn : l.Nodup) (hm : f ∈ l) : (l.countP fun g => if g = f then true else p g) = l.countP p + (if p f then 0 else 1) := by
  induction l with
  | nil => cases hm
  | cons a l ih =>
    have hn' := List.nodup_cons.mp hn
    rw [List.countP_cons, List.countP_cons]
    by_cases ha : a = f
    · subst ha
      have : (l.countP fun g => if g = a then true else p g) = l.countP p :=
        List.countP_congr fun x hx => by rw [if_neg (fun q : x = a => hn'.1 (q ▸ hx))]
      rw [this, if_pos rfl]
      cases p a <;> rfl
    · rw [ih hn'.2 ((List.mem_cons.mp hm).resolve_left (Ne.symm ha)), if_neg ha]
      omega
theorem cntF_put (fs : Fld → Option Val) (f : Fld) (v : Val) : cntF (fun g => if g = f then some v else fs g) = cntF fs + (if (fs f).isSome then 0 else 1) := by
  refine Eq.trans (congrArg (fun p => List.countP p Fld.all) ?_) (countP_put (fun g => (fs g).isSome) f Fld.all (by decide) (by cases f <;> decide))
  funext g
  by_cases q : g = f
  · simp only [if_pos q]; rfl
  · simp only [if_neg q]
noncomputable def SetI (h : Heap) (a : Addr) (S : Int → Bool) : Prop := ∃ (ks : List (Int × Tok)) (ep : Nat) (t : SetTable),
  h.get? a = some ⟨.type "set", none, .set (ks.map fun k => (hashInt k.1, Value.int k.1 k.2)).toArray ep t, #[]⟩ ∧ (ks.map (·.1)).Nodup ∧ (∀ k, S k = true ↔ k ∈ ks.map (·.1)) ∧ t.fits ks.length = true ∧ ∀ k ∈ ks.map (·.1), 0 ≤ k ∧ k < 32
noncomputable def Is (X : Cx) (h : Heap) (a : Addr) : GObj → Prop
  | .list xs => xs.length ≤ 2 * cap ∧ ∃ ys n, h.get? a = some ⟨.type "list", none, .seq ys n, #[]⟩ ∧ VRs h xs ys.toList
  | .dict es => es.length ≤ 2 * cap ∧ ∃ kvs : List (Int × Value), h.DictOf (intKind X.prog X.w) a kvs ∧ DR h es kvs
  | .set S fr => SetI h a S ∧ (fr = true → ∃ led, h.get? a = some ⟨.type "set", none, .set #[] 0 (.fresh 0 0 led), #[]⟩)
  | .inst c fs => ∃ d es n, h.get? a = some ⟨.ref (X.cA c), some d, .plain, #[]⟩ ∧ h.get? d = some ⟨.type "dict", none, .dict es n, #[]⟩ ∧ es.size ≤ cntF fs ∧ FR h ⟨.type "dict", none, .dict es n, #[]⟩ fs
noncomputable def GObj.isInst : GObj → Bool
  | .inst .. => true
  | _ => false
theorem Is.obj {X : Cx} {h : Heap} {a : Addr} {g : GObj} (i : Is X h a g) : ∃ o, h.get? a = some o ∧ ¬ IsT o ∧ (g.isInst = false → o.dict = none) := by
  cases g with
  | list xs => obtain ⟨_, ys, n, e, _⟩ := i; exact ⟨_, e, notT rfl, fun _ => rfl⟩
  | dict es => obtain ⟨_, kvs, ⟨o, _, _, e, x, _⟩, _⟩ := i; exact ⟨_, e, notT x.1, fun _ => x.2.1⟩
  | set S fr => obtain ⟨⟨_, _, _, e, _⟩, _⟩ := i; exact ⟨_, e, notT rfl, fun _ => rfl⟩
  | inst c fs => obtain ⟨d, es, n, e, _⟩ := i; exact ⟨_, e, (fun t => nomatch t.1), fun q => (nomatch q)⟩
theorem Is.move {X : Cx} {h h' : Heap} {a : Addr} {g : GObj} (i : Is X h a g) (k : TK h h') (ha : ∀ o, h.get? a = some o → h'.get? a = some o)
    (hd : ∀ o d, h.get? a = some o → o.dict = some d → ∀ od, h.get? d = some od → h'.get? d = some od) : Is X h' a g := by
  cases g with
  | list xs => obtain ⟨l, ys, n, e, r⟩ := i; exact ⟨l, ys, n, ha _ e, r.mono k⟩
  | dict es => obtain ⟨l, kvs, ⟨o, es', ep, e, x⟩, r⟩ := i; exact ⟨l, kvs, ⟨o, es', ep, ha _ e, x⟩, r.mono k⟩
  | set S fr => obtain ⟨⟨ks, ep, t, e, x⟩, r⟩ := i; exact ⟨⟨ks, ep, t, ha _ e, x⟩, fun q => (r q).elim fun led z => ⟨led, ha _ z⟩⟩
  | inst c fs => obtain ⟨d, es, n, e, e', z, r⟩ := i; exact ⟨d, es, n, ha _ e, hd _ _ e rfl _ e', z, r.mono k⟩
noncomputable abbrev Bs := Addr → Option Obj
noncomputable def Bs.put (b : Bs) (a : Addr) (o : Obj) : Bs := fun x => if x = a then some o else b x
noncomputable def Bs.del (b : Bs) (a : Addr) : Bs := fun x => if x = a then none else b x
theorem Bs.put_ne {b : Bs} {a x : Addr} {o : Obj} (h : x ≠ a) : b.put a o x = b x := if_neg h
theorem Bs.put_eq {b : Bs} {a : Addr} {o : Obj} : b.put a o a = some o := if_pos rfl
theorem Bs.del_ne {b : Bs} {a x : Addr} (h : x ≠ a) : b.del a x = b x := if_neg h
structure Rep (X : Cx) (b : Bs) (G : Gh) (h : Heap) : Prop where
  keep : ∀ a o, b a = some o → h.get? a = some o
  low : ∀ a g, G a = some g → a ≠ sysModules
  own : ∀ a g, G a = some g → b a = none ∧ Is X h a g
  dsep : ∀ a c fs o d, G a = some (.inst c fs) → h.get? a = some o → o.dict = some d → b d = none ∧ G d = none ∧ ∀ a' c' fs' o', G a' = some (.inst c' fs') → h.get? a' = some o' → o'.dict = some d → a' = a
theorem Rep.step {X : Cx} {W : Addr → Prop} {b b' : Bs} {G : Gh} {h h' : Heap} (r : Rep X b G h)
    (hW : ∀ a, W a → ∃ o, b a = some o ∧ ¬ IsT o) (hk : ∀ a o, ¬ W a → h.get? a = some o → h'.get? a = some o)
    (hb' : ∀ a o, b' a = some o → h'.get? a = some o) (hsub : ∀ a o, b' a = some o → (b a).isSome = true ∨ h.get? a = none ∨ IsT o) : Rep X b' G h' ∧ TK h h' := by
  have tk : TK h h' := fun a o e t => hk a o (fun w => by obtain ⟨o', e', n⟩ := hW a w; rw [r.keep _ _ e'] at e; cases e; exact n t) e
  have nW : ∀ a, b a = none → ¬ W a := fun a e w => by obtain ⟨_, e', _⟩ := hW a w; rw [e] at e'; cases e'
  have nb : ∀ a o, b a = none → h.get? a = some o → ¬ IsT o → b' a = none := fun a o e ho ht => by
    cases q : b' a with
    | none => rfl
    | some o' =>
      rcases hsub a o' q with z | z | z
      · rw [e] at z; cases z
      · rw [z] at ho; cases ho
      · have := hb' a o' q
        rw [hk a o (nW a e) ho] at this; cases this; exact absurd z ht
  refine ⟨⟨hb', r.low, fun a g e => ?_, fun a c fs o d e e1 e2 => ?_⟩, tk⟩
  · obtain ⟨p, i⟩ := r.own a g e
    obtain ⟨o, ho, hc, hd⟩ := i.obj
    refine ⟨nb a o p ho hc, i.move tk (fun o => hk a o (nW a p)) fun o' d eo ed od eod => ?_⟩
    rw [ho] at eo; cases eo
    cases g with
    | inst c fs => exact hk d od (nW d (r.dsep a _ _ o d e ho ed).1) eod
    | _ => rw [hd rfl] at ed; cases ed
  · obtain ⟨p, i⟩ := r.own a _ e
    obtain ⟨d0, es, nn, f1, f2, _⟩ := id i
    rw [hk a _ (nW a p) f1] at e1; cases e1; cases e2
    obtain ⟨q1, q2, q3⟩ := r.dsep a c fs _ d e f1 rfl
    refine ⟨nb d _ q1 f2 (notT rfl), q2, fun a' c' fs' o' e' e1' e2' => ?_⟩
    obtain ⟨p', i'⟩ := r.own a' _ e'
    obtain ⟨_, _, _, g1, _⟩ := i'
    rw [hk a' _ (nW a' p') g1] at e1'; cases e1'
    exact q3 a' c' fs' _ e' g1 e2'
theorem Rep.mono {X : Cx} {b : Bs} {G : Gh} {h h' : Heap} (r : Rep X b G h) (k : ∀ a o, h.get? a = some o → h'.get? a = some o) : Rep X b G h' :=
  (r.step (W := fun _ => False) (fun _ f => f.elim) (fun a o _ e => k a o e) (fun a o e => k a o (r.keep a o e)) fun a o e => .inl (by rw [e]; rfl)).1
theorem Rep.less {X : Cx} {b b' : Bs} {G : Gh} {h : Heap} (r : Rep X b' G h) (k : ∀ a o, b a = some o → b' a = some o) : Rep X b G h :=
  (r.step (W := fun _ => False) (fun _ f => f.elim) (fun a o _ e => e) (fun a o e => r.keep a o (k a o e)) fun a o e => .inl (by rw [k a o e]; rfl)).1
theorem Rep.own_change {X : Cx} {b : Bs} {G : Gh} {h h' : Heap} {a : Addr} {g : GObj} (r : Rep X b G h) (ni : g.isInst = false) (hl : a ≠ sysModules) (hb : b a = none) (hd : ∀ x c fs ox, G x = some (.inst c fs) → h.get? x = some ox → ox.dict ≠ some a ∧ x ≠ a)
    (tk : TK h h') (hs : ∀ x o, x ≠ a → h.get? x = some o → h'.get? x = some o) (i : Is X h' a g) : Rep X b (G.upd a g) h' := by
  refine ⟨fun x ox e => hs x ox (fun q => by rw [q, hb] at e; cases e) (r.keep x ox e), fun x gx e => ?_, fun x gx e => ?_, fun x c fs ox d e e1 e2 => ?_⟩
  · by_cases q : x = a
    · rw [q]; exact hl
    · rw [Gh.upd_ne _ _ q] at e; exact r.low x gx e
  · by_cases q : x = a
    · subst q; rw [Gh.upd_same] at e; cases e; exact ⟨hb, i⟩
    · rw [Gh.upd_ne _ _ q] at e
      refine ⟨(r.own x gx e).1, (r.own x gx e).2.move tk (fun ox eo => hs x ox q eo) fun ox d eo ed od eod => hs d od ?_ eod⟩
      obtain ⟨o2, eo2, _, ed2⟩ := (r.own x gx e).2.obj
      rw [eo2] at eo; cases eo
      revert ed2
      cases gx with
      | inst c fs => exact fun _ q' => (hd x _ _ _ e eo2).1 (q' ▸ ed)
      | _ => intro ed2; rw [ed2 rfl] at ed; cases ed
  · by_cases q : x = a
    · subst q; rw [Gh.upd_same] at e; cases e; cases ni
    · rw [Gh.upd_ne _ _ q] at e
      have back : ∀ {y c0 f0 o}, y ≠ a → G y = some (.inst c0 f0) → h'.get? y = some o → h.get? y = some o := fun {y c0 f0 o} n q1 q2 => by
        obtain ⟨d0, _, _, e3, _⟩ := (r.own _ _ q1).2
        rw [hs y _ n e3] at q2; cases q2; exact e3
      have e1' := back q e e1
      obtain ⟨p1, p2, p3⟩ := r.dsep x c fs ox d e e1' e2
      refine ⟨p1, (Gh.upd_ne _ _ fun q' : d = a => (hd x c fs ox e e1').1 (q' ▸ e2)).trans p2, fun a' c' fs' o' f f1 f2 => ?_⟩
      by_cases q' : a' = a
      · subst q'; rw [Gh.upd_same] at f; cases f; cases ni
      · rw [Gh.upd_ne _ _ q'] at f
        exact p3 a' c' fs' o' f (back q' f f1) f2
theorem Rep.noG {X : Cx} {b : Bs} {G : Gh} {h : Heap} {a : Addr} (r : Rep X b G h) (hn : h.get? a = none) : G a = none := by
  cases q : G a with
  | none => rfl
  | some g => obtain ⟨o, ho, _⟩ := (r.own _ _ q).2.obj; rw [hn] at ho; cases ho
theorem Rep.noB {X : Cx} {b : Bs} {G : Gh} {h : Heap} {a : Addr} (r : Rep X b G h) (hn : h.get? a = none) : b a = none := by
  cases q : b a with
  | none => rfl
  | some o => rw [r.keep _ _ q] at hn; cases hn
theorem Rep.alloc {X : Cx} {b : Bs} {G : Gh} {h h' : Heap} {a : Addr} {g : GObj} (r : Rep X b G h) (k : ∀ a o, h.get? a = some o → h'.get? a = some o) (hn : h.get? a = none) (hl : a ≠ sysModules) (i : Is X h' a g) (ni : g.isInst = false) :
    Rep X b (G.upd a g) h' :=
  r.own_change ni hl (r.noB hn) (fun x c fs ox e e1 => ⟨fun q => (by obtain ⟨d, _, _, e2, e3, _⟩ := (r.own _ _ e).2; rw [e1] at e2; cases e2; cases q; rw [hn] at e3; cases e3), fun q => (by rw [q, hn] at e1; cases e1)⟩)
    (.of_keep k) (fun x o _ e => k x o e) i
theorem Rep.change {X : Cx} {b : Bs} {G : Gh} {h h' : Heap} {a : Addr} {g g' : GObj} (r : Rep X b G h) (hg : G a = some g) (ni : g.isInst = false) (ni' : g'.isInst = false) (hs : Heap.SameBut a h h') (i : Is X h' a g') :
    Rep X b (G.upd a g') h' ∧ TK h h' := by
  obtain ⟨hb, i0⟩ := r.own a g hg
  obtain ⟨o, ho, hc, _⟩ := i0.obj
  have tk : TK h h' := .sameButT hs ho hc
  exact ⟨r.own_change ni' (r.low a g hg) hb (fun x c fs ox e e1 => ⟨fun q => (by have := (r.dsep x c fs ox a e e1 q).2.1; rw [hg] at this; cases this), fun q => (by rw [q, hg] at e; cases e; cases ni)⟩) tk (fun x o n e => (hs.2 x n).trans e) i, tk⟩
theorem Rep.one {X : Cx} {b : Bs} {G : Gh} {h h' : Heap} {a : Addr} {o o' : Obj} (r : Rep X b G h) (hb : b a = some o) (ht : ¬ IsT o) (hs : Heap.ExtBut a h h') (ho : h'.get? a = some o') : Rep X (b.put a o') G h' ∧ TK h h' :=
  r.step (W := fun x => x = a) (fun x e => by subst e; exact ⟨o, hb, ht⟩) (fun x o hx e => hs x o hx e) (fun x ox e => by
    by_cases q : x = a
    · subst q; rw [Bs.put_eq] at e; cases e; exact ho
    · rw [Bs.put_ne q] at e; exact hs x ox q (r.keep _ _ e)) fun x ox e => .inl (by
    by_cases q : x = a
    · subst q; rw [hb]; rfl
    · rw [Bs.put_ne q] at e; rw [e]; rfl)
theorem Rep.gone {X : Cx} {b : Bs} {G : Gh} {h h' : Heap} {a : Addr} {o : Obj} (r : Rep X b G h) (hb : b a = some o) (ht : ¬ IsT o) (hs : Heap.ExtBut a h h') : Rep X (b.del a) G h' ∧ TK h h' :=
  r.step (W := fun x => x = a) (fun x e => by subst e; exact ⟨o, hb, ht⟩) (fun x o hx e => hs x o hx e) (fun x ox e => by
    by_cases q : x = a
    · rw [q] at e; unfold Bs.del at e; rw [if_pos rfl] at e; cases e
    · rw [Bs.del_ne q] at e; exact hs x ox q (r.keep _ _ e)) fun x ox e => .inl (by
    by_cases q : x = a
    · rw [q] at e; unfold Bs.del at e; rw [if_pos rfl] at e; cases e
    · rw [Bs.del_ne q] at e; rw [e]; rfl)
theorem Rep.hide {X : Cx} {b : Bs} {G : Gh} {h h' : Heap} {a : Addr} {o : Obj} (r : Rep X b G h) (k : ∀ a o, h.get? a = some o → h'.get? a = some o) (hn : h.get? a = none) (ho : h'.get? a = some o) : Rep X (b.put a o) G h' :=
  (r.step (W := fun _ => False) (fun _ f => f.elim) (fun a o _ e => k a o e) (fun x ox e => by
    by_cases q : x = a
    · subst q; rw [Bs.put_eq] at e; cases e; exact ho
    · rw [Bs.put_ne q] at e; exact k x ox (r.keep _ _ e)) fun x ox e => by
    by_cases q : x = a
    · subst q; exact .inr (.inl hn)
    · rw [Bs.put_ne q] at e; exact .inl (by rw [e]; rfl)).1
end
noncomputable section
noncomputable abbrev M := Str → Val → Prop
noncomputable def M.upd (m : M) (x : Str) (v : Val) : M := fun y w => (y = x ∧ w = v) ∨ (y ≠ x ∧ m y w)
inductive RD (G : Gh) : Nat → Val → PyData → Prop where
  | none {n : Nat} : RD G n .none .none
  | bool {n : Nat} (b : Bool) : RD G n (.bool b) (.bool b)
  | int {n : Nat} (i : Int) : RD G n (.int i) (.int i)
  | str {n : Nat} {x : Str} : PyData.strOk x = true → RD G n (.str x) (.str x)
  | tup {n : Nat} {vs : List Val} {ds : List PyData} : vs.length = ds.length → (∀ (i : Nat) (v : Val) (d : PyData), vs[i]? = some v → ds[i]? = some d → RD G n v d) → RD G (n + 1) (.tup vs) (.tuple ds)
  | list {n : Nat} {a : Addr} {vs : List Val} {ds : List PyData} : G a = some (.list vs) → vs.length = ds.length → (∀ (i : Nat) (v : Val) (d : PyData), vs[i]? = some v → ds[i]? = some d → RD G n v d) → RD G (n + 1) (.ref a) (.list ds)
structure RDs (G : Gh) (n : Nat) (vs : List Val) (ds : List PyData) : Prop where
  length : vs.length = ds.length
  at_ : ∀ (i : Nat) (v : Val) (d : PyData), vs[i]? = some v → ds[i]? = some d → RD G n v d
theorem RD.tup' {G : Gh} {n : Nat} {vs : List Val} {ds : List PyData} (r : RDs G n vs ds) : RD G (n + 1) (.tup vs) (.tuple ds) := .tup r.length r.at_
theorem RD.list' {G : Gh} {n : Nat} {a : Addr} {vs : List Val} {ds : List PyData} (e : G a = some (.list vs)) (r : RDs G n vs ds) : RD G (n + 1) (.ref a) (.list ds) := .list e r.length r.at_
theorem RDs.nil {G : Gh} {n : Nat} : RDs G n [] [] := ⟨rfl, fun i v d a _ => by cases a⟩
theorem RDs.cons {G : Gh} {n : Nat} {v : Val} {d : PyData} {vs : List Val} {ds : List PyData} (a : RD G n v d) (r : RDs G n vs ds) : RDs G n (v :: vs) (d :: ds) :=
  ⟨congrArg (· + 1) r.length, fun i w z e1 e2 => by
    cases i with
    | zero => cases e1; cases e2; exact a
    | succ i => exact r.at_ i w z e1 e2⟩
theorem RDs.map {α : Type} {G : Gh} {n : Nat} (f : α → Val) (g : α → PyData) (l : List α) (h : ∀ x ∈ l, RD G n (f x) (g x)) : RDs G n (l.map f) (l.map g) :=
  ⟨by rw [List.length_map, List.length_map], fun i v d e1 e2 => by
    rw [List.getElem?_map] at e1 e2
    cases q : l[i]? with
    | none => rw [q] at e1; cases e1
    | some x => rw [q] at e1 e2; cases e1; cases e2; exact h x (List.mem_of_getElem? q)⟩
noncomputable def b2i (b : Bool) : Int := if b then 1 else 0
noncomputable def lookE (es : List (Int × Val)) (k : Int) : Option Val := (es.find? fun kv => kv.1 = k).map (·.2)
noncomputable def storeE (es : List (Int × Val)) (k : Int) (v : Val) : List (Int × Val) :=
  if es.any (fun kv => kv.1 = k) then es.map (fun kv => if kv.1 = k then (kv.1, v) else kv) else es ++ [(k, v)]
noncomputable def seqAt {α : Type} (xs : List α) (i : Int) : Option α := if 0 ≤ i then xs[i.toNat]? else if 0 ≤ i + xs.length then xs[(i + xs.length).toNat]? else none
noncomputable def slice {α : Type} (xs : List α) (lo hi : Option Int) : List α := (xs.drop (kms_lo lo xs.length)).take (kms_hi hi xs.length - kms_lo lo xs.length)
noncomputable def rangeL (a b c : Int) : List Val := (List.range ((b - a + c - 1) / c).toNat).map fun (i : Nat) => Val.int (a + c * i)
noncomputable def enumL (xs : List Val) : List Val := xs.zipIdx.map fun p => .tup [.int p.2, p.1]
noncomputable abbrev QE := Val → Gh → Prop
noncomputable def newList (xs : List Val) (G : Gh) (Q : QE) : Prop := ∀ c, G c = none → Q (.ref c) (G.upd c (.list xs))
noncomputable abbrev NoE : Value → Shared → Prop := fun _ _ => False
structure AOk (A : Around) (n : Nat) : Prop where
  hd : A.handled = none
  dep : A.depth + 3 * n + 20 ≤ recursionLimit
  uni : A.units + 30 * n + 300 ≤ cLine
structure Fwd (s s' : Shared) : Prop where
  tk : TK s.heap s'.heap
  g : s'.gens = s.gens
  o : s'.os = s.os
theorem Fwd.refl {s : Shared} : Fwd s s := ⟨.refl _, rfl, rfl⟩
theorem Fwd.trans {s s₁ s₂ : Shared} (x : Fwd s s₁) (y : Fwd s₁ s₂) : Fwd s s₂ := ⟨x.tk.trans y.tk, y.g.trans x.g, y.o.trans x.o⟩
inductive Out (X : Cx) (b : Bs) (s : Shared) (Q : QE) (x : Value) (s' : Shared) : Prop where
  | mk (v : Val) (G' : Gh) (hv : VR s'.heap v x) (hr : Rep X b G' s'.heap) (f : Fwd s s') (q : Q v G')
inductive OutT (X : Cx) (b : Bs) (s : Shared) (Q : Bool → Gh → Prop) (t : Bool) (s' : Shared) : Prop where
  | mk (G' : Gh) (hr : Rep X b G' s'.heap) (f : Fwd s s') (q : Q t G')
theorem Out.next {X : Cx} {b : Bs} {s s₁ : Shared} {Q : QE} {x : Value} {s' : Shared} (o : Out X b s₁ Q x s') (f : Fwd s s₁) : Out X b s Q x s' := by
  cases o with | mk v G' a1 a2 a3 a4 => exact .mk v G' a1 a2 (f.trans a3) a4
theorem OutT.next {X : Cx} {b : Bs} {s s₁ : Shared} {Q : Bool → Gh → Prop} {x : Bool} {s' : Shared} (o : OutT X b s₁ Q x s') (f : Fwd s s₁) : OutT X b s Q x s' := by
  cases o with | mk G' a2 a3 a4 => exact .mk G' a2 (f.trans a3) a4
theorem Out.here {X : Cx} {b : Bs} {G : Gh} {s : Shared} {tk : Tok} {Q : QE} {v : Val} {x : Value} (r : Rep X b G s.heap) (hv : VR s.heap v x) (q : Q v G) : Out X b s Q x { s with toks := tk } :=
  .mk v G hv r ⟨.refl _, rfl, rfl⟩ q
theorem Out.grow {X : Cx} {b : Bs} {G : Gh} {s : Shared} {h' : Heap} {tk : Tok} {Q : QE} {v : Val} {x : Value} (r : Rep X b G s.heap) (hv : VR h' v x) (hh : ∀ a o, s.heap.get? a = some o → h'.get? a = some o) (q : Q v G) : Out X b s Q x { s with heap := h', toks := tk } :=
  .mk v G hv (r.mono hh) ⟨.of_keep hh, rfl, rfl⟩ q
noncomputable def Base (X : Cx) (b : Bs) : Prop := ∀ a o, X.H0.get? a = some o → b a = some o
theorem Base.kin {X : Cx} {b : Bs} {G : Gh} {h : Heap} (hb : Base X b) (hr : Rep X b G h) : X.K.In h := X.kin.keeps fun a o e => hr.keep _ _ (hb _ _ e)
theorem Base.kp {X : Cx} {b : Bs} {G : Gh} {h : Heap} (hb : Base X b) (hr : Rep X b G h) : ∀ a o, X.H0.get? a = some o → h.get? a = some o := fun a o e => hr.keep _ _ (hb _ _ e)
noncomputable def scOK (sc : Scope) : Bool := decide (sc.names.map (·.1)).Nodup && sc.names.all fun p => !(p.1 == ("__classdict__" : Str)) && !(p.1 == ("__debug__" : Str))
structure EnvOK (X : Cx) (sc : Scope) (env : Env) : Prop where
  scope : env.scope = sc
  kind : sc.kind = .function
  glob : env.globals = mainGlobals
  blt : env.builtins = builtinsNs
  cel : ∀ x, sc.names.lookup x = some .cell → ∃ a, env.cells.lookup x = some a
  code : ∃ a o vs, env.code = .ref a ∧ X.K.lookup a = some o ∧ o.data = .fields vs
  ok : scOK sc = true
theorem mem_of_lookup {α : Type} {x : Str} {a : α} {l : List (Str × α)} (h : l.lookup x = some a) : (x, a) ∈ l := by
  induction l with
  | nil => cases h
  | cons p l ih =>
    rw [List.lookup_cons] at h
    split at h
    · rename_i q; cases h; rw [eq_of_beq q]; exact .head _
    · exact .tail _ (ih h)
theorem lookup_of_mem {α : Type} {x : Str} {a : α} {l : List (Str × α)} (hn : (l.map (·.1)).Nodup) (h : (x, a) ∈ l) : l.lookup x = some a := by
  induction l with
  | nil => cases h
  | cons p l ih =>
    obtain ⟨n1, n2⟩ := List.nodup_cons.mp hn
    rw [List.lookup_cons]
    rcases List.mem_cons.mp h with e | h
    · rw [← e, beq_self_eq_true]
    · have : (x == p.1) = false := by
        rw [beq_eq_false_iff_ne]
        intro q; apply n1; show p.1 ∈ _; rw [← q]; exact List.mem_map_of_mem (f := (·.1)) h
      rw [this]; exact ih n2 h
section
variable {X : Cx} {n : Nat} {sc : Scope} {env : Env}
theorem scOK.nd (h : scOK sc = true) : (sc.names.map (·.1)).Nodup := of_decide_eq_true (Bool.and_eq_true_iff.mp h).1
theorem scOK.no (h : scOK sc = true) {x : Str} {k : NameKind} (hx : (x, k) ∈ sc.names) : (x == ("__classdict__" : Str)) = false ∧ (x == ("__debug__" : Str)) = false := by
  have := List.all_eq_true.mp (Bool.and_eq_true_iff.mp h).2 _ hx
  simpa using this
theorem EnvOK.kindOf (h : EnvOK X sc env) (x : Str) : env.kindOf x = sc.names.lookup x := by unfold Env.kindOf; rw [h.scope]
theorem EnvOK.dbg (h : EnvOK X sc env) {x : Str} {k : NameKind} (hk : env.kindOf x = some k) : (x == ("__debug__" : Str)) = false := by
  rw [h.kindOf] at hk
  exact (scOK.no h.ok (mem_of_lookup hk)).2
end
noncomputable def Slot0 (env : Env) (b : Bs) (name : Str) (y : Value) : Prop :=
  (env.kindOf name = some .local ∧ ∃ o es ep, b env.locals = some o ∧ o.data = .dict es ep ∧ StrKeys es ∧ nsFind es name = some y) ∨
  ((env.kindOf name = some .cell ∨ env.kindOf name = some .free) ∧ ∃ ca o, env.cells.lookup name = some ca ∧ b ca = some o ∧ o.data = .cell (some y))
noncomputable def Frm (env : Env) (b : Bs) (h : Heap) (m : M) : Prop := ∀ x v, m x v → ∃ y, VR h v y ∧ Slot0 env b x y
theorem Frm.mono {env : Env} {b : Bs} {h h' : Heap} {m : M} (f : Frm env b h m) (k : TK h h') : Frm env b h' m := fun x v e => by
  obtain ⟨y, a, c⟩ := f x v e; exact ⟨y, a.mono k, c⟩
theorem Frm.weak {env : Env} {b : Bs} {h : Heap} {m m' : M} (f : Frm env b h m) (k : ∀ x v, m' x v → m x v) : Frm env b h m' := fun x v e => f x v (k x v e)
structure Hy (X : Cx) (n : Nat) (sc : Scope) (env : Env) (A : Around) (b : Bs) (m : M) (G : Gh) (s : Shared) : Prop where
  he : EnvOK X sc env
  hA : AOk A n
  hb : Base X b
  hr : Rep X b G s.heap
  hf : Frm env b s.heap m
theorem Hy.next {X : Cx} {n : Nat} {sc : Scope} {env : Env} {A : Around} {b : Bs} {m : M} {G G' : Gh} {s s' : Shared} (h : Hy X n sc env A b m G s) (r : Rep X b G' s'.heap) (f : Fwd s s') : Hy X n sc env A b m G' s' := ⟨h.he, h.hA, h.hb, r, h.hf.mono f.tk⟩
structure Sn (X : Cx) (n : Nat) (sc : Scope) (e : PySem.Expr) (m : M) (G : Gh) (Q : QE) : Prop where
  go : ∀ {env : Env} {A : Around} {b : Bs} {s : Shared}, Hy X n sc env A b m G s → wpAny (model X.prog X.w) A (eval e env) (Out X b s Q) NoE s
structure SnT (X : Cx) (n : Nat) (sc : Scope) (e : PySem.Expr) (m : M) (G : Gh) (Q : Bool → Gh → Prop) : Prop where
  go : ∀ {env : Env} {A : Around} {b : Bs} {s : Shared}, Hy X n sc env A b m G s → wpAny (model X.prog X.w) A (isTrue e env (eval e env)) (OutT X b s Q) NoE s
theorem wpAny_trans {α : Type} {M : Model} {A : Around} {t : Sem α} {P Q : α → Shared → Prop} {s : Shared} (h : wpAny M A t P NoE s) (k : ∀ a s', P a s' → Q a s') : wpAny M A t Q NoE s := wpAny_mono h k fun _ _ x => x
theorem wpAny_anyE {α : Type} {M : Model} {A : Around} {t : Sem α} {P Q : α → Shared → Prop} {E : Value → Shared → Prop} {s : Shared} (h : wpAny M A t P NoE s) (k : ∀ a s', P a s' → Q a s') : wpAny M A t Q E s := wpAny_mono h k fun _ _ f => f.elim
section
variable {X : Cx} {n : Nat} {sc : Scope} {env : Env} {A : Around} {b : Bs} {m : M} {G : Gh} {s : Shared} {Q : QE} {e : PySem.Expr}
theorem Out.elim {x : Value} {s' : Shared} {P : Prop} (o : Out X b s Q x s') (k : ∀ v G', VR s'.heap v x → Rep X b G' s'.heap → Fwd s s' → Q v G' → P) : P := by
  cases o with | mk v G' a1 a2 a3 a4 => exact k v G' a1 a2 a3 a4
theorem OutT.elim {Q : Bool → Gh → Prop} {t : Bool} {s' : Shared} {P : Prop} (o : OutT X b s Q t s') (k : ∀ G', Rep X b G' s'.heap → Fwd s s' → Q t G' → P) : P := by
  cases o with | mk G' a2 a3 a4 => exact k G' a2 a3 a4
theorem Sn.use {P : Value → Shared → Prop} (h : Sn X n sc e m G Q) (hy : Hy X n sc env A b m G s) (k : ∀ x s₁ v G₁, VR s₁.heap v x → Hy X n sc env A b m G₁ s₁ → Fwd s s₁ → Q v G₁ → P x s₁) : wpAny (model X.prog X.w) A (eval e env) P NoE s :=
  wpAny_trans (h.go hy) fun x s₁ o => o.elim fun v G' a1 a2 a3 a4 => k x s₁ v G' a1 (hy.next a2 a3) a3 a4
theorem SnT.use {Q : Bool → Gh → Prop} {P : Bool → Shared → Prop} (h : SnT X n sc e m G Q) (hy : Hy X n sc env A b m G s) (k : ∀ t s₁ G₁, Hy X n sc env A b m G₁ s₁ → Fwd s s₁ → Q t G₁ → P t s₁) : wpAny (model X.prog X.w) A (isTrue e env (eval e env)) P NoE s :=
  wpAny_trans (h.go hy) fun x s₁ o => o.elim fun G' a2 a3 a4 => k x s₁ G' (hy.next a2 a3) a3 a4
theorem Sn.mono {Q' : QE} (h : Sn X n sc e m G Q) (k : ∀ v G', Q v G' → Q' v G') : Sn X n sc e m G Q' := ⟨fun hy => wpAny_trans (h.go hy) fun x s₁ o => o.elim fun v G' a1 a2 a3 a4 => .mk v G' a1 a2 a3 (k v G' a4)⟩
theorem SnT.mono {Q Q' : Bool → Gh → Prop} (h : SnT X n sc e m G Q) (k : ∀ v G', Q v G' → Q' v G') : SnT X n sc e m G Q' := ⟨fun hy => wpAny_trans (h.go hy) fun x s₁ o => o.elim fun G' a2 a3 a4 => .mk G' a2 a3 (k x G' a4)⟩
theorem Sn.noneC {k : Nat} {pos : Pos} (q : Q .none G) : Sn X n sc (.Constant .none k pos) m G Q := ⟨fun hy => Constant_none (.mk _ _ .none hy.hr .refl q)⟩
theorem Sn.tru {t : Bool} {k : Nat} {pos : Pos} (q : Q (.bool t) G) : Sn X n sc (.Constant (.bool t) k pos) m G Q := ⟨fun hy => Constant_bool (.mk _ _ (.bool t) hy.hr .refl q)⟩
theorem Sn.int {i : Int} {k : Nat} {pos : Pos} (q : Q (.int i) G) : Sn X n sc (.Constant (.int i) k pos) m G Q := ⟨fun hy => wpAny_Constant_int (Out.here hy.hr (.int i _) q)⟩
theorem Sn.str {x : Str} {k : Nat} {pos : Pos} (q : Q (.str x) G) : Sn X n sc (.Constant (.str x) k pos) m G Q := ⟨fun hy => wpAny_Constant_str (Out.here hy.hr (.str x _) q)⟩
theorem slot_reads {Mo : Model} {E : Value → Shared → Prop} {name : Str} {y : Value} {Q : Value → Shared → Prop} (he : EnvOK X sc env) (hr : Rep X b G s.heap) (hs : Slot0 env b name y) (q : Q y s) :
    wpAny Mo A (loadName env name) Q E s := by
  have hk' : env.scope.kind = .function := by rw [he.scope]; exact he.kind
  rcases hs with ⟨hk, o, es, ep, hb, hd, hsk, hn⟩ | ⟨hk, ca, o, hc, hb, hd⟩
  · exact wpAny_loadName_local (m := fun x => nsFind es x) hk' hk ⟨o, es, ep, hr.keep _ _ hb, hd, hsk, fun _ => rfl⟩ hn q
  · have ho := hr.keep _ _ hb
    rcases hk with hk | hk
    · exact wpAny_loadName_cell hk' hk hc ⟨o, ho, hd⟩ q
    · have hx := hk
      rw [he.kindOf] at hx
      exact wpAny_loadName_free (hn := (scOK.no he.ok (mem_of_lookup hx)).1) hk' hk hc ⟨o, ho, hd⟩ q
theorem Slot0.kind {name : Str} {y : Value} (h : Slot0 env b name y) : ∃ k, env.kindOf name = some k := by
  rcases h with ⟨h, _⟩ | ⟨h | h, _⟩ <;> exact ⟨_, h⟩
theorem Sn.var {x : Str} {v : Val} {pos : Pos} (hx : m x v) (q : Q v G) : Sn X n sc (.Name x pos) m G Q := ⟨fun hy => by
  obtain ⟨y, hv, hs⟩ := hy.hf x v hx
  obtain ⟨k, hk⟩ := hs.kind
  exact wpAny_Name (slot_reads hy.he hy.hr hs (Out.here hy.hr hv q)) (hy.he.dbg hk)⟩
theorem fits_of_cap {k : Nat} (h : k < cap) : k ≤ sizeLine := by rw [sizeLine_eq]; unfold cap at h; omega
theorem get_none {h : Heap} {a : Addr} (ha : h.objs.size ≤ a) : h.get? a = Option.none := by
  cases q : h.get? a with
  | none => rfl
  | some o => exact absurd (Heap.lt_size q) (Nat.not_lt.mpr ha)
theorem hlow {h : Heap} (hb : Base X b) (hr : Rep X b G h) : h.objs.size ≠ sysModules := by
  obtain ⟨mc, ⟨o, es, ep, ho, _⟩, _⟩ := X.lim
  have : (2 : Nat) < h.objs.size := Heap.lt_size (hb.kp hr _ _ ho)
  exact fun q => by rw [q] at this; exact absurd this (by decide)
theorem newL2 {s' : Shared} {xs : List Val} {ys : Array Value} {D : Addr} {k : Nat} (hb : Base X b) (hr : Rep X b G s.heap) (hl : xs.length ≤ 2 * cap) (kp : ∀ a o, s.heap.get? a = some o → s'.heap.get? a = some o) (hn : s.heap.get? D = Option.none)
    (hD : s'.heap.get? D = some ⟨.type "list", Option.none, .seq ys k, #[]⟩) (hlow : D ≠ sysModules) (hv : VRs s'.heap xs ys.toList) (hg : s'.gens = s.gens) (ho : s'.os = s.os) (h : newList xs G Q) : Out X b s Q (.ref D) s' :=
  .mk (.ref _) _ (.ref _) (hr.alloc (g := .list xs) kp hn hlow ⟨hl, ys, k, hD, hv⟩ rfl) ⟨.of_keep kp, hg, ho⟩ (h _ (hr.noG hn))
theorem newL {xs : List Val} {ys : Array Value} (hb : Base X b) (hr : Rep X b G s.heap) (hl : xs.length ≤ 2 * cap) (hv : VRs s.heap xs ys.toList) (h : newList xs G Q) :
    Out X b s Q (.ref s.heap.objs.size) { s with heap := s.heap.push { cls := .type "list", data := .seq ys } } :=
  have kp : ∀ a o, s.heap.get? a = some o → (s.heap.push { cls := .type "list", data := .seq ys }).get? a = some o := fun a o e => Heap.get?_push_of_some _ e
  newL2 hb hr hl kp (get_none (Nat.le_refl _)) (Heap.get?_push_size _ rfl) (hlow hb hr) (hv.mono (.of_keep kp)) rfl rfl h
theorem newT {vs : List Val} {ys : List Value} (hr : Rep X b G s.heap) (hv : VRs s.heap vs ys) (h : Q (.tup vs) G) :
    Out X b s Q (.ref s.heap.objs.size) { s with heap := s.heap.push { cls := .type "tuple", data := .seq ys.toArray } } := by
  have kp : ∀ a o, s.heap.get? a = some o → (s.heap.push { cls := .type "tuple", data := .seq ys.toArray }).get? a = some o := fun a o e => Heap.get?_push_of_some _ e
  exact .grow (tk := s.toks) hr (.tup' (Heap.get?_push_size _ rfl) (hv.mono (.of_keep kp))) kp h
structure Op1 (X : Cx) (n : Nat) (f : Value → Sem Value) (v : Val) (G : Gh) (Q : QE) : Prop where
  go : ∀ {A : Around} {b : Bs} {s : Shared} {x : Value}, AOk A n → Base X b → Rep X b G s.heap → VR s.heap v x → wpAny (model X.prog X.w) A (f x) (Out X b s Q) NoE s
structure Op2 (X : Cx) (n : Nat) (f : Value → Value → Sem Value) (v w : Val) (G : Gh) (Q : QE) : Prop where
  go : ∀ {A : Around} {b : Bs} {s : Shared} {x y : Value}, AOk A n → Base X b → Rep X b G s.heap → VR s.heap v x → VR s.heap w y → wpAny (model X.prog X.w) A (f x y) (Out X b s Q) NoE s
structure OpN (X : Cx) (n : Nat) (f : List Value → Sem Value) (vs : List Val) (G : Gh) (Q : QE) : Prop where
  go : ∀ {A : Around} {b : Bs} {s : Shared} {ys : List Value}, AOk A n → Base X b → Rep X b G s.heap → VRs s.heap vs ys → wpAny (model X.prog X.w) A (f ys) (Out X b s Q) NoE s
theorem Op2.ints {f : Value → Value → Sem Value} {i j : Int} (h : ∀ {A : Around} {b : Bs} {s : Shared} {t u : Tok}, Rep X b G s.heap → wpAny (model X.prog X.w) A (f (.int i t) (.int j u)) (Out X b s Q) NoE s) : Op2 X n f (.int i) (.int j) G Q := by
  refine ⟨fun {A b s x y} hA hb hr hv hw => ?_⟩
  obtain ⟨t, rfl⟩ := hv.int_inv
  obtain ⟨u, rfl⟩ := hw.int_inv
  exact h hr
theorem Op2.add {i j : Int} (q : Q (.int (i + j)) G) : Op2 X n (binaryOp .Add) (.int i) (.int j) G Q := .ints fun hr => P.add_int (Out.here hr (.int _ _) q)
theorem Op2.sub {i j : Int} (q : Q (.int (i - j)) G) : Op2 X n (binaryOp .Sub) (.int i) (.int j) G Q := .ints fun hr => P.sub_int (Out.here hr (.int _ _) q)
theorem noLong {i j : Int} (h : j.natAbs < 8589934592) : Builtin.divisionGoesByPylong i j = false := PyProof.noPylong_of_log2 (by
  by_cases h0 : j.natAbs = 0
  · rw [h0]; decide +kernel
  · have : j.natAbs.log2 < 34 := (Nat.log2_lt h0).mpr (by omega)
    omega)
theorem Op2.fdiv {i j : Int} (h0 : j ≠ 0) (h : j.natAbs < 8589934592) (q : Q (.int (i.fdiv j)) G) : Op2 X n (binaryOp .FloorDiv) (.int i) (.int j) G Q := .ints fun hr => floordiv_int h0 (Out.here hr (.int _ _) q) (.inl (noLong h))
theorem Op2.mod {i j : Int} (h0 : j ≠ 0) (q : Q (.int (i.fmod j)) G) : Op2 X n (binaryOp .Mod) (.int i) (.int j) G Q := .ints fun hr => mod_int' h0 (Out.here hr (.int _ _) q)
theorem own_list {a : Addr} {xs : List Val} {h : Heap} (hr : Rep X b G h) (e : G a = some (.list xs)) : ∃ ys k, xs.length ≤ 2 * cap ∧ h.get? a = some ⟨.type "list", Option.none, .seq ys k, #[]⟩ ∧ VRs h xs ys.toList ∧ xs.length = ys.size := by
  obtain ⟨l, ys, k, ho, hs⟩ := (hr.own _ _ e).2
  exact ⟨ys, k, l, ho, hs, by rw [hs.length, Array.length_toList]⟩
theorem Op2.addL {p q : Addr} {xs ys : List Val} (e1 : G p = some (.list xs)) (e2 : G q = some (.list ys)) (hl : xs.length + ys.length < cap) (h : newList (xs ++ ys) G Q) : Op2 X n (binaryOp .Add) (.ref p) (.ref q) G Q := by
  refine ⟨fun {A b s x y} hA hb hr hv hw => ?_⟩
  rw [hv.ref_inv, hw.ref_inv]
  obtain ⟨zs, k, _, hz, hzs, l1⟩ := own_list hr e1
  obtain ⟨us, k', _, hu, hus, l2⟩ := own_list hr e2
  exact P.add_list hz hu (newL hb hr (by rw [List.length_append]; omega) (by rw [Array.toList_append]; exact hzs.append hus) h) (by rw [← l1, ← l2]; exact fits_of_cap hl)
theorem Sn.two {l r : PySem.Expr} {K : Val → Val → Gh → Prop} {P : Value → Value → Shared → Prop} (hl : Sn X n sc l m G fun v G₁ => Sn X n sc r m G₁ (K v)) (hy : Hy X n sc env A b m G s)
    (k : ∀ x y s₂ v w G₂, VR s₂.heap v x → VR s₂.heap w y → Hy X n sc env A b m G₂ s₂ → Fwd s s₂ → K v w G₂ → P x y s₂) :
    wpAny (model X.prog X.w) A (eval l env) (fun x s₁ => wpAny (model X.prog X.w) A (eval r env) (P x) NoE s₁) NoE s :=
  hl.use hy fun x s₁ v G₁ hv hy₁ f₁ h₁ => Sn.use h₁ hy₁ fun y s₂ w G₂ hw hy₂ f₂ h₂ => k x y s₂ v w G₂ (hv.mono f₂.tk) hw hy₂ (f₁.trans f₂) h₂
theorem Sn.bin {l r : PySem.Expr} {op : Operator} {pos : Pos} (h : Sn X n sc l m G fun v G₁ => Sn X n sc r m G₁ fun w G₂ => Op2 X n (binaryOp op) v w G₂ Q) : Sn X n sc (.BinOp l op r pos) m G Q := ⟨fun hy =>
  wpAny_BinOp (h.two hy fun x y s₂ v w G₂ hv hw hy₂ f₂ h₂ => wpAny_trans (h₂.go hy₂.hA hy₂.hb hy₂.hr hv hw) fun _ _ q => q.next f₂)⟩
theorem Sn.neg {l : PySem.Expr} {pos : Pos} (h : Sn X n sc l m G fun v G₁ => ∃ i, v = .int i ∧ Q (.int (-i)) G₁) : Sn X n sc (.UnaryOp .USub l pos) m G Q := ⟨fun hy =>
  UnaryOp_ (h.use hy fun x s₁ v G₁ hv hy₁ f₁ h₁ => by
    obtain ⟨i, rfl, q⟩ := h₁
    obtain ⟨t, rfl⟩ := hv.int_inv
    exact P.neg_int ((Out.here hy₁.hr (.int _ _) q).next f₁))⟩
end
end
noncomputable section
section
variable {X : Cx} {n : Nat} {sc : Scope} {env : Env} {A : Around} {b : Bs} {m : M} {G : Gh} {s : Shared} {Q : QE} {e : PySem.Expr}
theorem readsAll_of {h : Heap} {vs : List Val} {ds : List PyData} (hl : vs.length = ds.length) (k : ∀ (i : Nat) (v : Val) (d : PyData), vs[i]? = some v → ds[i]? = some d → ∀ y, VR h v y → ∃ as, Reads h y d as) :
    ∀ {ys : List Value}, VRs h vs ys → ∃ as, ReadsAll h ys ds as := by
  induction vs generalizing ds with
  | nil => intro ys r; rw [r.nil_inv, List.length_eq_zero_iff.mp hl.symm]; exact ⟨_, .nil⟩
  | cons v vs ih =>
    intro ys r
    obtain ⟨y, zs, rfl, a, r'⟩ := r.cons_inv
    cases ds with
    | nil => cases hl
    | cons d ds =>
      obtain ⟨as, x⟩ := k 0 v d rfl rfl y a
      obtain ⟨bs, z⟩ := ih (Nat.succ.inj hl) (fun i v d e1 e2 => k (i + 1) v d e1 e2) r'
      exact ⟨_, .cons x z⟩
theorem reads_of {h : Heap} (hr : Rep X b G h) {k : Nat} {v : Val} {d : PyData} (r : RD G k v d) : ∀ y, VR h v y → ∃ as, Reads h y d as := by
  induction r with
  | none => intro y q; rw [q.none_inv]; exact ⟨_, .none⟩
  | bool t => intro y q; rw [q.bool_inv]; exact ⟨_, .bool _⟩
  | int i => intro y q; obtain ⟨t, rfl⟩ := q.int_inv; exact ⟨_, .int _ _⟩
  | str _ => intro y q; obtain ⟨t, rfl⟩ := q.str_inv; exact ⟨_, .str _ _⟩
  | tup hl _ ih =>
    intro y q
    obtain ⟨a, k, ys, rfl, e, r⟩ := q.tup_inv
    obtain ⟨as, x⟩ := readsAll_of hl ih r
    exact ⟨_, .tuple e rfl rfl x⟩
  | list hg hl _ ih =>
    intro y q
    rw [q.ref_inv]
    obtain ⟨ys, k, _, e, r, _⟩ := own_list hr hg
    obtain ⟨as, x⟩ := readsAll_of hl ih r
    exact ⟨_, .list e rfl rfl x⟩
theorem layAll_of {k : Nat} : ∀ {ds : List PyData}, (∀ d ∈ ds, d.canLay0 = true ∧ d.depth ≤ k) → PyData.canLayAll0 ds = true ∧ PyData.depthAll ds ≤ k := by
  intro ds
  induction ds with
  | nil => intro _; exact ⟨rfl, Nat.zero_le _⟩
  | cons d ds ih =>
    intro h
    obtain ⟨a1, a2⟩ := h d (.head _)
    obtain ⟨b1, b2⟩ := ih fun d hd => h d (.tail _ hd)
    exact ⟨by unfold PyData.canLayAll0; rw [a1, b1]; rfl, by unfold PyData.depthAll; omega⟩
theorem mem_both {vs : List Val} {ds : List PyData} (hl : vs.length = ds.length) {d : PyData} (h : d ∈ ds) : ∃ (i : Nat) (v : Val), vs[i]? = some v ∧ ds[i]? = some d := by
  obtain ⟨i, hi⟩ := List.mem_iff_getElem?.mp h
  have := (List.getElem?_eq_some_iff.mp hi).1
  rw [← hl] at this
  exact ⟨i, _, List.getElem?_eq_getElem this, hi⟩
theorem lay_of {k : Nat} {v : Val} {d : PyData} (r : RD G k v d) : d.canLay0 = true ∧ d.depth ≤ k := by
  induction r with
  | none => exact ⟨rfl, Nat.zero_le _⟩
  | bool t => exact ⟨rfl, Nat.zero_le _⟩
  | int i => exact ⟨rfl, Nat.zero_le _⟩
  | str h => exact ⟨by unfold PyData.canLay0; exact h, Nat.zero_le _⟩
  | tup hl _ ih =>
    obtain ⟨a, c⟩ := layAll_of fun d hd => by obtain ⟨i, v, e1, e2⟩ := mem_both hl hd; exact ih i v d e1 e2
    exact ⟨by unfold PyData.canLay0; exact a, by unfold PyData.depth; omega⟩
  | list _ hl _ ih =>
    obtain ⟨a, c⟩ := layAll_of fun d hd => by obtain ⟨i, v, e1, e2⟩ := mem_both hl hd; exact ih i v d e1 e2
    exact ⟨by unfold PyData.canLay0; exact a, by unfold PyData.depth; omega⟩
theorem shaped_of {v : Val} {d : PyData} (r : RD G 12 v d) : SeqAt.shaped d = true := by
  obtain ⟨a, c⟩ := lay_of r
  unfold SeqAt.shaped
  rw [a, Bool.true_and]; exact decide_eq_true (by omega)
section
variable {v w : Val}
theorem Op2.eq {d e : PyData} (r1 : RD G 12 v d) (r2 : RD G 12 w e) (q : Q (.bool (d.eqv e)) G) : Op2 X n (compareOp .Eq) v w G Q := by
  refine ⟨fun hA hb hr hv hw => ?_⟩
  obtain ⟨as, x1⟩ := reads_of hr r1 _ hv
  obtain ⟨bs, x2⟩ := reads_of hr r2 _ hw
  exact eq_dataH x1 x2 (shaped_of r1) (shaped_of r2) (by have := hA.uni; omega) (Out.here hr (.bool _) q)
theorem Op2.ne {d e : PyData} (r1 : RD G 12 v d) (r2 : RD G 12 w e) (q : Q (.bool (!d.eqv e)) G) : Op2 X n (compareOp .NotEq) v w G Q := by
  refine ⟨fun hA hb hr hv hw => ?_⟩
  obtain ⟨as, x1⟩ := reads_of hr r1 _ hv
  obtain ⟨bs, x2⟩ := reads_of hr r2 _ hw
  exact ne_dataH x1 x2 (shaped_of r1) (shaped_of r2) (by have := hA.uni; omega) (Out.here hr (.bool _) q)
theorem Op2.eqI {i j : Int} (q : Q (.bool (i == j)) G) : Op2 X n (compareOp .Eq) (.int i) (.int j) G Q := .ints fun hr => P.eq_int (Out.here hr (.bool _) q)
theorem Op2.neI {i j : Int} (q : Q (.bool (!(i == j))) G) : Op2 X n (compareOp .NotEq) (.int i) (.int j) G Q := .ints fun hr => P.ne_int (Out.here hr (.bool _) q)
theorem Op2.lt {i j : Int} (q : Q (.bool (decide (i < j))) G) : Op2 X n (compareOp .Lt) (.int i) (.int j) G Q := .ints fun hr => P.lt_int (Out.here hr (.bool _) q)
theorem Op2.le {i j : Int} (q : Q (.bool (decide (i ≤ j))) G) : Op2 X n (compareOp .LtE) (.int i) (.int j) G Q := .ints fun hr => P.le_int (Out.here hr (.bool _) q)
theorem Op2.gt {i j : Int} (q : Q (.bool (decide (i > j))) G) : Op2 X n (compareOp .Gt) (.int i) (.int j) G Q := .ints fun hr => P.gt_int (Out.here hr (.bool _) q)
theorem Op2.ge {i j : Int} (q : Q (.bool (decide (i ≥ j))) G) : Op2 X n (compareOp .GtE) (.int i) (.int j) G Q := .ints fun hr => P.ge_int (Out.here hr (.bool _) q)
theorem Op2.strs {f : Value → Value → Sem Value} {i j : Str} (h : ∀ {A : Around} {b : Bs} {s : Shared} {t u : Tok}, Rep X b G s.heap → wpAny (model X.prog X.w) A (f (.str i t) (.str j u)) (Out X b s Q) NoE s) : Op2 X n f (.str i) (.str j) G Q := by
  refine ⟨fun {A b s x y} hA hb hr hv hw => ?_⟩
  obtain ⟨t, rfl⟩ := hv.str_inv
  obtain ⟨u, rfl⟩ := hw.str_inv
  exact h hr
theorem Op2.eqS {i j : Str} (q : Q (.bool (i == j)) G) : Op2 X n (compareOp .Eq) (.str i) (.str j) G Q := .strs fun hr => PyProof.Rows.eq_str (Out.here hr (.bool _) q)
theorem Op2.neS {i j : Str} (q : Q (.bool (!(i == j))) G) : Op2 X n (compareOp .NotEq) (.str i) (.str j) G Q := .strs fun hr => PyProof.Rows.ne_str (Out.here hr (.bool _) q)
theorem Op2.inD {ds : List PyData} {d : PyData} (r1 : RD G 12 v d) (r2 : RD G 12 w (.tuple ds) ∨ RD G 12 w (.list ds)) (q : Q (.bool (ds.any fun e => e.eqv d)) G) : Op2 X n (compareOp .In) v w G Q := by
  refine ⟨fun hA hb hr hv hw => ?_⟩
  obtain ⟨as, x1⟩ := reads_of hr r1 _ hv
  have l1 := lay_of r1
  have hu := hA.uni
  rcases r2 with r2 | r2
  · obtain ⟨bs, x2⟩ := reads_of hr r2 _ hw
    exact SeqAt.in_tuple_reads x2 x1 (by have := (lay_of r2).1; unfold PyData.canLay0 at this; exact this) l1.1 (by have := Nat.min_le_right (PyData.depthAll ds) d.depth; omega) (Out.here hr (.bool _) q)
  · obtain ⟨bs, x2⟩ := reads_of hr r2 _ hw
    exact SeqAt.in_list_reads x2 x1 (by have := (lay_of r2).1; unfold PyData.canLay0 at this; exact this) l1.1 (by have := Nat.min_le_right (PyData.depthAll ds) d.depth; omega) (Out.here hr (.bool _) q)
theorem Op2.notinD {ds : List PyData} {d : PyData} (r1 : RD G 12 v d) (r2 : RD G 12 w (.tuple ds) ∨ RD G 12 w (.list ds)) (q : Q (.bool (!(ds.any fun e => e.eqv d))) G) : Op2 X n (compareOp .NotIn) v w G Q := by
  refine ⟨fun hA hb hr hv hw => ?_⟩
  obtain ⟨as, x1⟩ := reads_of hr r1 _ hv
  have l1 := lay_of r1
  have hu := hA.uni
  rcases r2 with r2 | r2
  · obtain ⟨bs, x2⟩ := reads_of hr r2 _ hw
    exact SeqAt.notIn_tuple_reads x2 x1 (by have := (lay_of r2).1; unfold PyData.canLay0 at this; exact this) l1.1 (by have := Nat.min_le_right (PyData.depthAll ds) d.depth; omega) (Out.here hr (.bool _) q)
  · obtain ⟨bs, x2⟩ := reads_of hr r2 _ hw
    exact SeqAt.notIn_list_reads x2 x1 (by have := (lay_of r2).1; unfold PyData.canLay0 at this; exact this) l1.1 (by have := Nat.min_le_right (PyData.depthAll ds) d.depth; omega) (Out.here hr (.bool _) q)
end
theorem few (n : Nat) : ∀ (l : List Int), l.Nodup → (∀ k ∈ l, 0 ≤ k ∧ k < n) → l.length ≤ n := by
  induction n with
  | zero => intro l _ h; cases l with | nil => exact Nat.le_refl _ | cons a r => (have := h a (.head _); omega)
  | succ n ih =>
    intro l hn h
    have h1 := ih (l.erase (n : Int)) (hn.erase _) fun k hk => by
      have h2 := (List.Nodup.mem_erase_iff hn).mp hk
      have h3 := h k h2.2
      have h4 := h2.1
      omega
    have := List.length_erase_of_mem (a := (n : Int)) (l := l)
    by_cases hm : (n : Int) ∈ l
    · rw [this hm] at h1; omega
    · rw [List.erase_of_not_mem hm] at h1; omega
theorem SetI.small {h : Heap} {a : Addr} {S : Int → Bool} (i : SetI h a S) : ∀ k, S k = true → 0 ≤ k ∧ k < 32 := by
  obtain ⟨ks, ep, t, e, hn, hm, hf, hr⟩ := i
  exact fun k hk => hr k ((hm k).mp hk)
theorem is_int {k j : Int} {t : Tok} : (intKind X.prog X.w).is k (Value.int j t) = decide (j = k) := by
  show Value.isInt k (Value.int j t) = _
  by_cases hk : j = k
  · subst hk; simp [Value.isInt]
  · simp [Value.isInt, hk]
noncomputable abbrev entsOf (ks : List (Int × Tok)) : List (Int × Value) := ks.map fun k => (hashInt k.1, Value.int k.1 k.2)
theorem entsOf_elems (ks : List (Int × Tok)) : ElemsOf (intKind X.prog X.w) (entsOf ks) := fun x hx => by
  obtain ⟨k, _, rfl⟩ := List.mem_map.mp hx
  exact ⟨⟨k.1, by rw [is_int]; exact decide_eq_true rfl, rfl⟩, rfl⟩
theorem mem_ents {ks : List (Int × Tok)} (k : Int) : (∃ e ∈ entsOf ks, (intKind X.prog X.w).is k e.2 = true) ↔ k ∈ ks.map (·.1) := by
  constructor
  · rintro ⟨e, he, hk⟩
    obtain ⟨p, hp, rfl⟩ := List.mem_map.mp he
    rw [is_int] at hk
    exact List.mem_map.mpr ⟨p, hp, of_decide_eq_true hk⟩
  · intro h
    obtain ⟨p, hp, rfl⟩ := List.mem_map.mp h
    exact ⟨_, List.mem_map_of_mem hp, by rw [is_int]; exact decide_eq_true rfl⟩
theorem SetI.parts {h : Heap} {a : Addr} {S : Int → Bool} (i : SetI h a S) : ∃ l : List Int, l.Nodup ∧ (∀ x, S x = true ↔ x ∈ l) ∧ l.length ≤ 32 ∧ h.SetOf (intKind X.prog X.w) a S l.length := by
  obtain ⟨ks, ep, t, e, hn, hm, hf, hr⟩ := i
  have hl := few 32 _ hn hr
  refine ⟨_, hn, hm, hl, _, _, ep, t, e, ⟨rfl, rfl, rfl⟩, rfl, entsOf_elems ks, fun k => ?_, ?_, ?_, ?_⟩
  · rw [hm k, ← mem_ents (X := X)]
  · rw [List.size_toArray, List.length_map]; rw [List.length_map] at hl; unfold scanBound; omega
  · rw [List.size_toArray, List.length_map]; exact hf
  · rw [List.size_toArray, List.length_map, List.length_map]
theorem DR.look {h : Heap} {es : List (Int × Val)} {kvs : List (Int × Value)} (d : DR h es kvs) (k : Int) : (∀ v, lookE es k = some v → ∃ y, valueAt kvs k = some y ∧ VR h v y) ∧ (lookE es k = none → valueAt kvs k = none) := by
  induction d with
  | nil => exact ⟨fun v e => (nomatch e), fun _ => rfl⟩
  | @cons k' v y es ys hv _ ih =>
    unfold lookE valueAt at ih ⊢
    rw [List.find?_cons, List.find?_cons]
    by_cases hk : k' = k
    · simp only [hk, decide_true]
      exact ⟨fun w e => by cases e; exact ⟨_, rfl, hv⟩, fun e => nomatch e⟩
    · simp only [hk, decide_false]; exact ih
theorem DR.length {h : Heap} {es : List (Int × Val)} {kvs : List (Int × Value)} (d : DR h es kvs) : es.length = kvs.length := by
  induction d with
  | nil => rfl
  | cons _ _ ih => exact congrArg (· + 1) ih
theorem DR.isSome {h : Heap} {es : List (Int × Val)} {kvs : List (Int × Value)} (d : DR h es kvs) (k : Int) : (valueAt kvs k).isSome = (lookE es k).isSome := by
  cases e : lookE es k with
  | none => rw [(d.look k).2 e]; rfl
  | some v => obtain ⟨y, q, _⟩ := (d.look k).1 v e; rw [q]; rfl
theorem ne_sys {h : Heap} (hr : Rep X b G h) {a : Addr} {g : GObj} (e : G a = some g) : (a == sysModules) = false := beq_eq_false_iff_ne.mpr (hr.low a g e)
theorem Op2.inDict {k : Int} {a : Addr} {es : List (Int × Val)} (e : G a = some (.dict es)) (q : Q (.bool (lookE es k).isSome) G) : Op2 X n (compareOp .In) (.int k) (.ref a) G Q := ⟨fun hA hb hr hv hw => by
  obtain ⟨t, rfl⟩ := hv.int_inv
  rw [hw.ref_inv]
  obtain ⟨_, kvs, hd, hes⟩ := (hr.own _ _ e).2
  refine wpAny_in_of (knd := intKind X.prog X.w) (intKind_is _ _ _ _) (ne_sys hr e) hd.mapOf ?_
  rw [hes.isSome]
  exact Out.here hr (.bool _) q⟩
theorem Op2.inSet {k : Int} {a : Addr} {S : Int → Bool} {f : Bool} (e : G a = some (.set S f)) (q : Q (.bool (S k)) G) : Op2 X n (compareOp .In) (.int k) (.ref a) G Q := ⟨fun hA hb hr hv hw => by
  obtain ⟨t, rfl⟩ := hv.int_inv
  rw [hw.ref_inv]
  obtain ⟨_, _, _, _, hS⟩ := SetI.parts (X := X) (hr.own _ _ e).2.1
  exact wpAny_inSet_of (knd := intKind X.prog X.w) (intKind_is _ _ _ _) rfl hS (Out.here hr (.bool _) q)⟩
theorem Op2.notinSet {k : Int} {a : Addr} {S : Int → Bool} {f : Bool} (e : G a = some (.set S f)) (q : Q (.bool (!S k)) G) : Op2 X n (compareOp .NotIn) (.int k) (.ref a) G Q := ⟨fun hA hb hr hv hw => by
  obtain ⟨t, rfl⟩ := hv.int_inv
  rw [hw.ref_inv]
  obtain ⟨_, _, _, _, hS⟩ := SetI.parts (X := X) (hr.own _ _ e).2.1
  exact wpAny_notInSet_of (knd := intKind X.prog X.w) (intKind_is _ _ _ _) rfl hS (Out.here hr (.bool _) q)⟩
inductive Tru (G : Gh) : Val → Bool → Prop where
  | none : Tru G .none false
  | bool (t : Bool) : Tru G (.bool t) t
  | int (i : Int) : Tru G (.int i) (i != 0)
  | list {a : Addr} {xs : List Val} : G a = some (.list xs) → Tru G (.ref a) (!xs.isEmpty)
  | dict {a : Addr} {es : List (Int × Val)} : G a = some (.dict es) → Tru G (.ref a) (!es.isEmpty)
theorem truth_sound {Q : Bool → Gh → Prop} {v : Val} {x : Value} {t : Bool} (hr : Rep X b G s.heap) (hv : VR s.heap v x) (ht : Tru G v t) (h : Q t G) : wpAny (model X.prog X.w) A (truthy x) (OutT X b s Q) NoE s := by
  have fin : ∀ tk, OutT X b s Q t { s with toks := tk } := fun _ => .mk G hr ⟨.refl _, rfl, rfl⟩ h
  cases ht with
  | none => rw [hv.none_inv]; exact truthy_none (fin _)
  | bool t => rw [hv.bool_inv]; exact wpAny_truthy_bool (fin _)
  | int i => obtain ⟨u, rfl⟩ := hv.int_inv; exact P.truthy_int (fin _)
  | @list a xs e =>
    rw [hv.ref_inv]
    obtain ⟨ys, k, hl, ho, hy, e2⟩ := own_list hr e
    refine wpAny_truthy_list ⟨_, ho, rfl, k, rfl⟩ (by unfold cap at hl; omega) ?_
    have e1 : ys.isEmpty = xs.isEmpty := by rw [Array.isEmpty, ← e2]; cases xs <;> rfl
    rw [e1]; exact fin _
  | @dict a es e =>
    rw [hv.ref_inv]
    obtain ⟨hl, kvs, hd, hes⟩ := (hr.own _ _ e).2
    have e2 := hes.length
    refine wpAny_truthy_dict (knd := intKind X.prog X.w) (ne_sys hr e) hd (by unfold cap at hl; omega) ?_
    have e1 : kvs.isEmpty = es.isEmpty := by cases hes <;> rfl
    rw [e1]; exact fin _
noncomputable abbrev TQ (Q : Bool → Gh → Prop) : QE := fun v G => ∃ t, Tru G v t ∧ Q t G
theorem Out.test {Q : Bool → Gh → Prop} {s₀ : Shared} {x : Value} {s' : Shared} (f : Fwd s₀ s) (q : Out X b s (TQ Q) x s') : wpAny (model X.prog X.w) A (truthy x) (OutT X b s₀ Q) NoE s' :=
  q.elim fun v G' hv hr f' h => by obtain ⟨t, ht, h⟩ := h; exact wpAny_trans (truth_sound hr hv ht h) fun _ _ q => q.next (f.trans f')
theorem SnT.val {Q : Bool → Gh → Prop} (h : Sn X n sc e m G (TQ Q)) (hp : ∀ env whole, isTrue e env whole = (do let v ← whole; standAt e.pos; holding [v] (truthy v)) := by intro _ _; rfl) : SnT X n sc e m G Q := ⟨fun hy =>
  isTrue_plain (wpAny_trans (h.go hy) fun _ _ o => o.test .refl) (hp _ _)⟩
theorem Sn.not {l : PySem.Expr} {pos : Pos} (h : Sn X n sc l m G (TQ fun t G' => Q (.bool (!t)) G')) : Sn X n sc (.UnaryOp .Not l pos) m G Q := ⟨fun hy =>
  UnaryOp_ (wpAny_trans (h.go hy) fun _ _ o => not_of (wpAny_trans (o.test .refl) fun t s₂ o => o.elim fun G₂ hr f h => .mk _ G₂ (.bool _) hr f h))⟩
theorem SnT.not {Q : Bool → Gh → Prop} {l : PySem.Expr} {pos : Pos} (h : SnT X n sc l m G fun t G' => Q (!t) G') : SnT X n sc (.UnaryOp .Not l pos) m G Q := ⟨fun hy =>
  isTrue_not (wpAny_trans (h.go hy) fun t s₁ o => o.elim fun G₂ hr f h => .mk G₂ hr f h)⟩
noncomputable abbrev Two (T F : Prop) (t : Bool) : Prop := (t = true → T) ∧ (t = false → F)
theorem Sn.ite {t a c : PySem.Expr} {pos : Pos} (h : SnT X n sc t m G fun r G' => Two (Sn X n sc a m G' Q) (Sn X n sc c m G' Q) r) : Sn X n sc (.IfExp t a c pos) m G Q := ⟨fun hy =>
  IfExp_ (h.use hy fun r s₁ G₁ hy₁ f₁ h₁ => by
    cases r
    · exact wpAny_trans ((h₁.2 rfl).go hy₁) fun _ _ q => q.next f₁
    · exact wpAny_trans ((h₁.1 rfl).go hy₁) fun _ _ q => q.next f₁)⟩
theorem Sn.and1 {a : PySem.Expr} {pos : Pos} (h : Sn X n sc a m G Q) : Sn X n sc (.BoolOp .And [a] pos) m G Q := ⟨fun hy => BoolOp_one (h.go hy)⟩
theorem Sn.or1 {a : PySem.Expr} {pos : Pos} (h : Sn X n sc a m G Q) : Sn X n sc (.BoolOp .Or [a] pos) m G Q := ⟨fun hy => BoolOp_one (h.go hy)⟩
theorem Sn.and {a c : PySem.Expr} {rest : List PySem.Expr} {pos : Pos} (h : Sn X n sc a m G fun v G' => ∃ t, Tru G' v t ∧ Two (Sn X n sc (.BoolOp .And (c :: rest) pos) m G' Q) (Q v G') t) : Sn X n sc (.BoolOp .And (a :: c :: rest) pos) m G Q := ⟨fun hy =>
  BoolOp_and (h.use hy fun x s₁ v G₁ hv hy₁ f₁ h₁ => by
    obtain ⟨t, ht, h₁⟩ := h₁
    refine wpAny_trans (truth_sound (Q := fun t' G' => t' = t ∧ G' = G₁) hy₁.hr hv ht ⟨rfl, rfl⟩) fun t' s₂ o => o.elim fun G' hr f q => ?_
    obtain ⟨rfl, rfl⟩ := q
    cases t'
    · exact .mk v G' (hv.mono f.tk) hr (f₁.trans f) (h₁.2 rfl)
    · exact wpAny_trans ((h₁.1 rfl).go (hy₁.next hr f)) fun _ _ q => q.next (f₁.trans f))⟩
theorem Sn.or {a c : PySem.Expr} {rest : List PySem.Expr} {pos : Pos} (h : Sn X n sc a m G fun v G' => ∃ t, Tru G' v t ∧ Two (Q v G') (Sn X n sc (.BoolOp .Or (c :: rest) pos) m G' Q) t) : Sn X n sc (.BoolOp .Or (a :: c :: rest) pos) m G Q := ⟨fun hy =>
  BoolOp_or (h.use hy fun x s₁ v G₁ hv hy₁ f₁ h₁ => by
    obtain ⟨t, ht, h₁⟩ := h₁
    refine wpAny_trans (truth_sound (Q := fun t' G' => t' = t ∧ G' = G₁) hy₁.hr hv ht ⟨rfl, rfl⟩) fun t' s₂ o => o.elim fun G' hr f q => ?_
    obtain ⟨rfl, rfl⟩ := q
    cases t'
    · exact wpAny_trans ((h₁.2 rfl).go (hy₁.next hr f)) fun _ _ q => q.next (f₁.trans f)
    · exact .mk v G' (hv.mono f.tk) hr (f₁.trans f) (h₁.1 rfl))⟩
theorem SnT.and1 {Q : Bool → Gh → Prop} {a : PySem.Expr} {pos : Pos} (h : SnT X n sc a m G Q) : SnT X n sc (.BoolOp .And [a] pos) m G Q := ⟨fun hy =>
  isTrue_and (wpAny_trans (h.go hy) fun t s₁ q => by
    cases t
    · exact q
    · exact isTrue_and_nil q)⟩
theorem SnT.or1 {Q : Bool → Gh → Prop} {a : PySem.Expr} {pos : Pos} (h : SnT X n sc a m G Q) : SnT X n sc (.BoolOp .Or [a] pos) m G Q := ⟨fun hy =>
  isTrue_or (wpAny_trans (h.go hy) fun t s₁ q => by
    cases t
    · exact isTrue_or_nil q
    · exact q)⟩
theorem SnT.and {Q : Bool → Gh → Prop} {a c : PySem.Expr} {rest : List PySem.Expr} {pos : Pos} (h : SnT X n sc a m G fun t G' => Two (SnT X n sc (.BoolOp .And (c :: rest) pos) m G' Q) (Q false G') t) : SnT X n sc (.BoolOp .And (a :: c :: rest) pos) m G Q := ⟨fun hy =>
  isTrue_and (h.use hy fun t s₁ G₁ hy₁ f₁ h₁ => by
    cases t
    · exact .mk G₁ hy₁.hr f₁ (h₁.2 rfl)
    · exact wpAny_trans ((h₁.1 rfl).go hy₁) fun _ _ q => q.next f₁)⟩
theorem SnT.or {Q : Bool → Gh → Prop} {a c : PySem.Expr} {rest : List PySem.Expr} {pos : Pos} (h : SnT X n sc a m G fun t G' => Two (Q true G') (SnT X n sc (.BoolOp .Or (c :: rest) pos) m G' Q) t) : SnT X n sc (.BoolOp .Or (a :: c :: rest) pos) m G Q := ⟨fun hy =>
  isTrue_or (h.use hy fun t s₁ G₁ hy₁ f₁ h₁ => by
    cases t
    · exact wpAny_trans ((h₁.2 rfl).go hy₁) fun _ _ q => q.next f₁
    · exact .mk G₁ hy₁.hr f₁ (h₁.1 rfl))⟩
theorem Sn.cmp {l r : PySem.Expr} {op : CmpOp} {pos : Pos} (h : Sn X n sc l m G fun v G₁ => Sn X n sc r m G₁ fun w G₂ => Op2 X n (compareOp op) v w G₂ Q) (hm : behindInMarks op r = false := by with_unfolding_all rfl) : Sn X n sc (.Compare l [op] [r] pos) m G Q := ⟨fun hy =>
  wpAny_Compare1 (h.two hy fun x y s₂ v w G₂ hv hw hy₂ f₂ h₂ => wpAny_trans (h₂.go hy₂.hA hy₂.hb hy₂.hr hv hw) fun _ _ q => q.next f₂) hm⟩
theorem SnT.cmp {Q : Bool → Gh → Prop} {l r : PySem.Expr} {op : CmpOp} {pos : Pos} (h : Sn X n sc l m G fun v G₁ => Sn X n sc r m G₁ fun w G₂ => Op2 X n (compareOp op) v w G₂ (TQ Q)) (hm : behindInMarks op r = false := by with_unfolding_all rfl) : SnT X n sc (.Compare l [op] [r] pos) m G Q := ⟨fun hy =>
  wpAny_isTrue_Compare1 (h.two hy fun x y s₂ v w G₂ hv hw hy₂ f₂ h₂ => wpAny_trans (h₂.go hy₂.hA hy₂.hb hy₂.hr hv hw) fun _ _ q => q.test f₂) hm⟩
inductive OutEs (X : Cx) (b : Bs) (s : Shared) (Q : List Val → Gh → Prop) (ys : List Value) (s' : Shared) : Prop where
  | mk (vs : List Val) (G' : Gh) (hv : VRs s'.heap vs ys) (hr : Rep X b G' s'.heap) (f : Fwd s s') (q : Q vs G')
structure SnEs (X : Cx) (n : Nat) (sc : Scope) (es : List PySem.Expr) (m : M) (G : Gh) (Q : List Val → Gh → Prop) : Prop where
  go : ∀ {env : Env} {A : Around} {b : Bs} {s : Shared} {pos : Pos}, Hy X n sc env A b m G s → wpAny (model X.prog X.w) A (spliced (backTo pos (starEach es env))) (OutEs X b s Q) NoE s
theorem OutEs.elim {Q : List Val → Gh → Prop} {ys : List Value} {s' : Shared} {P : Prop} (o : OutEs X b s Q ys s') (k : ∀ vs G', VRs s'.heap vs ys → Rep X b G' s'.heap → Fwd s s' → Q vs G' → P) : P := by
  cases o with | mk v G' a1 a2 a3 a4 => exact k v G' a1 a2 a3 a4
theorem SnEs.use {es : List PySem.Expr} {Q : List Val → Gh → Prop} {P : List Value → Shared → Prop} {pos : Pos} (h : SnEs X n sc es m G Q) (hy : Hy X n sc env A b m G s) (k : ∀ ys s₁ vs G₁, VRs s₁.heap vs ys → Hy X n sc env A b m G₁ s₁ → Fwd s s₁ → Q vs G₁ → P ys s₁) :
    wpAny (model X.prog X.w) A (spliced (backTo pos (starEach es env))) P NoE s :=
  wpAny_trans (h.go hy) fun x s₁ o => o.elim fun v G' a1 a2 a3 a4 => k x s₁ v G' a1 (hy.next a2 a3) a3 a4
theorem SnEs.nil {Q : List Val → Gh → Prop} (q : Q [] G) : SnEs X n sc [] m G Q := ⟨fun hy => args_nil (.mk [] G .nil hy.hr .refl q)⟩
theorem SnEs.cons {Q : List Val → Gh → Prop} {es : List PySem.Expr} (h : Sn X n sc e m G fun v G₁ => SnEs X n sc es m G₁ fun vs G₂ => Q (v :: vs) G₂) (hp : ∀ env, starEach (e :: es) env = (false, eval e env) :: starEach es env := by intro _; rfl) : SnEs X n sc (e :: es) m G Q := ⟨fun hy =>
  args_cons (h.use hy fun x s₁ v G₁ hv hy₁ f₁ h₁ => SnEs.use h₁ hy₁ fun ys s₂ vs G₂ hvs hy₂ f₂ h₂ => .mk (v :: vs) G₂ (.cons (hv.mono f₂.tk) hvs) hy₂.hr (f₁.trans f₂) h₂) (hp _)⟩
theorem Sn.tup {es : List PySem.Expr} {k : Nat} {pos : Pos} (h : SnEs X n sc es m G fun vs G' => vs.length < cap ∧ Q (.tup vs) G') : Sn X n sc (.Tuple es k pos) m G Q := ⟨fun hy =>
  Tuple_ (h.use hy fun ys s₁ vs G₁ hv hy₁ f₁ h₁ => wpAny_newObj_type ((newT hy₁.hr hv h₁.2).next f₁) (by
    show ys.toArray.size ≤ sizeLine
    rw [List.size_toArray, ← hv.length]; exact fits_of_cap h₁.1))⟩
theorem Sn.list {es : List PySem.Expr} {pos : Pos} (h : SnEs X n sc es m G fun vs G' => vs.length < cap ∧ newList vs G' Q) : Sn X n sc (.List es pos) m G Q := ⟨fun hy =>
  List_ (h.use hy fun ys s₁ vs G₁ hv hy₁ f₁ h₁ => wpAny_newObj_type ((newL (ys := ys.toArray) hy₁.hb hy₁.hr (by omega) (by rw [List.toList_toArray]; exact hv) h₁.2).next f₁) (by
    show ys.toArray.size ≤ sizeLine
    rw [List.size_toArray, ← hv.length]; exact fits_of_cap h₁.1))⟩
structure ClsOK (X : Cx) : Prop where
  plain : ∀ c f, plainGet X.K (X.cA c) (Fld.txt f) = true
  has : ∀ c, hasDictIn X.K (X.cA c) = true
  no : ∀ c (f : Fld), findIn X.K (.ref (X.cA c)) f.txt = some none
  setA : ∀ c, findIn X.K (.ref (X.cA c)) "__setattr__" = some (some (.builtin "object.__setattr__"))
  over : ∀ c, plainOver X.K (X.cA c) = true
  makes : ∀ c, makesIn X.K (X.cA c) = true
theorem handed {h : Heap} {v : Val} {y : Value} (hv : VR h v y) : handedIn y = true := by cases hv <;> rfl
theorem Sn.attr {o : PySem.Expr} {attr : Str} {pos : Pos} (hc : ClsOK X) (f : Fld) (ha : attr = f.txt) (h : Sn X n sc o m G fun v G₁ => ∃ a k fs w, v = .ref a ∧ G₁ a = some (.inst k fs) ∧ fs f = some w ∧ Q w G₁)
    (hs : ∀ env whole, attributeBase o attr env whole = whole := by intro _ _; rfl) : Sn X n sc (.Attribute o attr pos) m G Q := ⟨fun {env A b s} hy => by
  subst ha
  refine Attribute_any_ (h.use hy fun x s₁ v G₁ hv hy₁ f₁ h₁ => ?_) ?_
  · obtain ⟨a, k, fs, w, rfl, e, ef, q⟩ := h₁
    rw [hv.ref_inv]
    obtain ⟨d, es, nn, h1, h2, h3, h4⟩ := (hy₁.hr.own _ _ e).2
    obtain ⟨y, hyy, hvv⟩ := (h4 f).1 w ef
    exact get_value (od := some ⟨.type "dict", Option.none, .dict es nn, #[]⟩) (C := X.cA k) (hy₁.hb.kin hy₁.hr) ⟨h1, rfl, rfl, h2⟩ (plainGet_of (hc.plain k f)).1 (findObj_own (hc.has k) (hc.no k f) rfl hyy) (handed hvv) ((Out.here hy₁.hr hvv q).next f₁)
  · show (do
      let o' ← attributeBase o f.txt env (eval o env)
      standAt pos.atName
      let r ← holding [o'] (getAttr o' f.txt true)
      letTemporaryGo o o' r
      pure r) = _
    rw [hs]⟩
end
end
noncomputable section
section
variable {X : Cx} {n : Nat} {sc : Scope} {env : Env} {A : Around} {b : Bs} {m : M} {G : Gh} {s : Shared} {Q : QE} {e : PySem.Expr}
structure Idx (X : Cx) (v w : Val) (G : Gh) (Q : QE) : Prop where
  go : ∀ {A : Around} {b : Bs} {s : Shared} {x y : Value} {value sl : PySem.Expr} {ops : List Value}, Rep X b G s.heap → VR s.heap v x → VR s.heap w y → subscripted sl false x y = operate ops (getItem x y) →
    wpAny (model X.prog X.w) A (subscriptTail value sl x y) (Out X b s Q) NoE s
theorem seqAt_index {α : Type} {xs : List α} {k : Nat} (hl : xs.length = k) {i : Int} {x : α} (h : seqAt xs i = some x) : ∃ j, seqIndex? i k = some j ∧ xs[j]? = some x := by
  unfold seqAt at h
  unfold seqIndex?
  split at h
  · rename_i h0
    have h1 := (List.getElem?_eq_some_iff.mp h).1
    refine ⟨i.toNat, ?_, h⟩
    rw [if_neg (by omega : ¬ i < 0), if_pos (by simp only [Bool.and_eq_true, decide_eq_true_eq]; omega)]
  · split at h
    · rename_i h0 h1
      have h2 := (List.getElem?_eq_some_iff.mp h).1
      refine ⟨(i + xs.length).toNat, ?_, h⟩
      rw [if_pos (by omega : i < 0), if_pos (by simp only [Bool.and_eq_true, decide_eq_true_eq]; omega), hl]
    · cases h
theorem Idx.tup {vs : List Val} {i : Int} {v : Val} (hi : i.natAbs < cap) (hx : seqAt vs i = some v) (q : Q v G) : Idx X (.tup vs) (.int i) G Q := ⟨fun {A b s x y value sl ops} hr hv hw hs => by
  obtain ⟨a, k, ys, rfl, e, r⟩ := hv.tup_inv
  obtain ⟨t, rfl⟩ := hw.int_inv
  obtain ⟨j, hj, hk⟩ := seqAt_index (k := ys.toArray.size) (by rw [List.size_toArray]; exact r.length) hx
  obtain ⟨z, hz, hvr⟩ := r.get hk
  exact tail_any ⟨_, e, rfl⟩ slot_tuple_getitem.lookup (P.getItem_tuple (items := ys.toArray) e (by unfold cap at hi; omega) (by unfold cap at hi; omega) hj (by rw [List.getElem?_toArray]; exact hz) (Out.here hr hvr q)) hs⟩
theorem Idx.list {a : Addr} {xs : List Val} {i : Int} {v : Val} (e : G a = some (.list xs)) (hi : i.natAbs < cap) (hx : seqAt xs i = some v) (q : Q v G) : Idx X (.ref a) (.int i) G Q := ⟨fun {A b s x y value sl ops} hr hv hw hs => by
  rw [hv.ref_inv] at hs ⊢
  obtain ⟨t, rfl⟩ := hw.int_inv
  obtain ⟨ys, k, hl, ho, r, hlen⟩ := own_list hr e
  refine tail_any ⟨_, ho, rfl⟩ slot_list_getitem.lookup ?_ hs
  unfold seqAt at hx
  split at hx
  · rename_i h0
    obtain ⟨y, hy, hvr⟩ := r.get hx
    exact wpAny_getItem_list ⟨_, ho, rfl, k, rfl⟩ h0 (by unfold cap at hi; omega) (by rw [← Array.getElem?_toList]; exact hy) (Out.here hr hvr q)
  · split at hx
    · rename_i h0 h3
      obtain ⟨y, hy, hvr⟩ := r.get hx
      rw [hlen] at hy h3
      exact wpAny_getItem_list_neg ⟨_, ho, rfl, k, rfl⟩ (by omega) (by omega) (by unfold cap at hi; omega) (by rw [← Array.getElem?_toList]; exact hy) (Out.here hr hvr q)
    · cases hx⟩
theorem Idx.dict {a : Addr} {es : List (Int × Val)} {k : Int} {v : Val} (e : G a = some (.dict es)) (hx : lookE es k = some v) (q : Q v G) : Idx X (.ref a) (.int k) G Q := ⟨fun {A b s x y value sl ops} hr hv hw hs => by
  rw [hv.ref_inv] at hs ⊢
  obtain ⟨t, rfl⟩ := hw.int_inv
  obtain ⟨hl, kvs, hd, hes⟩ := (hr.own _ _ e).2
  obtain ⟨y, hy, hvr⟩ := (hes.look _).1 _ hx
  exact tail_any hd.typeIs slot_dict_getitem.lookup (wpAny_getItem_of (knd := intKind X.prog X.w) (intKind_is _ _ _ _) hd.mapOf hy (Out.here hr hvr q)) hs⟩
theorem Sn.idx {o i : PySem.Expr} {pos : Pos} (h : Sn X n sc o m G fun v G₁ => Sn X n sc i m G₁ fun w G₂ => Idx X v w G₂ Q) (hs : ∀ x y, subscripted i false x y = operate [x, y] (getItem x y) := by intro _ _; rfl) : Sn X n sc (.Subscript o i pos) m G Q := ⟨fun hy =>
  Subscript_ (h.two hy fun x y s₂ v w G₂ hv hw hy₂ f₂ h₂ => wpAny_trans (h₂.go hy₂.hr hv hw (hs x y)) fun _ _ q => q.next f₂)⟩
inductive OutP (X : Cx) (b : Bs) (s : Shared) (Q : Option Int → Gh → Prop) (x : Value) (s' : Shared) : Prop where
  | mk (i : Option Int) (G' : Gh) (hi : IsPart x i) (hr : Rep X b G' s'.heap) (f : Fwd s s') (q : Q i G')
structure SnP (X : Cx) (n : Nat) (sc : Scope) (e : Option PySem.Expr) (m : M) (G : Gh) (Q : Option Int → Gh → Prop) : Prop where
  go : ∀ {env : Env} {A : Around} {b : Bs} {s : Shared}, Hy X n sc env A b m G s → wpAny (model X.prog X.w) A (evalPart e env) (OutP X b s Q) NoE s
theorem SnP.none {Q : Option Int → Gh → Prop} (q : Q .none G) : SnP X n sc .none m G Q := ⟨fun hy => wpAny_pure (.mk .none G .none hy.hr .refl q)⟩
theorem SnP.some {Q : Option Int → Gh → Prop} (h : Sn X n sc e m G fun v G' => ∃ i, v = .int i ∧ Q (some i) G') : SnP X n sc (some e) m G Q := ⟨fun hy => h.use hy fun x s₁ v G₁ hv hy₁ f₁ h₁ => by
  obtain ⟨i, rfl, q⟩ := h₁
  obtain ⟨t, rfl⟩ := hv.int_inv
  exact .mk (.some i) G₁ (.int _ _) hy₁.hr f₁ q⟩
theorem SnP.use {e : Option PySem.Expr} {Q : Option Int → Gh → Prop} {P : Value → Shared → Prop} (h : SnP X n sc e m G Q) (hy : Hy X n sc env A b m G s) (k : ∀ x s₁ i G₁, IsPart x i → Hy X n sc env A b m G₁ s₁ → Fwd s s₁ → Q i G₁ → P x s₁) :
    wpAny (model X.prog X.w) A (evalPart e env) P NoE s :=
  wpAny_trans (h.go hy) fun x s₁ o => by cases o with | mk i G' a1 a2 a3 a4 => exact k x s₁ i G' a1 (hy.next a2 a3) a3 a4
structure SlOp (X : Cx) (v : Val) (lo hi : Option Int) (G : Gh) (Q : QE) : Prop where
  go : ∀ {A : Around} {b : Bs} {s : Shared} {x vl vu : Value} {o : PySem.Expr} {l u : Option PySem.Expr} {p : Pos}, Base X b → Rep X b G s.heap → VR s.heap v x → IsPart vl lo → IsPart vu hi →
    wpAny (model X.prog X.w) A (subscriptTail o (.Slice l u .none p) x (.ref s.heap.objs.size)) (Out X b s Q) NoE { s with heap := s.heap.push { cls := .type "slice", data := .fields #[vl, vu, .none] } }
theorem slice_core {a : Addr} {xs : List Val} {ys : Array Value} {vl vu : Value} {lo hi : Option Int} {o : PySem.Expr} {l u : Option PySem.Expr} {p : Pos} (hb : Base X b) (hr : Rep X b G s.heap)
    (hl : xs.length ≤ 2 * cap) (hL : Heap.IsList s.heap a ys) (hs : VRs s.heap xs ys.toList) (pl : IsPart vl lo) (pu : IsPart vu hi) (h : newList (slice xs lo hi) G Q) :
    wpAny (model X.prog X.w) A (subscriptTail o (.Slice l u .none p) (.ref a) (.ref s.heap.objs.size)) (Out X b s Q) NoE { s with heap := s.heap.push { cls := .type "slice", data := .fields #[vl, vu, .none] } } := by
  have hlen : xs.length = ys.size := by rw [hs.length, Array.length_toList]
  generalize hso : ({ cls := .type "slice", data := .fields #[vl, vu, .none] } : Obj) = so
  have kp : ∀ a o, s.heap.get? a = some o → (s.heap.push so).get? a = some o := fun a o e => Heap.get?_push_of_some _ e
  refine tail_any (s := { s with heap := s.heap.push so }) (Heap.IsList.typeIs (s := { s with heap := s.heap.push so }) (hL.push _)) list_getitem_lookup
    (wpAny_getItem_list_slice (hL.push _) (by rw [← hso]; exact Heap.IsSliceOf.new ..) pl pu .none (by simp) ?_ (by rw [sizeLine_eq]; unfold cap at hl; omega)) rfl
  rw [kms_pick_eq]
  have hs' : VRs (s.heap.push so) (slice xs lo hi) (kms_pick ys.toList lo hi) := by
    unfold slice kms_pick
    rw [hs.length]
    exact ((hs.mono (.of_keep kp)).drop _).take _
  exact (newL (s := { s with heap := s.heap.push so }) (Q := Q) (ys := (kms_pick ys.toList lo hi).toArray) hb (hr.mono kp) (by unfold slice; rw [List.length_take, List.length_drop]; exact Nat.le_trans (Nat.min_le_right ..) (Nat.le_trans (Nat.sub_le ..) hl)) (by rw [List.toList_toArray]; exact hs') h).next ⟨.of_keep kp, rfl, rfl⟩
theorem SlOp.list {a : Addr} {xs : List Val} {lo hi : Option Int} (e : G a = some (.list xs)) (h : newList (slice xs lo hi) G Q) : SlOp X (.ref a) lo hi G Q := ⟨fun hb hr hv pl pu => by
  rw [hv.ref_inv]
  obtain ⟨ys, k, hl, ho, r, hlen⟩ := own_list hr e
  exact slice_core hb hr hl ⟨_, ho, rfl, k, rfl⟩ r pl pu h⟩
theorem SlOp.ground {a : Addr} {xs : List Val} {lo hi : Option Int} (e : xs.length ≤ 2 * cap ∧ ∃ ys, X.H0.IsList a ys ∧ VRs X.H0 xs ys.toList) (h : newList (slice xs lo hi) G Q) : SlOp X (.ref a) lo hi G Q := ⟨fun hb hr hv pl pu => by
  rw [hv.ref_inv]
  obtain ⟨hl, ys, ⟨o, h1, h3⟩, h2⟩ := e
  exact slice_core hb hr hl ⟨o, hb.kp hr _ _ h1, h3⟩ (h2.mono (.of_keep (hb.kp hr))) pl pu h⟩
theorem Sn.slice {o : PySem.Expr} {lo hi : Option PySem.Expr} {p pos : Pos} (h : Sn X n sc o m G fun v G₁ => SnP X n sc lo m G₁ fun l G₂ => SnP X n sc hi m G₂ fun u G₃ => SlOp X v l u G₃ Q) : Sn X n sc (.Subscript o (.Slice lo hi .none p) pos) m G Q := ⟨fun hy =>
  Subscript_ (h.use hy fun x s₁ v G₁ hv hy₁ f₁ h₁ => wpAny_Slice (h₁.use hy₁ fun xl s₂ l G₂ hl hy₂ f₂ h₂ => h₂.use hy₂ fun xu s₃ u G₃ hu hy₃ f₃ h₃ => wpAny_pure (wpAny_trans (h₃.go hy₃.hb hy₃.hr (hv.mono (f₂.trans f₃).tk) hl hu) fun _ _ q => q.next ((f₁.trans f₂).trans f₃))))⟩
theorem Sn.rev {o : PySem.Expr} {k : Nat} {p1 p2 p pos : Pos} (h : Sn X n sc o m G fun v G₁ => ∃ a xs, v = .ref a ∧ G₁ a = some (.list xs) ∧ newList xs.reverse G₁ Q) : Sn X n sc (.Subscript o (.Slice .none .none (some (.UnaryOp .USub (.Constant (.int 1) k p1) p2)) p) pos) m G Q := ⟨fun hy =>
  Subscript_ (h.use hy fun x s₁ v G₁ hv hy₁ f₁ h₁ => by
    refine wpAny_Slice (wpAny_pure (wpAny_pure ?_))
    refine UnaryOp_ (wpAny_Constant_int (P.neg_int ?_))
    obtain ⟨a, xs, rfl, e, h3⟩ := h₁
    rw [hv.ref_inv]
    obtain ⟨ys, kk, hl, hoo, r, hlen⟩ := own_list hy₁.hr e
    generalize hso : ({ cls := .type "slice", data := .fields #[.none, .none, .int (-1) (s₁.toks + 1)] } : Obj) = so
    have kp : ∀ a o, s₁.heap.get? a = some o → (s₁.heap.push so).get? a = some o := fun a o e => Heap.get?_push_of_some _ e
    have hL : Heap.IsList s₁.heap a ys := ⟨_, hoo, rfl, kk, rfl⟩
    refine tail_any (s := { s₁ with heap := s₁.heap.push so, toks := s₁.toks + 1 + 1 }) (Heap.IsList.typeIs (s := { s₁ with heap := s₁.heap.push so, toks := s₁.toks + 1 + 1 }) (hL.push _)) list_getitem_lookup
      (wpAny_getItem_list_slice (lo := .none) (hi := .none) (st := some (-1)) (hL.push _) (by rw [← hso]; exact Heap.IsSliceOf.new ..) .none .none (.int _ _) (by simp) ?_ (by rw [sizeLine_eq]; unfold cap at hl; omega)) rfl
    rw [krv_pick]
    exact (newL (s := { s₁ with heap := s₁.heap.push so, toks := s₁.toks + 1 + 1 }) (Q := Q) (ys := ys.toList.reverse.toArray) hy₁.hb (hy₁.hr.mono kp) (by rw [List.length_reverse]; exact hl) (by rw [List.toList_toArray]; exact ((r.mono (.of_keep kp)).reverse)) h3).next (f₁.trans ⟨.of_keep kp, rfl, rfl⟩))⟩
noncomputable def GlobIn (sc : Scope) (x : Str) : Prop := (x, NameKind.globalImplicit) ∈ sc.names
theorem GlobIn.look (he : EnvOK X sc env) {x : Str} (h : GlobIn sc x) : env.kindOf x = some .globalImplicit := (he.kindOf x).trans (lookup_of_mem (scOK.nd he.ok) h)
theorem ld_global {Mo : Model} {E : Value → Shared → Prop} {x : Str} {Q : Value → Shared → Prop} (he : EnvOK X sc env) (hk : GlobIn sc x) (q : wpAny Mo A (loadGlobal env x) Q E s) : wpAny Mo A (loadName env x) Q E s := by
  have e1 : loadName env x = loadGlobal env x := by
    unfold loadName
    simp only [Env.blockKind, he.scope, he.kind, ScopeKind.isAnnotationScope, Bool.false_and, Bool.false_eq_true, if_false, hk.look he]
  rw [e1]; exact q
theorem ld_glob {Mo : Model} {E : Value → Shared → Prop} {x : Str} {v : Value} {Q : Value → Shared → Prop} (he : EnvOK X sc env) (hb : Base X b) (hr : Rep X b G s.heap) (hk : GlobIn sc x) (hv : X.mg x = some v) (q : Q v s) : wpAny Mo A (loadName env x) Q E s := by
  refine ld_global he hk ?_
  unfold loadGlobal
  rw [he.glob]
  refine wpAny_bind (wpAny_nsGet (X.ng.keeps (hb.kp hr)) ?_)
  rw [hv]; exact wpAny_pure q
theorem ld_blt {Mo : Model} {E : Value → Shared → Prop} {x : Str} {v : Value} {Q : Value → Shared → Prop} (he : EnvOK X sc env) (hb : Base X b) (hr : Rep X b G s.heap) (hk : GlobIn sc x) (hm : X.mg x = none) (hv : X.mb x = some v) (q : Q v s) : wpAny Mo A (loadName env x) Q E s := by
  refine ld_global he hk ?_
  unfold loadGlobal
  rw [he.glob, he.blt]
  refine wpAny_bind (wpAny_nsGet (X.ng.keeps (hb.kp hr)) ?_)
  rw [hm]
  show wpAny Mo A (nsGet builtinsNs x >>= _) Q E s
  refine wpAny_bind (wpAny_nsGet (X.nb.keeps (hb.kp hr)) ?_)
  rw [hv]; exact wpAny_pure q
theorem GlobIn.dbg (he : EnvOK X sc env) {x : Str} (h : GlobIn sc x) : (x == ("__debug__" : Str)) = false := he.dbg (h.look he)
noncomputable def GlobV (X : Cx) (x : Str) (v : Val) : Prop := ∃ y, X.mg x = some y ∧ VR X.H0 v y
noncomputable def GlobD (X : Cx) (x : Str) (ks : List Str) : Prop := ∃ a es k, X.mg x = some (.ref a) ∧ X.K.lookup a = some ⟨.type "dict", none, .dict es k, #[]⟩ ∧ KeysLit X.w.params es.toList ∧ (a == sysModules) = false ∧ ∀ x, (findBy Value.isStrOf es x).isSome = ks.contains x
theorem Sn.glob {x : Str} {v : Val} {pos : Pos} (hg : GlobV X x v) (hk : GlobIn sc x) (q : Q v G) : Sn X n sc (.Name x pos) m G Q := ⟨fun hy => by
  obtain ⟨y, h1, h2⟩ := hg
  exact wpAny_Name (ld_glob hy.he hy.hb hy.hr hk h1 (.mk v G (h2.mono (.of_keep (hy.hb.kp hy.hr))) hy.hr .refl q)) (hk.dbg hy.he)⟩
theorem inG_sound {x : Str} {z : Str} {ks : List Str} {y : Value} {pos : Pos} (hg : GlobD X x ks) (hk : GlobIn sc x) (hy : Hy X n sc env A b m G s) (hv : VR s.heap (.str z) y) (h : Q (.bool (ks.contains z)) G) :
    wpAny (model X.prog X.w) A (eval (.Name x pos) env) (fun d s₂ => wpAny (model X.prog X.w) A (compareOp .In y d) (Out X b s Q) NoE s₂) NoE s := by
  obtain ⟨a, es, k, h1, h2, h3, h4, h5⟩ := hg
  obtain ⟨t, rfl⟩ := hv.str_inv
  refine wpAny_Name (ld_glob hy.he hy.hb hy.hr hk h1 (wpAny_in_of (knd := strKind X.prog X.w) (strKind_is _ _ _ _) h4 (mapOf_K (prog := X.prog) (hy.hb.kin hy.hr) h2 h3) ?_)) (hk.dbg hy.he)
  rw [h5]; exact Out.here hy.hr (.bool _) h
theorem notinG_sound {x : Str} {z : Str} {ks : List Str} {y : Value} {pos : Pos} (hg : GlobD X x ks) (hk : GlobIn sc x) (hy : Hy X n sc env A b m G s) (hv : VR s.heap (.str z) y) (h : Q (.bool (!ks.contains z)) G) :
    wpAny (model X.prog X.w) A (eval (.Name x pos) env) (fun d s₂ => wpAny (model X.prog X.w) A (compareOp .NotIn y d) (Out X b s Q) NoE s₂) NoE s := by
  obtain ⟨a, es, k, h1, h2, h3, h4, h5⟩ := hg
  obtain ⟨t, rfl⟩ := hv.str_inv
  refine wpAny_Name (ld_glob hy.he hy.hb hy.hr hk h1 (wpAny_notIn_of (knd := strKind X.prog X.w) (strKind_is _ _ _ _) h4 (mapOf_K (prog := X.prog) (hy.hb.kin hy.hr) h2 h3) ?_)) (hk.dbg hy.he)
  rw [h5]; exact Out.here hy.hr (.bool _) h
theorem Sn.inG {l : PySem.Expr} {x : Str} {ks : List Str} {p pos : Pos} (hg : GlobD X x ks) (hk : GlobIn sc x) (h : Sn X n sc l m G fun v G₁ => ∃ z, v = .str z ∧ Q (.bool (ks.contains z)) G₁) : Sn X n sc (.Compare l [.In] [.Name x p] pos) m G Q := ⟨fun hy =>
  wpAny_Compare1 (h.use hy fun y s₁ v G₁ hv hy₁ f₁ h₁ => by
    obtain ⟨z, rfl, q⟩ := h₁
    exact wpAny_trans (inG_sound hg hk hy₁ hv q) fun y s₂ q => wpAny_trans q fun _ _ q => q.next f₁)⟩
theorem SnT.inG {Q : Bool → Gh → Prop} {l : PySem.Expr} {x : Str} {ks : List Str} {p pos : Pos} (hg : GlobD X x ks) (hk : GlobIn sc x) (h : Sn X n sc l m G fun v G₁ => ∃ z, v = .str z ∧ Q (ks.contains z) G₁) : SnT X n sc (.Compare l [.In] [.Name x p] pos) m G Q := ⟨fun hy =>
  wpAny_isTrue_Compare1 (h.use hy fun y s₁ v G₁ hv hy₁ f₁ h₁ => by
    obtain ⟨z, rfl, q⟩ := h₁
    exact wpAny_trans (inG_sound (Q := TQ Q) hg hk hy₁ hv ⟨_, .bool _, q⟩) fun y s₂ q => wpAny_trans q fun _ _ q => q.test f₁)⟩
theorem SnT.notinG {Q : Bool → Gh → Prop} {l : PySem.Expr} {x : Str} {ks : List Str} {p pos : Pos} (hg : GlobD X x ks) (hk : GlobIn sc x) (h : Sn X n sc l m G fun v G₁ => ∃ z, v = .str z ∧ Q (!ks.contains z) G₁) : SnT X n sc (.Compare l [.NotIn] [.Name x p] pos) m G Q := ⟨fun hy =>
  wpAny_isTrue_Compare1 (h.use hy fun y s₁ v G₁ hv hy₁ f₁ h₁ => by
    obtain ⟨z, rfl, q⟩ := h₁
    exact wpAny_trans (notinG_sound (Q := TQ Q) hg hk hy₁ hv ⟨_, .bool _, q⟩) fun y s₂ q => wpAny_trans q fun _ _ q => q.test f₁)⟩
noncomputable def NoStar (es : List PySem.Expr) : Prop := ∀ env pos, (backTo pos (starEach es env)).all (fun x => !x.1) = true
theorem NoStar.any {es : List PySem.Expr} (h : NoStar es) (env : Env) (pos : Pos) : (backTo pos (starEach es env)).any (·.1) = false := by
  have := h env pos
  rw [List.all_eq_true] at this
  rw [List.any_eq_false]
  intro x hx q
  have := this x hx
  rw [q] at this; cases this
theorem args_sound {f : Value} {es : List PySem.Expr} {Q : List Val → Gh → Prop} {P : Args → Shared → Prop} {pos : Pos} (hn : NoStar es) (h : SnEs X n sc es m G Q) (hy : Hy X n sc env A b m G s)
    (k : ∀ ys s₁ vs G₁, VRs s₁.heap vs ys → Hy X n sc env A b m G₁ s₁ → Fwd s s₁ → Q vs G₁ → P ⟨ys, []⟩ s₁) : wpAny (model X.prog X.w) A (evalArgs f true (backTo pos (starEach es env)) []) P NoE s := by
  have h2 := h.use (pos := pos) hy (P := fun ys s₁ => P ⟨ys, []⟩ s₁) k
  unfold evalArgs
  have key : ∀ l : List (Bool × Sem Value), l.any (·.1) = false → wpAny (model X.prog X.w) A (spliced l) (fun ys s₁ => P ⟨ys, []⟩ s₁) NoE s → wpAny (model X.prog X.w) A (evalArgs f true l []) P NoE s := by
    intro l hl h
    cases l with
    | nil =>
      unfold evalArgs
      show wpAny _ A (spliced [] >>= _) _ _ s
      refine wpAny_bind (wpAny_trans h fun vs s' h' => ?_)
      refine wpAny_bind (wpAny_pure ?_)
      refine wpAny_holding ?_
      exact wpAny_bind (wpAny_pure (wpAny_bind (wpAny_pure (wpAny_pure h'))))
    | cons p l =>
      obtain ⟨q, t⟩ := p
      rw [List.any_cons, Bool.or_eq_false_iff] at hl
      obtain rfl : q = false := hl.1
      exact Calls.evalArgs_plain h
  exact key _ (hn.any env pos) h2
structure BltOK (X : Cx) : Prop where
  mg : ∀ x ∈ (["len", "list", "sorted", "any", "all", "sum", "int", "abs", "min", "set", "range", "enumerate", "zip", "isinstance", "bool"] : List String), X.mg (Str.ofString x) = none
  fn : ∀ x ∈ (["len", "sorted", "any", "all", "sum", "abs", "min", "isinstance"] : List String), X.mb (Str.ofString x) = some (.builtin x)
  ty : ∀ x ∈ (["list", "int", "set", "range", "enumerate", "zip", "bool"] : List String), X.mb (Str.ofString x) = some (.type x)
theorem Sn.fn {id : String} {es : List PySem.Expr} {p pos : Pos} (hx : BltOK X) (h1 : id ∈ (["len", "list", "sorted", "any", "all", "sum", "int", "abs", "min", "set", "range", "enumerate", "zip", "isinstance", "bool"] : List String)) (h2 : id ∈ (["len", "sorted", "any", "all", "sum", "abs", "min", "isinstance"] : List String))
    (hk : GlobIn sc (Str.ofString id)) (hn : NoStar es) (h : SnEs X n sc es m G fun vs G₁ => OpN X n (fun ys => call (.builtin id) ys) vs G₁ Q) : Sn X n sc (.Call (.Name (Str.ofString id) p) es [] pos) m G Q := ⟨fun hy =>
  PyProof.Rows.Call_ (wpAny_Name (ld_blt hy.he hy.hb hy.hr hk (hx.mg _ h1) (hx.fn _ h2) (Calls.callWith_builtin (first := []) (hn.any _ _) (args_sound hn h hy fun ys s₁ vs G₁ hv hy₁ f₁ h₁ =>
    wpAny_trans (h₁.go hy₁.hA hy₁.hb hy₁.hr hv) fun _ _ q => q.next f₁))) (hk.dbg hy.he))⟩
theorem Sn.ty {id : String} {es : List PySem.Expr} {p pos : Pos} (hx : BltOK X) (h1 : id ∈ (["len", "list", "sorted", "any", "all", "sum", "int", "abs", "min", "set", "range", "enumerate", "zip", "isinstance", "bool"] : List String)) (h2 : id ∈ (["list", "int", "set", "range", "enumerate", "zip", "bool"] : List String))
    (hk : GlobIn sc (Str.ofString id)) (hn : NoStar es) (h : SnEs X n sc es m G fun vs G₁ => OpN X n (fun ys => call (.type id) ys) vs G₁ Q) : Sn X n sc (.Call (.Name (Str.ofString id) p) es [] pos) m G Q := ⟨fun hy =>
  PyProof.Rows.Call_ (wpAny_Name (ld_blt hy.he hy.hb hy.hr hk (hx.mg _ h1) (hx.ty _ h2) (PyProof.Rows.callWith_type (first := []) (hn.any _ _) (args_sound hn h hy fun ys s₁ vs G₁ hv hy₁ f₁ h₁ =>
    wpAny_trans (h₁.go hy₁.hA hy₁.hb hy₁.hr hv) fun _ _ q => q.next f₁))) (hk.dbg hy.he))⟩
theorem OpN.one {f : List Value → Sem Value} {v : Val} (h : Op1 X n (fun x => f [x]) v G Q) : OpN X n f [v] G Q := ⟨fun hA hb hr hv => by
  obtain ⟨y, rfl, hv'⟩ := hv.one_inv
  exact h.go hA hb hr hv'⟩
theorem OpN.two {f : List Value → Sem Value} {v w : Val} (h : Op2 X n (fun x y => f [x, y]) v w G Q) : OpN X n f [v, w] G Q := ⟨fun hA hb hr hv => by
  obtain ⟨y, z, rfl, hv', hw⟩ := hv.two_inv
  exact h.go hA hb hr hv' hw⟩
noncomputable abbrev Blt (X : Cx) (n : Nat) (f : Value) (vs : List Val) (G : Gh) (Q : QE) : Prop := OpN X n (fun ys => call f ys) vs G Q
theorem Blt.lenL {a : Addr} {xs : List Val} (e : G a = some (.list xs)) (hl : xs.length < cap) (q : Q (.int xs.length) G) : Blt X n (.builtin "len") [.ref a] G Q := .one ⟨fun hA hb hr hv => by
  rw [hv.ref_inv]
  obtain ⟨zs, k, _, ho, hs, hlen⟩ := own_list hr e
  refine Calls.call_len_list ⟨_, ho, rfl, k, rfl⟩ (by unfold cap at hl; omega) ?_
  rw [← hlen]
  exact Out.here hr (.int _ _) q⟩
theorem list_out {xs : List Val} {ys : Array Value} {a : Addr} {T : String} {k : Nat} (hT : T = "list" ∨ T = "tuple") (hb : Base X b) (hr : Rep X b G s.heap) (hl : xs.length < cap) (ho : s.heap.get? a = some ⟨.type T, none, .seq ys k, #[]⟩) (hv : VRs s.heap xs ys.toList) (q : newList xs G Q) :
    wpAny (model X.prog X.w) A (call (.type "list") [.ref a]) (Out X b s Q) NoE s :=
  have hlen : xs.length = ys.size := by rw [hv.length, Array.length_toList]
  call_list_seq a hT ho rfl rfl (fun h' c' kp hD => newL2 (s' := { s with heap := h' }) hb hr (by omega) kp (get_none (Nat.le_refl _)) hD (hlow hb hr) (hv.mono (.of_keep kp)) rfl rfl q) (by rw [← hlen]; exact fits_of_cap hl)
theorem Blt.listL {a : Addr} {xs : List Val} (e : G a = some (.list xs)) (hl : xs.length < cap) (q : newList xs G Q) : Blt X n (.type "list") [.ref a] G Q := .one ⟨fun hA hb hr hv => by
  rw [hv.ref_inv]
  obtain ⟨zs, k, _, ho, hs, hlen⟩ := own_list hr e
  exact list_out (.inl rfl) hb hr hl ho hs q⟩
theorem vrs_ints {h : Heap} {vs : List Value} {ns : List Int} (i : IntsAre vs ns) : VRs h (ns.map .int) vs := by
  induction i with
  | nil => exact .nil
  | cons _ _ _ ih => exact .cons (.int _ _) ih
theorem intsAre_of : ∀ {vs : List Value} {ns : List Int}, vs.length = ns.length → (∀ (j : Nat) (v : Value), vs[j]? = some v → ∃ t k, ns[j]? = some k ∧ v = .int k t) → IntsAre vs ns := by
  intro vs
  induction vs with
  | nil => intro ns hl _; cases ns with | nil => exact .nil | cons _ _ => cases hl
  | cons v vs ih =>
    intro ns hl h
    cases ns with
    | nil => cases hl
    | cons k ns =>
      obtain ⟨t, k', hk, rfl⟩ := h 0 v rfl
      cases hk
      exact .cons _ _ (ih (Nat.succ.inj hl) fun j u hu => h (j + 1) u hu)
theorem Blt.sorted {a : Addr} {es : List (Int × Val)} (e : G a = some (.dict es)) (hl : es.length < 64)
    (h : ∀ ks : List Int, ks.Pairwise (· < ·) → (∀ k, k ∈ ks ↔ (lookE es k).isSome = true) → newList (ks.map .int) G Q) : Blt X n (.builtin "sorted") [.ref a] G Q := .one ⟨fun {A b s x} hA hb hr hv => by
  rw [hv.ref_inv]
  obtain ⟨_, kvs, hd, hes⟩ := (hr.own _ _ e).2
  obtain ⟨ep, hat⟩ := hd.dictAt
  have hlk : kvs.length < 64 := by rw [← hes.length]; exact hl
  refine Calls.call_function_entry kind_sorted plain_sorted entry_sorted (args_sorted1 _) ?_
  unfold Builtin.«sorted»
  refine wpAny_bind (m := checkCount "sorted" 1 1 _) (wpAny_pure ?_)
  refine wpAny_bind (kdu_collect (A := A.in1) (kdl_dict (knd := intKind X.prog X.w) (kvs := kvs) (ep := ep) (ne_sys hr e)) (by rw [Around.in1_handled]; exact hA.hd) hat (by rw [sizeLine_eq]; omega) fun h' tk acc hk hacc => ?_)
  have hlen : acc.toList.length = kvs.length := by rw [Array.length_toList]; exact hacc.1
  refine wpAny_bind (wpAny_newList ?_ (by rw [hlen, sizeLine_eq]; omega))
  have hI : IntsAre acc.toList (kvs.map (·.1)) := by
    refine intsAre_of (by rw [List.length_map]; exact hlen) fun j v hv => ?_
    obtain ⟨k, x, hx, hk'⟩ := hacc.2 j v (by rw [← Array.getElem?_toList]; exact hv)
    obtain ⟨t, rfl⟩ := Value.isInt_shape hk'
    exact ⟨t, k, by rw [List.getElem?_map, hx]; rfl, rfl⟩
  have hoL : (h'.push (seqObj "list" acc.toList.toArray 0)).get? h'.objs.size = some (seqObj "list" acc.toList.toArray 0) := Heap.get?_push_size _ rfl
  refine wpAny_bind (wpAny_holding (wpAny_call_entry slot_list_sort ⟨_, hoL, rfl⟩ entry_list_sort (list_sort_tree hoL hI (by rw [hlen]; exact hlk) fun out ns' a1 a2 a3 => ⟨_, rfl, ?_⟩) (args_list_sort _)))
  refine wpAny_pure ⟨_, rfl, ?_⟩
  have hnd : ns'.Nodup := a2.nodup_iff.mpr (by obtain ⟨_, _, _, _, _, _, _, z⟩ := hat; exact z)
  have hlt : ns'.Pairwise (· < ·) := (List.Pairwise.and a3 hnd).imp fun ⟨x, y⟩ => by omega
  have hmem : ∀ k, k ∈ ns' ↔ (lookE es k).isSome = true := fun k => by
    rw [a2.mem_iff, ← hes.isSome, List.mem_map]
    unfold valueAt
    rw [Option.isSome_map, List.find?_isSome]
    constructor
    · rintro ⟨p, hp, e⟩; exact ⟨p, hp, decide_eq_true e⟩
    · rintro ⟨p, hp, e⟩; exact ⟨p, hp, of_decide_eq_true e⟩
  have hnew : s.heap.get? h'.objs.size = none := by
    cases q : s.heap.get? h'.objs.size with
    | none => rfl
    | some o => exact absurd (Heap.lt_size (hk _ _ q)) (Nat.lt_irrefl _)
  obtain ⟨e', he'⟩ := sortedHeap_at (vs := acc.toList) (out := out) hoL
  have kp : ∀ x o, s.heap.get? x = some o → (sortedHeap (h'.push (seqObj "list" acc.toList.toArray 0)) h'.objs.size acc.toList out).get? x = some o := fun x o q => by
    have q1 := hk _ _ q
    have hx : x ≠ h'.objs.size := Nat.ne_of_lt (Heap.lt_size q1)
    rw [sortedHeap_old hx (by rw [size_push']; exact Nat.lt_succ_of_lt (Heap.lt_size q1)), Heap.get?_push_ne _ _ _ hx]
    exact q1
  have hl2 : (ns'.map Val.int).length ≤ 2 * cap := by
    rw [List.length_map, a2.length_eq, List.length_map]; unfold cap; omega
  exact newL2 (s' := { s with heap := _, toks := tk }) hb hr hl2 kp hnew he' (hlow hb (hr.mono hk)) (vrs_ints a1) rfl rfl (h ns' hlt hmem)⟩
end
end
noncomputable section
open SetTable
noncomputable def orb (m i : Nat) : Nat → Nat
  | 0 => i
  | t + 1 => (orb m i t * 5 + 1) % m
noncomputable def orbL (m : Nat) : Nat → Nat → List Nat
  | 0, _ => []
  | t + 1, i => i :: orbL m t ((i * 5 + 1) % m)
theorem orb_succ (m i : Nat) : ∀ t, orb m i (t + 1) = orb m ((i * 5 + 1) % m) t
  | 0 => rfl
  | t + 1 => by rw [orb, orb_succ m i t]; rfl
theorem orb_add (m i a : Nat) : ∀ t, orb m (orb m i a) t = orb m i (a + t)
  | 0 => rfl
  | t + 1 => by rw [orb, orb_add m i a t]; rfl
theorem orbL_get (m : Nat) : ∀ (n i t : Nat), t < n → (orbL m n i)[t]? = some (orb m i t)
  | n + 1, i, 0, _ => rfl
  | n + 1, i, t + 1, h => by
    rw [orbL, List.getElem?_cons_succ, orbL_get m n _ t (by omega), orb_succ]
theorem orbL_len (m : Nat) : ∀ n i, (orbL m n i).length = n
  | 0, _ => rfl
  | n + 1, i => by rw [orbL, List.length_cons, orbL_len m n]
noncomputable def fullOrb (m : Nat) : Bool := ((List.range m).all fun j => (orbL m m 0).contains j) && orb m 0 m == 0
noncomputable def masks : List Nat := [7, 15, 31, 63, 127, 255]
theorem masks_full : ∀ m ∈ masks, fullOrb (m + 1) = true := by decide +kernel
theorem orb_hits {m : Nat} (h : fullOrb m = true) {i j : Nat} (hi : i < m) (hj : j < m) : ∃ t, t < m ∧ orb m i t = j := by
  unfold fullOrb at h
  rw [Bool.and_eq_true, List.all_eq_true, beq_iff_eq] at h
  have hit : ∀ k, k < m → ∃ t, t < m ∧ orb m 0 t = k := fun k hk => by
    have h1 := h.1 k (List.mem_range.mpr hk)
    rw [List.contains_iff_mem] at h1
    obtain ⟨t, ht⟩ := List.mem_iff_getElem?.mp h1
    have hlt : t < m := by have := (List.getElem?_eq_some_iff.mp ht).1; rwa [orbL_len] at this
    rw [orbL_get m m 0 t hlt] at ht
    exact ⟨t, hlt, by simpa using ht⟩
  obtain ⟨a, ha, ea⟩ := hit i hi
  obtain ⟨b, hb, eb⟩ := hit j hj
  by_cases hab : a ≤ b
  · exact ⟨b - a, by omega, by rw [← ea, orb_add, show a + (b - a) = b by omega, eb]⟩
  · refine ⟨m - a + b, by omega, ?_⟩
    rw [← ea, orb_add, show a + (m - a + b) = m + b by omega, ← orb_add, h.2, eb]
theorem free_some {owner : Array (Option Nat)} {mask j : Nat} (hj : owner.getD j (some 0) = none) : ∀ (fuel i p : Nat), p < 32 → (∃ t, t < fuel ∧ orb (mask + 1) i t = j) → ∃ q, layClean.free mask owner fuel i p = some q ∧ owner.getD q (some 0) = none
  | 0, _, _, _, ⟨_, h, _⟩ => absurd h (Nat.not_lt_zero _)
  | fuel + 1, i, p, hp, ⟨t, ht, et⟩ => by
    unfold layClean.free
    cases hf : (List.range (runEnd mask i + 1 - i)).find? fun k => (owner.getD (i + k) (some 0)).isNone with
    | some k =>
      have := List.find?_some hf
      exact ⟨_, rfl, by simpa using this⟩
    | none =>
      have h0 : t ≠ 0 := by
        rintro rfl
        have h1 := List.find?_eq_none.mp hf 0 (List.mem_range.mpr (by unfold runEnd; split <;> omega))
        rw [Nat.add_zero, show i = j from et, hj] at h1
        simp at h1
      obtain ⟨t, rfl⟩ : ∃ t', t = t' + 1 := ⟨t - 1, by omega⟩
      rw [orb_succ] at et
      have e1 : leap mask i p = ((i * 5 + 1) % (mask + 1), 0) := by
        unfold leap
        rw [show p / 32 = 0 from Nat.div_eq_of_lt hp, Nat.add_zero]
      simp only [e1]
      exact free_some hj fuel _ 0 (by omega) ⟨t, by omega, et⟩
noncomputable def somes (owner : Array (Option Nat)) : List Nat := owner.toList.filterMap id
theorem somes_set {owner : Array (Option Nat)} {j k : Nat} (hj : owner.getD j (some 0) = none) : (somes (owner.setIfInBounds j (some k))).Perm (k :: somes owner) := by
  obtain ⟨l⟩ := owner
  simp only [somes, Array.toList_setIfInBounds]
  have hj' : l[j]? = some none := by
    rw [Array.getD_eq_getD_getElem?] at hj
    simp only [List.getElem?_toArray] at hj
    cases h : l[j]? with
    | none => rw [h] at hj; cases hj
    | some o => rw [h] at hj; simp at hj; rw [hj]
  clear hj
  induction l generalizing j with
  | nil => cases hj'
  | cons x l ih =>
    cases j with
    | zero =>
      simp only [List.getElem?_cons_zero, Option.some.injEq] at hj'
      subst hj'
      simp
    | succ j =>
      simp only [List.getElem?_cons_succ] at hj'
      have := ih hj'
      simp only [List.set_cons_succ]
      cases x with
      | none => simpa using this
      | some y =>
        simp only [List.filterMap_cons_some (f := id) (b := y) rfl]
        exact (List.Perm.cons y this).trans (List.Perm.swap _ _ _)
theorem somes_room {owner : Array (Option Nat)} (h : (somes owner).length < owner.size) : ∃ j, j < owner.size ∧ owner.getD j (some 0) = none := by
  obtain ⟨l⟩ := owner
  simp only [somes, List.size_toArray] at h ⊢
  induction l with
  | nil => simp at h
  | cons x l ih =>
    cases x with
    | none => exact ⟨0, by simp, by simp [Array.getD_eq_getD_getElem?]⟩
    | some y =>
      simp only [List.filterMap_cons_some (f := id) (b := y) rfl, List.length_cons] at h
      obtain ⟨j, h1, h2⟩ := ih (by omega)
      refine ⟨j + 1, by simpa using h1, ?_⟩
      rw [Array.getD_eq_getD_getElem?] at h2 ⊢
      simpa using h2
theorem bits_small {h : Int} (h0 : 0 ≤ h) (h1 : h < 32) : bits h < 32 := by unfold bits; omega
noncomputable def laystep (mask : Nat) (acc : Option (Array (Option Nat) × Nat)) (h : Int) : Option (Array (Option Nat) × Nat) := do
  let (owner, k) ← acc
  let j ← layClean.free mask owner (turns mask) (bits h % (mask + 1)) (bits h)
  pure (owner.setIfInBounds j (some k), k + 1)
theorem lay_fold {mask : Nat} (hm : mask ∈ masks) : ∀ (hs : List Int) (owner : Array (Option Nat)) (k : Nat), (∀ h ∈ hs, 0 ≤ h ∧ h < 32) → owner.size = mask + 1 → (somes owner).Perm (List.range k) → k + hs.length ≤ mask + 1 →
    ∃ owner', hs.foldl (laystep mask) (some (owner, k)) = some (owner', k + hs.length) ∧ owner'.size = mask + 1 ∧ (somes owner').Perm (List.range (k + hs.length))
  | [], owner, k, _, hsz, hp, _ => ⟨owner, rfl, hsz, hp⟩
  | h :: hs, owner, k, hr, hsz, hp, hle => by
    have hlen : (somes owner).length = k := by rw [hp.length_eq, List.length_range]
    simp only [List.length_cons] at hle
    obtain ⟨j, hj, ej⟩ := somes_room (owner := owner) (by omega)
    obtain ⟨b0, b1⟩ := hr h (.head _)
    have hb := bits_small b0 b1
    obtain ⟨t, ht, et⟩ := orb_hits (masks_full mask hm) (i := bits h % (mask + 1)) (j := j) (Nat.mod_lt _ (by omega)) (by omega)
    obtain ⟨q, eq, hq⟩ := free_some ej (turns mask) (bits h % (mask + 1)) (bits h) hb ⟨t, by unfold turns; omega, et⟩
    have hstep : laystep mask (some (owner, k)) h = some (owner.setIfInBounds q (some k), k + 1) := by
      simp only [laystep, Option.bind_eq_bind, Option.bind_some, eq]; rfl
    obtain ⟨o', e1, e2, e3⟩ := lay_fold hm hs (owner.setIfInBounds q (some k)) (k + 1) (fun x hx => hr x (.tail _ hx)) (by rw [Array.size_setIfInBounds]; exact hsz)
      ((somes_set hq).trans ((List.Perm.cons k hp).trans (by rw [List.range_succ]; exact (List.perm_append_singleton _ _).symm))) (by omega)
    refine ⟨o', ?_, e2, ?_⟩
    · rw [List.foldl_cons, hstep, e1, List.length_cons]; congr 2; omega
    · rw [List.length_cons, show k + (hs.length + 1) = k + 1 + hs.length by omega]; exact e3
theorem somes_range (owner : Array (Option Nat)) : (List.range owner.size).filterMap (fun j => owner.getD j none) = somes owner := by
  obtain ⟨l⟩ := owner
  simp only [somes, List.size_toArray]
  induction l with
  | nil => rfl
  | cons x l ih =>
    rw [List.length_cons, List.range_succ_eq_map, List.filterMap_cons, List.filterMap_map]
    have e : ((fun j => (x :: l).toArray.getD j none) ∘ Nat.succ) = fun j => l.toArray.getD j none := by
      funext j; simp [Array.getD_eq_getD_getElem?]
    rw [e, ih]
    cases x <;> simp [Array.getD_eq_getD_getElem?]
theorem laid_ok {mask finger moves : Nat} {led plain : Bool} {hs : Array Int} (hm : mask ∈ masks) (hr : ∀ h ∈ hs.toList, 0 ≤ h ∧ h < 32) (hle : hs.size ≤ mask) :
    ∃ t order, laid mask finger moves led plain hs = some (t, order) ∧ order.toList.Perm (List.range hs.size) ∧ t.place.size = hs.size ∧ t.dummies = #[] ∧ t.mask = mask := by
  have hfold := lay_fold hm hs.toList (Array.replicate (mask + 1) none) 0 hr (by simp) (by simp [somes]) (by rw [Array.length_toList]; omega)
  obtain ⟨owner, e1, e2, e3⟩ := hfold
  have hclean : layClean mask hs = some owner := by
    unfold layClean
    rw [← Array.foldl_toList]
    show (hs.toList.foldl (laystep mask) (some (Array.replicate (mask + 1) none, 0))).map (·.1) = _
    rw [e1]; rfl
  simp only [Nat.zero_add, Array.length_toList] at e3
  have key : ((List.range (mask + 1)).filterMap fun j => (owner.getD j none).map (j, ·)).map (·.2) = somes owner := by
    rw [← somes_range owner, e2, List.map_filterMap]
    congr 1
    funext j
    cases owner.getD j none <;> rfl
  refine ⟨_, _, by unfold laid; rw [hclean]; rfl, ?_, ?_, rfl, rfl⟩
  · simp only [List.toList_toArray, key]; exact e3
  · simp only [List.size_toArray, List.length_map]
    have := congrArg List.length key
    rw [List.length_map] at this
    rw [this, e3.length_eq, List.length_range]
end
noncomputable section
section
variable {X : Cx} {n : Nat} {sc : Scope}
theorem elems_ents {l : List (Int × Value)} (h : ElemsOf (intKind X.prog X.w) l) : ∃ ks, l = entsOf ks := by
  induction l with
  | nil => exact ⟨[], rfl⟩
  | cons e l ih =>
    obtain ⟨ks, rfl⟩ := ih h.tail
    obtain ⟨⟨k, hk, hh⟩, _⟩ := h.head
    obtain ⟨t, ht⟩ := Value.isInt_shape hk
    obtain ⟨e1, e2⟩ := e
    dsimp only at hh ht
    subst hh ht
    exact ⟨(k, t) :: ks, rfl⟩
theorem nodup_sub_len : ∀ {l l' : List Int}, l.Nodup → (∀ x ∈ l, x ∈ l') → l.length ≤ l'.length
  | [], _, _, _ => Nat.zero_le _
  | a :: l, l', hn, hs => by
    have ha := hs a (.head _)
    have hn' := List.nodup_cons.mp hn
    have := nodup_sub_len (l := l) (l' := l'.erase a) hn'.2 fun x hx => (List.mem_erase_of_ne (fun (e : x = a) => hn'.1 (e ▸ hx))).mpr (hs x (.tail _ hx))
    rw [List.length_erase_of_mem ha] at this
    have hpos := List.length_pos_of_mem ha
    simp only [List.length_cons]; omega
theorem nodup_of_cover : ∀ {l l' : List Int}, l.Nodup → (∀ x ∈ l, x ∈ l') → l'.length ≤ l.length → l'.Nodup
  | [], l', _, _, h => by cases l' with | nil => exact .nil | cons a r => simp at h
  | a :: l, l', hn, hs, h => by
    have ha := hs a (.head _)
    have hn' := List.nodup_cons.mp hn
    have hsub : ∀ x ∈ l, x ∈ l'.erase a := fun x hx => (List.mem_erase_of_ne (fun (e : x = a) => hn'.1 (e ▸ hx))).mpr (hs x (.tail _ hx))
    have hle : (l'.erase a).length ≤ l.length := by rw [List.length_erase_of_mem ha]; simp only [List.length_cons] at h; omega
    have ih := nodup_of_cover hn'.2 hsub hle
    have hna : a ∉ l'.erase a := fun hm => by
      have := nodup_sub_len (l := a :: l) (l' := l'.erase a) hn fun x hx => by
        rcases List.mem_cons.mp hx with rfl | hx
        · exact hm
        · exact hsub x hx
      simp only [List.length_cons] at this; omega
    exact ((List.perm_cons_erase ha).nodup_iff).mpr (List.nodup_cons.mpr ⟨hna, ih⟩)
theorem SetI.of_setOf {h : Heap} {a : Addr} {S : Int → Bool} {k : Nat} {l : List Int} (i : h.SetOf (intKind X.prog X.w) a S k) (hn : l.Nodup) (hl : ∀ x ∈ l, S x = true) (hk : k ≤ l.length) (hr : ∀ x, S x = true → 0 ≤ x ∧ x < 32) : SetI h a S := by
  obtain ⟨⟨oc, od, oda, os⟩, es, ep, t, ho, ⟨x1, x2, x3⟩, hd, hel, hm, hb, hf, hsz⟩ := i
  dsimp only at x1 x2 x3 hd
  subst x1 x2 x3 hd
  obtain ⟨ks, hks⟩ := elems_ents hel
  have hlen : ks.length = k := by rw [← hsz, ← Array.length_toList, hks, List.length_map]
  have hm' : ∀ x, S x = true ↔ x ∈ ks.map (·.1) := fun x => by rw [hm x, hks, mem_ents]
  refine ⟨ks, ep, t, ?_, ?_, hm', ?_, fun x hx => hr x ((hm' x).mpr hx)⟩
  · rw [ho]
    have : es = (entsOf ks).toArray := by rw [← hks]
    rw [this]
  · exact nodup_of_cover hn (fun x hx => (hm' x).mp (hl x hx)) (by rw [List.length_map, hlen]; exact hk)
  · rw [hlen, ← hsz]; exact hf
theorem SetI.add {h h' : Heap} {a : Addr} {S : Int → Bool} {k : Int} (i : SetI h a S) (hk : 0 ≤ k ∧ k < 32) (hS : ∀ m, h.SetOf (intKind X.prog X.w) a S m → h'.SetOf (intKind X.prog X.w) a (fun j => S j || decide (j = k)) (if S k then m else m + 1)) :
    SetI h' a (fun j => S j || decide (j = k)) := by
  obtain ⟨l, hn, hm, hl, hs⟩ := i.parts (X := X)
  have h1 := hS _ hs
  have hr : ∀ x, (S x || decide (x = k)) = true → 0 ≤ x ∧ x < 32 := fun x hx => by
    rw [Bool.or_eq_true, decide_eq_true_eq] at hx
    rcases hx with hx | rfl
    · exact i.small x hx
    · exact hk
  cases hsk : S k with
  | true =>
    rw [hsk] at h1
    exact SetI.of_setOf h1 hn (fun x hx => by rw [(hm x).mpr hx]; rfl) (Nat.le_refl _) hr
  | false =>
    rw [hsk] at h1
    refine SetI.of_setOf (l := k :: l) h1 (List.nodup_cons.mpr ⟨fun hx => ?_, hn⟩) (fun x hx => ?_) (Nat.le_refl _) hr
    · rw [(hm k).mpr hx] at hsk; cases hsk
    · rcases List.mem_cons.mp hx with rfl | hx
      · simp
      · rw [(hm x).mpr hx]; rfl
theorem SetOf.size {h : Heap} {a : Addr} {S : Int → Bool} {m k : Nat} (x : h.SetOf (intKind X.prog X.w) a S m) (y : h.SetOf (intKind X.prog X.w) a S k) : m = k := by
  obtain ⟨_, _, _, _, e1, _, e2, _, _, _, _, e3⟩ := x
  obtain ⟨_, _, _, _, f1, _, f2, _, _, _, _, f3⟩ := y
  rw [e1] at f1; cases f1; rw [e2] at f2; cases f2; rw [← e3, ← f3]
theorem setAddHashed_sound {A : Around} {s : Shared} {a : Addr} {S : Int → Bool} {k : Int} {t : Tok} {E : Value → Shared → Prop} {Q : Bool → Shared → Prop} (i : SetI s.heap a S) (hk : 0 ≤ k ∧ k < 32)
    (h : ∀ h', Heap.SameBut a s.heap h' → SetI h' a (fun j => S j || decide (j = k)) → Q (!S k) { s with heap := h' }) :
    wpAny (model X.prog X.w) A (setAddHashed a (.int k t) (hashInt k)) Q E s := by
  obtain ⟨l, hn, hm, hl, hs⟩ := i.parts (X := X)
  refine wpAny_setAddHashed_of (knd := intKind X.prog X.w) (intKind_is _ _ _ _) rfl hs (by unfold scanBound; omega) fun h' sb hS' => h h' sb ?_
  exact i.add (X := X) hk fun m hm' => by rw [SetOf.size hm' hs]; exact hS'
theorem own_set {b : Bs} {G : Gh} {h : Heap} {a : Addr} {S : Int → Bool} {f : Bool} (hr : Rep X b G h) (e : G a = some (.set S f)) : SetI h a S ∧ (f = true → ∃ led, h.get? a = some ⟨.type "set", none, .set #[] 0 (.fresh 0 0 led), #[]⟩) ∧ ∃ o, h.get? a = some o ∧ o.cls = .type "set" := by
  obtain ⟨i, f⟩ := (hr.own _ _ e).2
  obtain ⟨_, _, _, ho, _⟩ := id i
  exact ⟨i, f, _, ho, rfl⟩
theorem Meth.add {G : Gh} {Q : QE} {a : Addr} {S : Int → Bool} {f : Bool} {k : Int} (e : G a = some (.set S f)) (hk : 0 ≤ k ∧ k < 32) (h : Q .none (G.upd a (.set (fun j => S j || decide (j = k)) false))) : Blt X n (.builtin "set.add") [.ref a, .int k] G Q := .two ⟨fun {A b s x y} hA hb hr hv hw => by
  rw [hv.ref_inv]
  obtain ⟨t, rfl⟩ := hw.int_inv
  obtain ⟨i, _⟩ := own_set hr e
  obtain ⟨l, hn, hm, hl, hs⟩ := i.parts (X := X)
  refine call_set_add (knd := intKind X.prog X.w) (intKind_is _ _ _ _) rfl hs (by unfold scanBound; omega) fun h' sb hS' => ?_
  have i' := i.add (X := X) (h' := h') hk fun m hm' => by rw [SetOf.size hm' hs]; exact hS'
  obtain ⟨r', k'⟩ := hr.change (g' := .set _ false) e rfl rfl sb ⟨i', fun q => nomatch q⟩
  exact .mk .none _ .none r' ⟨k', rfl, rfl⟩ h⟩
theorem setFind_idx {A : Around} {s : Shared} {a : Addr} {ks : List (Int × Tok)} {ep : Nat} {t : SetTable} {k : Int} {tk : Tok} {E : Value → Shared → Prop} {Q : Option Nat → Shared → Prop}
    (ho : s.heap.get? a = some ⟨.type "set", none, .set (entsOf ks).toArray ep t, #[]⟩) (hf : t.fits ks.length = true) (hl : ks.length < 4096) (h : Q (ks.findIdx? fun p => decide (p.1 = k)) s) :
    wpAny (model X.prog X.w) A (setFind a (.int k tk) (hashInt k)) Q E s := by
  have hel := entsOf_elems (X := X) ks
  have hidx : List.findIdx? (fun e : Int × Value => (intKind X.prog X.w).is k e.2) (entsOf ks) = ks.findIdx? fun p => decide (p.1 = k) := by
    clear h hel hf ho hl
    induction ks with
    | nil => rfl
    | cons p ks ih =>
      simp only [entsOf, List.map_cons, List.findIdx?_cons] at ih ⊢
      rw [ih]
      have : (intKind X.prog X.w).is k (Value.int p.1 p.2) = decide (p.1 = k) := by
        show Value.isInt k (Value.int p.1 p.2) = _
        by_cases hk : p.1 = k <;> simp [Value.isInt, hk]
      rw [this]
  unfold setFind setFindIn
  have hf' : t.fits (entsOf ks).toArray.size = true := by simpa using hf
  refine wpAny_bind (wpAny_setState_of ho rfl hf' ?_)
  dsimp only
  rw [byScan_of (knd := intKind X.prog X.w) (by rfl) (by simpa [scanBound] using hl) (by simpa using hel)]
  simp only [↓reduceIte]
  refine wpAny_bind (wpAny_rule ?_)
  refine wpAny_bind (wpAny_setScan_of (knd := intKind X.prog X.w) (k := k) (intKind_is _ _ _ _) ho rfl hf' (by simpa using hel) ?_)
  rw [List.toList_toArray, hidx]
  cases hr : ks.findIdx? fun p => decide (p.1 = k) with
  | none => rw [hr] at h; exact wpAny_pure h
  | some j => rw [hr] at h; dsimp only; rw [Nat.zero_add]; exact wpAny_pure h
theorem eraseAt_list {α : Type} (l : List α) (i : Nat) : (SetTable.eraseAt l.toArray i).toList = l.eraseIdx i := by
  simp [SetTable.eraseAt, List.extract_eq_take_drop, List.eraseIdx_eq_take_drop_succ, List.take_of_length_le]
theorem size_insertAt {α : Type} (xs : Array α) (p : Nat) (x : α) : (SetTable.insertAt xs p x).size = xs.size + 1 := by
  have := (SetTable.insertAt_perm xs p x).length_eq
  simpa using this
theorem map_eraseIdx' {α β : Type} (f : α → β) : ∀ (l : List α) (i : Nat), (l.map f).eraseIdx i = (l.eraseIdx i).map f
  | [], _ => rfl
  | _ :: _, 0 => rfl
  | a :: l, i + 1 => by simp [map_eraseIdx' f l i]
theorem drop_fits {t : SetTable} {k i : Nat} (h : t.fits k = true) (hi : i < k) : (t.drop i).fits (k - 1) = true := by
  simp only [SetTable.fits, Bool.and_eq_true, beq_iff_eq, decide_eq_true_eq] at h
  simp only [SetTable.fill] at h
  obtain ⟨j, hj⟩ : ∃ j, t.place[i]? = some j := ⟨t.place[i], Array.getElem?_eq_getElem (by omega)⟩
  have hd : t.drop i = { t with place := SetTable.eraseAt t.place i, dummies := SetTable.insertAt t.dummies (SetTable.below t.dummies j) j } := by
    unfold SetTable.drop; rw [hj]
  rw [hd]
  have e1 : (SetTable.eraseAt t.place i).size = t.place.size - 1 := by
    generalize t.place = p at h
    obtain ⟨l⟩ := p
    have := congrArg List.length (eraseAt_list l i)
    rw [Array.length_toList] at this
    rw [this, List.length_eraseIdx]
    simp only [List.size_toArray] at h ⊢
    rw [if_pos (by omega)]
  simp only [SetTable.fits, Bool.and_eq_true, beq_iff_eq, decide_eq_true_eq]
  simp only [SetTable.fill, e1, size_insertAt]
  omega
theorem Meth.discard {G : Gh} {Q : QE} {a : Addr} {S : Int → Bool} {f : Bool} {k : Int} (e : G a = some (.set S f)) (h : Q .none (G.upd a (.set (fun j => S j && !decide (j = k)) false))) : Blt X n (.builtin "set.discard") [.ref a, .int k] G Q := .two ⟨fun {A b s x y} hA hb hr hv hw => by
  rw [hv.ref_inv]
  obtain ⟨tk, rfl⟩ := hw.int_inv
  have i := (hr.own _ _ e).2.1
  obtain ⟨ks, ep, t, ho, hn, hm, hf, hsm⟩ := id i
  have hl := few 32 _ hn hsm
  rw [List.length_map] at hl
  have hT : s.TypeIs (.ref a) "set" := ⟨_, ho, rfl⟩
  refine wpAny_call_entry F.slot_set_discard hT F.entry_set_discard ?_ (F.args_set_discard_2 _ _)
  unfold Builtin.«set.discard» Builtin.Frozenset.oneOther
  simp only [List.isEmpty_nil, bind_assoc]
  unfold Builtin.Frozenset.addrOf Builtin.Frozenset.withSetAsKey setDiscard setDiscardHashed
  refine wpAny_bind (wpAny_pure ?_)
  dsimp only
  refine wpAny_bind (wpAny_pure ?_)
  dsimp only
  refine wpAny_bind (wpAny_tryCatch ?_)
  refine wpAny_holding ?_
  refine wpAny_bind (wpAny_pyHash_int ?_)
  have fin : ∀ (s' : Shared), Out X b s Q .none s' → wpAny (model X.prog X.w) A.in1 (ret .none) (fun fin s' => ∃ r, fin = .done (.ret r) ∧ Out X b s Q r s') NoE s' := fun s' q => wpAny_pure ⟨_, rfl, q⟩
  refine wpAny_bind (setFind_idx (X := X) (s := { s with toks := s.toks + 1 }) ho hf (by omega) ?_)
  cases hj : ks.findIdx? fun p => decide (p.1 = k) with
  | none =>
    have hnk : S k = false := by
      cases q : S k with
      | false => rfl
      | true =>
        obtain ⟨p, hp, hpk⟩ := List.mem_map.mp ((hm k).mp q)
        have := List.findIdx?_eq_none_iff.mp hj p hp
        simp [hpk] at this
    have hS : (fun j => S j && !decide (j = k)) = S := by
      funext j
      by_cases hjk : j = k
      · subst hjk; rw [hnk]; rfl
      · simp [hjk]
    rw [hS] at h
    have hr' := hr.change (g' := .set S false) e rfl rfl (Heap.SameBut.refl _ _) ⟨i, fun q => nomatch q⟩
    exact wpAny_pure (fin _ (.mk .none _ .none hr'.1 ⟨.refl _, rfl, rfl⟩ h))
  | some j =>
    obtain ⟨hj1, hj2, _⟩ := List.findIdx?_eq_some_iff_getElem.mp hj
    simp only [decide_eq_true_eq] at hj2
    dsimp only
    have hf' : t.fits (entsOf ks).toArray.size = true := by simpa using hf
    refine wpAny_bind (wpAny_setState_of (s := { s with toks := s.toks + 1 }) ho rfl hf' ?_)
    dsimp only
    have hes : (SetTable.eraseAt (entsOf ks).toArray j) = (entsOf (ks.eraseIdx j)).toArray := by
      apply Array.toList_inj.mp
      rw [eraseAt_list, List.toList_toArray, entsOf, map_eraseIdx']
    rw [hes]
    have hlen : (ks.eraseIdx j).length = ks.length - 1 := by rw [List.length_eraseIdx, if_pos hj1]
    refine wpAny_bind (wpAny_storeSet_of (s := { s with toks := s.toks + 1 }) ho rfl ?_ (by simp only [List.size_toArray, List.length_map, hlen, sizeLine_eq]; omega))
    refine wpAny_bind (wpAny_point ?_)
    refine wpAny_pure (fin _ ?_)
    obtain ⟨P, R, hsplit, hers⟩ : ∃ P R, ks.map (·.1) = P ++ k :: R ∧ (ks.eraseIdx j).map (·.1) = P ++ R := by
      refine ⟨(ks.map (·.1)).take j, (ks.map (·.1)).drop (j + 1), ?_, by rw [← map_eraseIdx', List.eraseIdx_eq_take_drop_succ]⟩
      rw [← hj2]
      conv => lhs; rw [← List.take_append_drop j (ks.map (·.1))]
      rw [List.drop_eq_getElem_cons (by simpa using hj1)]
      simp
    have hn2 := hn
    rw [hsplit, List.nodup_append] at hn2
    obtain ⟨n1, n2, n3⟩ := hn2
    have n4 := List.nodup_cons.mp n2
    have hg : (s.heap.update a (Obj.putSet (entsOf (ks.eraseIdx j)).toArray (t.drop j))).get? a = some ⟨.type "set", none, .set (entsOf (ks.eraseIdx j)).toArray (ep + 1) (t.drop j), #[]⟩ := by
      have := Heap.get?_update_self (Obj.putSet (entsOf (ks.eraseIdx j)).toArray (t.drop j)) ho rfl
      exact this
    have i' : SetI (s.heap.update a (Obj.putSet (entsOf (ks.eraseIdx j)).toArray (t.drop j))) a (fun x => S x && !decide (x = k)) := by
      refine ⟨ks.eraseIdx j, ep + 1, t.drop j, hg, ?_, fun x => ?_, ?_, fun x hx => hsm x ?_⟩
      · rw [hers]
        exact List.nodup_append.mpr ⟨n1, n4.2, fun p hp q hq => n3 p hp q (.tail _ hq)⟩
      · rw [hers, Bool.and_eq_true, hm x, hsplit]
        simp only [List.mem_append, List.mem_cons, Bool.not_eq_true', decide_eq_false_iff_not]
        constructor
        · rintro ⟨h1 | h1 | h1, h2⟩
          · exact .inl h1
          · exact absurd h1 h2
          · exact .inr h1
        · rintro (h1 | h1)
          · exact ⟨.inl h1, fun e => n3 x h1 k (.head _) e⟩
          · exact ⟨.inr (.inr h1), fun e => n4.1 (e ▸ h1)⟩
      · rw [hlen]; exact drop_fits hf hj1
      · rw [hers] at hx
        rw [hsplit]
        rcases List.mem_append.mp hx with q | q
        · exact List.mem_append_left _ q
        · exact List.mem_append_right _ (.tail _ q)
    obtain ⟨r', k'⟩ := hr.change (g' := .set _ false) e rfl rfl (Heap.SameBut.update ..) ⟨i', fun q => nomatch q⟩
    exact .mk .none _ .none r' ⟨k', rfl, rfl⟩ h⟩
end
end
noncomputable section
section
variable {X : Cx} {n : Nat} {sc : Scope}
theorem sizeAbove_ok : ∀ k, k < 200 → (SetTable.sizeAbove k - 1) ∈ masks ∧ k < SetTable.sizeAbove k ∧ SetTable.sizeAbove k ≤ 256 := by decide +kernel
noncomputable abbrev setObj (ks : List (Int × Tok)) (ep : Nat) (t : SetTable) : Obj := ⟨.type "set", none, .set (entsOf ks).toArray ep t, #[]⟩
theorem filter_order {ks : List (Int × Tok)} {order : List Nat} (h : order.Perm (List.range ks.length)) : ∃ ks', order.filterMap (fun i => (entsOf ks)[i]?) = entsOf ks' ∧ ks'.Perm ks := by
  refine ⟨order.filterMap (fun i => ks[i]?), ?_, ?_⟩
  · simp only [entsOf, List.map_filterMap, List.getElem?_map]
  · refine (h.filterMap _).trans ?_
    have := filterMap_getElem?_range ks.toArray
    simp only [List.size_toArray, List.getElem?_toArray] at this
    rw [this]
theorem wpAny_ite_neg {α : Type} {M : Model} {A : Around} {E : Value → Shared → Prop} {s : Shared} {p : Prop} [Decidable p] {a b : Sem α} {Q : α → Shared → Prop} (hp : ¬ p) (h : wpAny M A b Q E s) : wpAny M A (if p then a else b) Q E s := by
  rw [if_neg hp]; exact h
theorem laid_sound {ks : List (Int × Tok)} {mask finger moves : Nat} {led plain : Bool} (hm : mask ∈ masks) (hr : ∀ k ∈ ks.map (·.1), 0 ≤ k ∧ k < 32) (hl : ks.length ≤ mask) :
    ∃ t order ks', SetTable.laid mask finger moves led plain ((entsOf ks).toArray.map (·.1)) = some (t, order) ∧ order.filterMap ((entsOf ks).toArray[·]?) = (entsOf ks').toArray ∧ ks'.Perm ks ∧ t.place.size = ks.length ∧ t.dummies = #[] ∧ t.mask = mask := by
  have hhs : ((entsOf ks).toArray.map (·.1)).toList = ks.map fun k => hashInt k.1 := by simp [entsOf, Function.comp_def]
  have hsz : ((entsOf ks).toArray.map (·.1)).size = ks.length := by simp
  have hr' : ∀ h ∈ ((entsOf ks).toArray.map (·.1)).toList, 0 ≤ h ∧ h < 32 := fun h hh => by
    rw [hhs] at hh
    obtain ⟨p, hp, rfl⟩ := List.mem_map.mp hh
    obtain ⟨h0, h1⟩ := hr p.1 (List.mem_map_of_mem hp)
    have : hashInt p.1 = p.1 := by
      have key : ∀ j : Nat, j < 32 → hashInt (j : Int) = j := by decide +kernel
      have := key p.1.toNat (by omega)
      rwa [Int.toNat_of_nonneg h0] at this
    rw [this]; exact ⟨h0, h1⟩
  obtain ⟨t, order, e1, e2, e3, e4, e5⟩ := laid_ok (finger := finger) (moves := moves) (led := led) (plain := plain) hm hr' (by omega)
  rw [hsz] at e2 e3
  obtain ⟨ks', k1, k2⟩ := filter_order e2
  refine ⟨t, order, ks', e1, ?_, k2, e3, e4, e5⟩
  apply Array.toList_inj.mp
  rw [Array.toList_filterMap, ← k1]
  simp
theorem relay_sound {A : Around} {s : Shared} {E : Value → Shared → Prop} {a : Addr} {ks : List (Int × Tok)} {ep wanted : Nat} {t : SetTable} {Q : Unit → Shared → Prop} (ho : s.heap.get? a = some (setObj ks ep t)) (hf : t.fits ks.length = true)
    (hr : ∀ k ∈ ks.map (·.1), 0 ≤ k ∧ k < 32) (hw : wanted < 200) (hl : ks.length ≤ wanted)
    (h : ∀ h' ks' t', Heap.SameBut a s.heap h' → h'.get? a = some (setObj ks' (ep + 1) t') → ks'.Perm ks → t'.place.size = ks.length → t'.dummies = #[] → t'.mask + 1 = SetTable.sizeAbove wanted → Q () { s with heap := h' }) :
    wpAny (model X.prog X.w) A (setRelay a wanted) Q E s := by
  obtain ⟨hm, h1, h2⟩ := sizeAbove_ok wanted hw
  have hf' : t.fits (entsOf ks).toArray.size = true := by simpa using hf
  unfold setRelay
  refine wpAny_bind (wpAny_setState_of ho rfl hf' ?_)
  dsimp only
  rw [if_neg (by rw [sizeLine_eq]; omega)]
  obtain ⟨t', order, ks', e1, e2, p1, p2, p3, p4⟩ := laid_sound (finger := t.finger) (moves := t.movedTo (SetTable.sizeAbove wanted - 1)) (led := t.led) (plain := t.plain) hm hr (by omega)
  refine wpAny_bind ?_
  rw [show t.relaid ((entsOf ks).toArray.map (·.1)) wanted = some (t', order) from e1]
  refine wpAny_ite_neg (p := ((order.filterMap ((entsOf ks).toArray[·]?)).size != (entsOf ks).toArray.size) = true) (by rw [e2]; simp [p1.length_eq]) (wpAny_pure ?_)
  rw [e2]
  refine wpAny_storeSet_of ho rfl ?_ (by simp only [List.size_toArray, List.length_map, p1.length_eq, sizeLine_eq]; omega)
  exact h _ ks' t' (Heap.SameBut.update ..) (Heap.get?_update_self (Obj.putSet (entsOf ks').toArray t') ho rfl) p1 p2 p3 (by rw [p4]; omega)
theorem get_erase {α : Type} : ∀ {l : List α} {i : Nat} (h : i < l.length), (l[i] :: l.eraseIdx i).Perm l
  | a :: l, 0, _ => .rfl
  | a :: l, i + 1, h => by
    simp only [List.getElem_cons_succ, List.eraseIdx_cons_succ]
    exact (List.Perm.swap _ _ _).trans (List.Perm.cons a (get_erase (l := l) (i := i) (by simpa using h)))
theorem pick_perm {α : Type} (next : Nat → Nat) : ∀ (fuel k : Nat) (left : List α) (out : Array α), left.length = fuel → (pickOrder.go next fuel k left out).toList.Perm (out.toList ++ left)
  | 0, k, left, out, h => by
    have : left = [] := List.length_eq_zero_iff.mp h
    subst this; simp [pickOrder.go]
  | fuel + 1, k, left, out, h => by
    unfold pickOrder.go
    have hlt : next k % left.length < left.length := Nat.mod_lt _ (by omega)
    rw [List.getElem?_eq_getElem hlt]
    dsimp only
    refine (pick_perm next fuel (k + 1) _ _ (by rw [List.length_eraseIdx, if_pos hlt]; omega)).trans ?_
    rw [Array.toList_push, List.append_assoc]
    refine List.Perm.append_left _ ?_
    simp only [List.singleton_append]
    exact get_erase hlt
theorem perm_ents (X : Cx) {ks : List (Int × Tok)} : ∀ {l : List (Int × Value)}, l.Perm (entsOf ks) → ∃ ks', l = entsOf ks' ∧ ks'.Perm ks := by
  intro l h
  obtain ⟨ks', hks⟩ := elems_ents (X := X) ((entsOf_elems ks).perm h)
  subst hks
  refine ⟨ks', rfl, ?_⟩
  have key : ∀ ks : List (Int × Tok), (entsOf ks).map (fun e => match e.2 with | .int k t => (k, t) | _ => (0, 0)) = ks := fun ks => by
    rw [entsOf, List.map_map]
    conv => rhs; rw [← List.map_id ks]
    rfl
  have := h.map (fun e : Int × Value => match e.2 with | .int k t => (k, t) | _ => ((0 : Int), (0 : Tok)))
  rwa [key, key] at this
theorem walk_sound {A : Around} {s : Shared} {E : Value → Shared → Prop} {o : Addr} {ks : List (Int × Tok)} {ep : Nat} {t : SetTable} {Q : Array (Int × Value) → Shared → Prop} (ho : s.heap.get? o = some (setObj ks ep t)) (hf : t.fits ks.length = true)
    (hd : (!t.plain && decide (ks.length > 1)) = false ∨ X.w.params.followText "set-order" = true) (hl : (!t.led && decide (ks.length > 1)) = false ∨ X.w.params.followText "set-order" = true)
    (h : ∀ ks', ks'.Perm ks → Q (entsOf ks').toArray s) : wpAny (model X.prog X.w) A (setWalk o) Q E s := by
  have hf' : t.fits (entsOf ks).toArray.size = true := by simpa using hf
  unfold setWalk
  refine wpAny_bind (wpAny_setState_of ho rfl hf' ?_)
  dsimp only
  unfold setsByText
  refine wpAny_bind (wpAny_bind (wpAny_askSetting (wpAny_pure ?_)))
  dsimp only
  cases hb : X.w.params.followText "set-order" with
  | true =>
    have hb' : (model X.prog X.w).w.params.followText "set-order" = true := hb
    rw [hb', if_pos rfl]
    refine wpAny_bind (wpAny_askSetting (wpAny_pure ?_))
    have hp := pick_perm ((model X.prog X.w).w.params.setOrder o ep) (entsOf ks).toArray.size 0 (entsOf ks) #[] (by simp)
    simp only [List.nil_append] at hp
    obtain ⟨ks', e, p⟩ := perm_ents X hp
    have e2 : pickOrder ((model X.prog X.w).w.params.setOrder o ep) (entsOf ks).toArray = (entsOf ks').toArray := by
      apply Array.toList_inj.mp
      rw [← e]; rfl
    show Q (pickOrder ((model X.prog X.w).w.params.setOrder o ep) (entsOf ks).toArray) s
    rw [e2]; exact h ks' p
  | false =>
    have hb' : (model X.prog X.w).w.params.followText "set-order" = false := hb
    rw [hb', if_neg (by decide)]
    rw [hb] at hd hl
    simp only [Bool.false_eq_true, or_false] at hd hl
    have q1 : (!t.plain && decide ((entsOf ks).toArray.size > 1)) = false := by simpa using hd
    have q2 : (!t.led && decide ((entsOf ks).toArray.size > 1)) = false := by simpa using hl
    split
    · rename_i q; exact absurd (q1.symm.trans q) (by decide)
    · refine wpAny_bind (wpAny_ite_neg (p := (!t.led && decide ((entsOf ks).toArray.size > 1)) = true) (by rw [q2]; decide) (wpAny_pure (wpAny_pure (h ks .rfl))))
theorem setsQuiet_sound {A : Around} {s : Shared} {E : Value → Shared → Prop} {sets : List Addr} {Q : Bool → Shared → Prop} (hs : ∀ a ∈ sets, ∃ ks ep t, s.heap.get? a = some (setObj ks ep t) ∧ t.fits ks.length = true) (h : Q true s) :
    wpAny (model X.prog X.w) A (setsQuiet sets) Q E s := by
  unfold setsQuiet
  refine wpAny_bind (wpAny_forIn_list _ (fun rest b s' => s' = s ∧ b = (none, ()) ∧ ∀ a ∈ rest, a ∈ sets) _ ?_ ?_ _ _ ⟨rfl, rfl, fun _ h => h⟩)
  · rintro a rest b s' ⟨rfl, rfl, hin⟩
    obtain ⟨ks, ep, t, ho, hf⟩ := hs a (hin a (.head _))
    have hf' : t.fits (entsOf ks).toArray.size = true := by simpa using hf
    refine wpAny_bind (wpAny_setEntries_of ho rfl hf' ?_)
    refine wpAny_bind ?_
    rw [← Array.forIn_toList]
    refine wpAny_forIn_list _ (fun rest b s' => s' = s' ∧ s' = s' ∧ b = (none, ()) ∧ (∀ e ∈ rest, e ∈ entsOf ks) ∧ s' = _) _ ?_ ?_ _ _ ⟨rfl, rfl, rfl, fun _ h => by simpa using h, rfl⟩
    · rintro ⟨e1, e2⟩ rest b s' ⟨_, _, rfl, hin, rfl⟩
      have := hin _ (.head _)
      simp only [entsOf, List.mem_map] at this
      obtain ⟨k, _, hk⟩ := this
      cases hk
      exact wpAny_pure ⟨rfl, rfl, rfl, fun e he => hin e (.tail _ he), rfl⟩
    · rintro b s' ⟨_, _, rfl, _, rfl⟩
      exact wpAny_pure ⟨rfl, rfl, fun a ha => hin a (.tail _ ha)⟩
  · rintro b s' ⟨rfl, rfl, _⟩
    exact wpAny_pure h
theorem walkUnseen_sound {A : Around} {s : Shared} {E : Value → Shared → Prop} {o a : Addr} {ko ka : List (Int × Tok)} {eo ea : Nat} {to ta : SetTable} {Q : Array (Int × Value) → Shared → Prop} (hne : a ≠ o)
    (ho : s.heap.get? o = some (setObj ko eo to)) (hfo : to.fits ko.length = true) (ha : s.heap.get? a = some (setObj ka ea ta)) (hfa : ta.fits ka.length = true) (hlen : ka.length ≤ 40)
    (h : ∀ ks' h' ea' ta', ks'.Perm ko → Heap.SameBut a s.heap h' → h'.get? a = some (setObj ka ea' ta') → ta'.fits ka.length = true → Q (entsOf ks').toArray { s with heap := h' }) :
    wpAny (model X.prog X.w) A (setWalkUnseen o [a] (some a)) Q E s := by
  have hfo' : to.fits (entsOf ko).toArray.size = true := by simpa using hfo
  have hfa' : ta.fits (entsOf ka).toArray.size = true := by simpa using hfa
  have walkIt : ((!to.plain && decide (ko.length > 1)) = false ∨ X.w.params.followText "set-order" = true) → ((!to.led && decide (ko.length > 1)) = false ∨ X.w.params.followText "set-order" = true) → wpAny (model X.prog X.w) A (setWalk o) Q E s :=
    fun h1 h2 => walk_sound ho hfo h1 h2 fun ks' p => h ks' s.heap ea ta p (.refl _ _) ha hfa
  unfold setWalkUnseen setsByText
  refine wpAny_bind (wpAny_setState_of ho rfl hfo' ?_)
  dsimp only
  refine wpAny_bind (wpAny_bind (wpAny_askSetting (wpAny_pure ?_)))
  have hB : (model X.prog X.w).w.params.followText "set-order" = X.w.params.followText "set-order" := rfl
  rw [hB]
  by_cases hc : (X.w.params.followText "set-order" || (to.led && to.plain) || decide ((entsOf ko).toArray.size ≤ 1)) = true
  · rw [if_pos hc]
    refine walkIt ?_ ?_
    · simp only [Bool.or_eq_true, Bool.and_eq_true, decide_eq_true_eq, List.size_toArray, List.length_map] at hc
      rcases hc with (hc | hc) | hc
      · exact .inr hc
      · left; rw [hc.2]; rfl
      · left; rw [decide_eq_false (by omega), Bool.and_false]
    · simp only [Bool.or_eq_true, Bool.and_eq_true, decide_eq_true_eq, List.size_toArray, List.length_map] at hc
      rcases hc with (hc | hc) | hc
      · exact .inr hc
      · left; rw [hc.1]; rfl
      · left; rw [decide_eq_false (by omega), Bool.and_false]
  · rw [if_neg hc]
    refine wpAny_bind (setsQuiet_sound (fun x hx => ?_) ?_)
    · rcases List.mem_cons.mp hx with rfl | hx
      · exact ⟨ko, eo, to, ho, hfo⟩
      · rw [List.mem_singleton] at hx; subst hx; exact ⟨ka, ea, ta, ha, hfa⟩
    · rw [if_neg (by decide)]
      refine wpAny_bind (wpAny_rule ?_)
      refine wpAny_bind (wpAny_setState_of ha rfl hfa' ?_)
      dsimp only
      split
      · refine wpAny_bind (wpAny_storeSet_of ha rfl ?_ (by simp only [List.size_toArray, List.length_map, sizeLine_eq]; omega))
        refine wpAny_pure ?_
        exact h ko _ _ _ .rfl (Heap.SameBut.update ..) (Heap.get?_update_self (Obj.putSet _ _) ha rfl) hfa
      · exact wpAny_pure (h ko s.heap ea ta .rfl (.refl _ _) ha hfa)
theorem SetI.of_obj {h : Heap} {a : Addr} {ks : List (Int × Tok)} {ep : Nat} {t : SetTable} {S : Int → Bool} (ho : h.get? a = some (setObj ks ep t)) (hn : (ks.map (·.1)).Nodup) (hm : ∀ k, S k = true ↔ k ∈ ks.map (·.1)) (hf : t.fits ks.length = true) (hr : ∀ k, S k = true → 0 ≤ k ∧ k < 32) : SetI h a S :=
  ⟨ks, ep, t, ho, hn, hm, hf, fun k hk => hr k ((hm k).mpr hk)⟩
noncomputable def isFresh (h : Heap) (a : Addr) : Prop := ∃ led, h.get? a = some ⟨.type "set", none, .set #[] 0 (.fresh 0 0 led), #[]⟩
theorem merge_sound {A : Around} {s : Shared} {E : Value → Shared → Prop} {a o : Addr} {S T : Int → Bool} {nm : String} {Q : Unit → Shared → Prop} (ia : SetI s.heap a S) (io : SetI s.heap o T) (hne : a ≠ o) (hfr : isFresh s.heap a ∨ ∃ k, S k = true)
    (h : ∀ h', Heap.SameBut a s.heap h' → SetI h' a (fun j => S j || T j) → (isFresh h' a ∨ ∃ k, S k = true ∨ T k = true) → Q () { s with heap := h' }) :
    wpAny (model X.prog X.w) A (Builtin.Frozenset.merge nm a o) Q E s := by
  obtain ⟨ka, ea, ta, hoa, hna, hma, hfa, hra⟩ := id ia
  obtain ⟨ko, eo, to, hoo, hno, hmo, hfo, hro⟩ := id io
  have hla := few 32 _ hna hra
  have hlo := few 32 _ hno hro
  rw [List.length_map] at hla hlo
  have hfo' : to.fits (entsOf ko).toArray.size = true := by simpa using hfo
  have hfa' : ta.fits (entsOf ka).toArray.size = true := by simpa using hfa
  have hfo'' := hfo
  simp only [SetTable.fits, Bool.and_eq_true, beq_iff_eq, decide_eq_true_eq] at hfo''
  have hfa'' := hfa
  simp only [SetTable.fits, Bool.and_eq_true, beq_iff_eq, decide_eq_true_eq] at hfa''
  have hrU : ∀ k, (S k || T k) = true → 0 ≤ k ∧ k < 32 := fun k hk => by
    rcases Bool.or_eq_true_iff.mp hk with q | q
    · exact ia.small k q
    · exact io.small k q
  unfold Builtin.Frozenset.merge
  refine wpAny_bind (wpAny_setEpoch_of hoo rfl hfo' ?_)
  unfold setMerge
  refine wpAny_ite_neg (by simpa using hne) ?_
  refine wpAny_bind (wpAny_setState_of hoo rfl hfo' ?_)
  dsimp only
  by_cases hemp : ko = []
  · subst hemp
    have hT : (fun j => S j || T j) = S := by
      funext j
      have : T j = false := by
        cases q : T j with
        | false => rfl
        | true => have := (hmo j).mp q; cases this
      rw [this, Bool.or_false]
    rw [if_pos (by rfl)]
    have := h s.heap (.refl _ _) (by rw [hT]; exact ia) (hfr.imp (fun x => x) fun ⟨k, hk⟩ => ⟨k, .inl hk⟩)
    exact wpAny_pure this
  · rw [if_neg (by cases ko with | nil => exact (hemp rfl).elim | cons a r => simp)]
    have hpos : 0 < ko.length := List.length_pos_iff.mpr hemp
    have hTne : ∃ k, S k = true ∨ T k = true := by
      cases ko with
      | nil => exact (hemp rfl).elim
      | cons p r => exact ⟨p.1, .inr ((hmo _).mpr (by simp))⟩
    have key : ∀ (s₁ : Shared) (ka₁ : List (Int × Tok)) (ea₁ : Nat) (ta₁ : SetTable), s₁ = { s with heap := s₁.heap } → Heap.SameBut a s.heap s₁.heap → s₁.heap.get? a = some (setObj ka₁ ea₁ ta₁) → ka₁.Perm ka → ta₁.fits ka₁.length = true →
        (ta₁.fill = 0 → ta₁.mask ∈ masks ∧ ko.length ≤ ta₁.mask) →
        wpAny (model X.prog X.w) A (do
          let (_, _, ts) ← setState a
          match ts.road to with
          | .slotForSlot => storeSet a (entsOf ko).toArray { to with finger := ts.finger, led := ts.led && to.led, moves := ts.moves, plain := ts.plain && to.plain }
          | .clean =>
            let (es, t) ← (do
              let some (t, order) := SetTable.laid ts.mask ts.finger ts.moves (led := ts.led && to.led) (plain := ts.plain && to.plain) ((entsOf ko).toArray.map (·.1)) | unsupported "internal:set-table-without-room"
              let es' := order.filterMap ((entsOf ko).toArray[·]?)
              if es'.size != (entsOf ko).toArray.size then unsupported "internal:set-table-lost-an-element"
              pure (es', t))
            storeSet a es t
          | .oneByOne =>
            for (h, x) in ← setWalkUnseen o [a] (some a) do
              let _ ← holding [x] (setAddHashed a x h)
              Builtin.Frozenset.unchanged nm o eo
              if (← setState o).2.1 != eo then unsupported "set.changed-during-merge") Q E s₁ := by
      intro s₁ ka₁ ea₁ ta₁ hs₁ sb₁ ho₁ p₁ hf₁ hz₁
      have hf₁' : ta₁.fits (entsOf ka₁).toArray.size = true := by simpa using hf₁
      have hoo₁ : s₁.heap.get? o = some (setObj ko eo to) := (sb₁.2 o (Ne.symm hne)).trans hoo
      refine wpAny_bind (wpAny_setState_of ho₁ rfl hf₁' ?_)
      dsimp only
      have storeEnd : ∀ (ks' : List (Int × Tok)) (t' : SetTable), ks'.Perm ko → t'.fits ks'.length = true → ka₁ = [] → wpAny (model X.prog X.w) A (storeSet a (entsOf ks').toArray t') Q E s₁ := fun ks' t' p' hf' hk' => by
        subst hk'
        have hka : ka = [] := p₁.symm.eq_nil
        refine wpAny_storeSet_of ho₁ rfl ?_ (by simp only [List.size_toArray, List.length_map, p'.length_eq, sizeLine_eq]; omega)
        have hg := Heap.get?_update_self (Obj.putSet (entsOf ks').toArray t') ho₁ rfl
        rw [hs₁]
        refine h _ (sb₁.trans (Heap.SameBut.update ..)) (SetI.of_obj (ks := ks') (ep := ea₁ + 1) (t := t') hg ?_ (fun k => ?_) hf' hrU) (.inr hTne)
        · exact ((p'.map _).nodup_iff).mpr hno
        · rw [(p'.map _).mem_iff, Bool.or_eq_true, hma k, hka, hmo k]
          simp
      unfold SetTable.road
      by_cases hfill : ta₁.fill = 0
      · have hk0 : ka₁ = [] := by
          have h1 := hf₁
          simp only [SetTable.fits, Bool.and_eq_true, beq_iff_eq, decide_eq_true_eq] at h1
          have h2 : ta₁.place.size ≤ ta₁.fill := Nat.le_add_right _ _
          exact List.length_eq_zero_iff.mp (by omega)
        rw [if_neg (by simpa using hfill)]
        obtain ⟨hm, hle⟩ := hz₁ hfill
        split
        · rename_i q
          split at q
          · exact storeEnd ko _ .rfl hfo hk0
          · cases q
        · rename_i q
          obtain ⟨t', order, ks', e1, e2, p1, p2, p3, p4⟩ := laid_sound (finger := ta₁.finger) (moves := ta₁.moves) (led := ta₁.led && to.led) (plain := ta₁.plain && to.plain) hm hro hle
          rw [e1]
          dsimp only
          refine wpAny_bind (wpAny_ite_neg (by rw [e2]; simp [p1.length_eq]) (wpAny_pure ?_))
          dsimp only
          rw [e2]
          refine storeEnd ks' t' p1 ?_ hk0
          simp only [SetTable.fits, Bool.and_eq_true, beq_iff_eq, decide_eq_true_eq]
          refine ⟨by rw [p2, p1.length_eq], ?_⟩
          simp only [SetTable.fill, p2, p3, p4]
          simpa using hle
        · rename_i q; split at q <;> cases q
      · rw [if_pos (by simpa using hfill)]
        dsimp only
        refine wpAny_bind (walkUnseen_sound hne hoo₁ hfo ho₁ hf₁ (by rw [p₁.length_eq]; omega) fun ks' h₂ ea₂ ta₂ p' sb₂ ho₂ hf₂ => ?_)
        have i₂ : SetI h₂ a S := SetI.of_obj ho₂ (((p₁.map _).nodup_iff).mpr hna) (fun k => by rw [hma k, (p₁.map _).mem_iff]) hf₂ ia.small
        rw [← Array.forIn_toList]
        refine wpAny_bind ?_
        refine wpAny_forIn_list _ (fun rest b s' => ∃ h' Si rs, s' = { s with heap := h' } ∧ Heap.SameBut a s.heap h' ∧ SetI h' a Si ∧ rest = entsOf rs ∧ (∀ p ∈ rs, p.1 ∈ ko.map (·.1)) ∧ (∀ j, S j = true → Si j = true) ∧ (∀ j, Si j = true → S j = true ∨ T j = true) ∧ (∀ j, T j = true → Si j = true ∨ j ∈ rs.map (·.1))) _ ?_ ?_ _ _ ?_
        · rintro ⟨e1, e2⟩ rest b s' ⟨h', Si, rs, rfl, sb', i', hrs, hin, a1, a2, a3⟩
          cases rs with
          | nil => cases hrs
          | cons p rs =>
            simp only [entsOf, List.map_cons, List.cons.injEq, Prod.mk.injEq] at hrs
            obtain ⟨⟨rfl, rfl⟩, rfl⟩ := hrs
            have hpT : T p.1 = true := (hmo p.1).mpr (hin p (.head _))
            have hsm := io.small p.1 hpT
            have hoo' : h'.get? o = some (setObj ko eo to) := (sb'.2 o (Ne.symm hne)).trans hoo
            refine wpAny_bind (wpAny_holding (setAddHashed_sound (X := X) (s := { s with heap := h' }) i' hsm fun h'' sb'' i'' => ?_))
            have hoo'' : h''.get? o = some (setObj ko eo to) := (sb''.2 o (Ne.symm hne)).trans hoo'
            refine wpAny_bind ?_
            unfold Builtin.Frozenset.unchanged
            refine wpAny_bind (wpAny_setEpoch_of (s := { s with heap := h'' }) hoo'' rfl hfo' ?_)
            refine wpAny_ite_neg (by simp) (wpAny_pure ?_)
            refine wpAny_bind (wpAny_setState_of (s := { s with heap := h'' }) hoo'' rfl hfo' ?_)
            refine wpAny_ite_neg (by simp) (wpAny_pure ?_)
            refine ⟨h'', _, rs, rfl, sb'.trans sb'', i'', rfl, fun q hq => hin q (.tail _ hq), fun j hj => by rw [a1 j hj]; rfl, fun j hj => ?_, fun j hj => ?_⟩
            · rcases Bool.or_eq_true_iff.mp hj with q | q
              · exact a2 j q
              · rw [decide_eq_true_eq] at q; subst q; exact .inr hpT
            · rcases a3 j hj with q | q
              · left; rw [q]; rfl
              · rw [List.map_cons, List.mem_cons] at q
                rcases q with rfl | q
                · left; simp
                · exact .inr q
        · rintro b s' ⟨h', Si, rs, rfl, sb', i', hrs, hin, a1, a2, a3⟩
          have hrs0 : rs = [] := by cases rs with | nil => rfl | cons p r => cases hrs
          subst hrs0
          have hSi : Si = fun j => S j || T j := by
            funext j
            have : Si j = true ↔ (S j || T j) = true := by
              rw [Bool.or_eq_true]
              exact ⟨a2 j, fun q => q.elim (a1 j) fun q => (a3 j q).elim (fun x => x) fun z => by cases z⟩
            exact Bool.eq_iff_iff.mpr this
          rw [hSi] at i'
          exact wpAny_pure (h h' sb' i' (.inr hTne))
        · refine ⟨h₂, S, ks', ?_, sb₁.trans sb₂, i₂, rfl, fun p hp => by rw [← (p'.map (·.1)).mem_iff]; exact List.mem_map_of_mem hp, fun _ h => h, fun _ h => .inl h, fun j hj => .inr ?_⟩
          · rw [hs₁]
          · rw [(p'.map _).mem_iff]; exact (hmo j).mp hj
    refine wpAny_bind ?_
    unfold setRoomFor
    refine wpAny_bind (wpAny_setState_of hoa rfl hfa' ?_)
    have noRoom : ∀ (ta : SetTable), (ta.fill = 0 → ta = SetTable.fresh 0 0 ta.led) → ta.roomFor ko.length = none → ta.fill = 0 → ta.mask ∈ masks ∧ ko.length ≤ ta.mask := by
      intro ta hta hn hz
      have e := hta hz
      rw [e] at hn ⊢
      simp only [SetTable.roomFor, SetTable.fresh, SetTable.fill] at hn ⊢
      simp only [List.size_toArray, List.length_nil] at hn
      split at hn
      · cases hn
      · exact ⟨by decide, by omega⟩
    have hfresh : ta.fill = 0 → ta = SetTable.fresh 0 0 ta.led := fun hz => by
      rcases hfr with ⟨led, e⟩ | ⟨k, hk⟩
      · rw [hoa] at e; injection e with e; injection e with _ _ e _; injection e with _ _ e; rw [e]; rfl
      · exfalso
        have h1 : k ∈ ka.map (·.1) := (hma k).mp hk
        have h2 : 0 < ka.length := by cases ka with | nil => cases h1 | cons _ _ => simp
        have h3 : ta.place.size ≤ ta.fill := Nat.le_add_right _ _
        omega
    have hkoe : (entsOf ko).toArray.size = ko.length := by simp
    cases hroom : ta.roomFor (entsOf ko).toArray.size with
    | none =>
      refine wpAny_pure ?_
      exact key s ka ea ta rfl (.refl _ _) hoa .rfl hfa (noRoom ta hfresh (by rw [← hkoe]; exact hroom))
    | some wanted =>
      have hw : wanted = (ta.place.size + ko.length) * 2 := by
        rw [hkoe] at hroom
        unfold SetTable.roomFor at hroom
        split at hroom
        · injection hroom with e; exact e.symm
        · cases hroom
      refine relay_sound (X := X) hoa hfa hra (by omega) (by omega) fun h' ks' t' sb' ho' p' q1 q2 q3 => ?_
      obtain ⟨m1, m2, m3⟩ := sizeAbove_ok wanted (by omega)
      refine key { s with heap := h' } ks' (ea + 1) t' rfl sb' ho' p' ?_ fun _ => ⟨?_, by omega⟩
      · simp only [SetTable.fits, Bool.and_eq_true, beq_iff_eq, decide_eq_true_eq]
        refine ⟨by rw [q1, p'.length_eq], ?_⟩
        simp only [SetTable.fill, q1, q2]
        simp only [List.size_toArray, List.length_nil]
        omega
      · have : t'.mask = SetTable.sizeAbove wanted - 1 := by omega
        rw [this]; exact m1
end
end
noncomputable section
theorem sub_set_frozen : isSubtype (.type "set") (.type "frozenset") = pure false := by rw [isSubtype_type]; kernel_rfl
theorem entry_set_ne : entryFor table "set.__ne__" = some Builtin.«frozenset.__ne__» :=
  entryFor_alias (id' := "frozenset.__ne__") (by rw [fastTable_eq_tree]; kernel_rfl) (by kernel_rfl) (by kernel_rfl) (by rw [fastTable_eq_tree]; kernel_rfl)
theorem fills_set_ior : fillsInplaceSlot (.type "set") "or" false = pure true := by
  unfold fillsInplaceSlot
  show (typeLookup (.type "set") (dunderI "or") >>= fun fi => pure (fi.isSome && !isSeqSlot fi)) = pure true
  rw [F.slot_set_ior.lookup]
  show pure (f := Sem) ((some (Value.builtin "set.__ior__")).isSome && !isSeqSlot (some (.builtin "set.__ior__"))) = pure true
  rw [show ((some (Value.builtin "set.__ior__")).isSome && !isSeqSlot (some (.builtin "set.__ior__"))) = true by decide +kernel]
section
variable {X : Cx} {n : Nat} {sc : Scope}
theorem isAnySet_set {A : Around} {E : Value → Shared → Prop} {s : Shared} {x : Value} {Q : Bool → Shared → Prop} (hT : s.TypeIs x "set") (h : Q true s) : wpAny (model X.prog X.w) A (Builtin.Frozenset.isAnySet x) Q E s := by
  unfold Builtin.Frozenset.isAnySet
  refine wpAny_bind (m := isInstance x (.type "set")) (wpAny_isInstance hT sub_set_self ?_)
  exact wpAny_pure h
theorem Op2.ior {G : Gh} {Q : QE} {a o : Addr} {S T : Int → Bool} {f g : Bool} (e1 : G a = some (.set S f)) (e2 : G o = some (.set T g)) (hne : a ≠ o) (hfr : f = true ∨ ∃ k, S k = true)
    (hq : ∀ f', (f' = true ∨ ∃ k, S k = true ∨ T k = true) → Q (.ref a) (G.upd a (.set (fun j => S j || T j) f'))) : Op2 X n (inplaceOp .BitOr) (.ref a) (.ref o) G Q := ⟨fun {A b s x y} hA hb hr hv hw => by
  rw [hv.ref_inv, hw.ref_inv]
  obtain ⟨iS, fS, _, ha, hca⟩ := own_set hr e1
  obtain ⟨iT, _, _, ho, hco⟩ := own_set hr e2
  have hTa : s.TypeIs (.ref a) "set" := ⟨_, ha, hca⟩
  have hTo : s.TypeIs (.ref o) "set" := ⟨_, ho, hco⟩
  unfold inplaceOp
  refine wpAny_holding ?_
  refine wpAny_bind (wpAny_typeOf hTa ?_)
  refine wpAny_bind (wpAny_of_eq fills_set_ior ?_)
  rw [if_pos rfl]
  refine wpAny_bind (wpAny_tryMethod_slot hTa F.slot_set_ior (wpAny_call_entry F.slot_set_ior hTa F.entry_set_ior ?_ (F.args_set_ior_2 _ _)))
  unfold Builtin.«set.__ior__»
  refine wpAny_bind (wpAny_pure ?_)
  refine wpAny_bind (isAnySet_set (X := X) hTo ?_)
  refine wpAny_ite_neg (by decide) ?_
  refine wpAny_bind (wpAny_pure ?_)
  refine wpAny_bind ?_
  unfold Builtin.Frozenset.updateFrom
  refine wpAny_bind (isAnySet_set (X := X) hTo ?_)
  rw [if_pos rfl]
  refine wpAny_bind (wpAny_pure ?_)
  refine merge_sound (X := X) iS iT hne (hfr.imp (fun q => fS q) fun q => q) fun h' sb i' hfr' => ?_
  refine wpAny_pure ⟨_, rfl, by simp, wpAny_bind (wpAny_rule (wpAny_pure ?_))⟩
  have fin : ∀ f', (f' = true → isFresh h' a) → (f' = true ∨ ∃ k, S k = true ∨ T k = true) → Out X b s Q (.ref a) { s with heap := h' } := fun f' h1 h2 => by
    obtain ⟨r', k'⟩ := hr.change (g' := .set (fun j => S j || T j) f') e1 rfl rfl sb ⟨i', h1⟩
    exact .mk (.ref _) _ (.ref _) r' ⟨k', rfl, rfl⟩ (hq f' h2)
  by_cases hf : isFresh h' a
  · exact fin true (fun _ => hf) (.inl rfl)
  · exact fin false (fun q => nomatch q) (.inr (hfr'.resolve_left hf))⟩
theorem newSet_out {b : Bs} {G : Gh} {s : Shared} {Q : QE} {led : Bool} (hb : Base X b) (hr : Rep X b G s.heap) (h : ∀ a, G a = none → Q (.ref a) (G.upd a (.set (fun _ => false) true))) :
    Out X b s Q (.ref s.heap.objs.size) { s with heap := s.heap.push { cls := .type "set", dict := none, data := .set #[] 0 (.fresh 0 0 led) } } := by
  have kp : ∀ a o, s.heap.get? a = some o → (s.heap.push { cls := .type "set", dict := none, data := .set #[] 0 (.fresh 0 0 led) }).get? a = some o := fun a o e => Heap.get?_push_of_some _ e
  have hn := get_none (h := s.heap) (Nat.le_refl _)
  have hg := Heap.get?_push_size s.heap (o := { cls := .type "set", dict := none, data := .set #[] 0 (.fresh 0 0 led) }) rfl
  exact .mk (.ref _) _ (.ref _) (hr.alloc (g := .set (fun _ => false) true) kp hn (hlow hb hr) ⟨⟨[], 0, _, hg, .nil, fun k => ⟨fun q => (nomatch q), fun q => (nomatch q)⟩, rfl, fun k hk => (nomatch hk)⟩, fun _ => ⟨led, hg⟩⟩ rfl) ⟨.of_keep kp, rfl, rfl⟩ (h _ (hr.noG hn))
theorem Blt.set0 {G : Gh} {Q : QE} (h : ∀ a, G a = none → Q (.ref a) (G.upd a (.set (fun _ => false) true))) : Blt X n (.type "set") [] G Q := ⟨fun hA hb hr hv => by
  rw [hv.nil_inv]; exact call_set_0 fun led => newSet_out hb hr h⟩
theorem subsetOf_sound {A : Around} {s : Shared} {E : Value → Shared → Prop} {nm : String} {a o : Addr} {S T : Int → Bool} {Q : Bool → Shared → Prop} (ia : SetI s.heap a S) (io : SetI s.heap o T)
    (h : ∀ r : Bool, (∀ ks : List Int, ks.Nodup → (∀ k, S k = true ↔ k ∈ ks) → ∀ ls : List Int, ls.Nodup → (∀ k, T k = true ↔ k ∈ ls) → (r = true ↔ (ks.length ≤ ls.length ∧ ∀ k, S k = true → T k = true))) → Q r s) :
    wpAny (model X.prog X.w) A (Builtin.Frozenset.subsetOf nm a o) Q E s := by
  obtain ⟨ka, ea, ta, hoa, hna, hma, hfa, hra⟩ := id ia
  obtain ⟨ko, eo, to, hoo, hno, hmo, hfo, hro⟩ := id io
  have hfo' : to.fits (entsOf ko).toArray.size = true := by simpa using hfo
  have hfa' : ta.fits (entsOf ka).toArray.size = true := by simpa using hfa
  have lens : ∀ (ks ls : List Int), ks.Nodup → ls.Nodup → (∀ k, k ∈ ks ↔ k ∈ ls) → ks.length = ls.length := fun ks ls h1 h2 h3 =>
    Nat.le_antisymm (nodup_sub_len h1 fun x hx => (h3 x).mp hx) (nodup_sub_len h2 fun x hx => (h3 x).mpr hx)
  have fin : ∀ r : Bool, (r = true ↔ (ka.length ≤ ko.length ∧ ∀ k, S k = true → T k = true)) → Q r s := fun r hr => h r fun ks h1 h2 ls h3 h4 => by
    rw [hr, lens ks (ka.map (·.1)) h1 hna fun k => (h2 k).symm.trans (hma k), lens ls (ko.map (·.1)) h3 hno fun k => (h4 k).symm.trans (hmo k), List.length_map, List.length_map]
  unfold Builtin.Frozenset.subsetOf Builtin.Frozenset.sizeOf
  refine wpAny_bind (wpAny_bind (wpAny_setEntries_of hoa rfl hfa' (wpAny_pure (wpAny_bind (wpAny_bind (wpAny_setEntries_of hoo rfl hfo' (wpAny_pure ?_)))))))
  by_cases hgt : (entsOf ka).toArray.size > (entsOf ko).toArray.size
  · rw [if_pos hgt]
    simp only [List.size_toArray, List.length_map] at hgt
    exact wpAny_pure (fin false (by simp; omega))
  · rw [if_neg hgt]
    simp only [List.size_toArray, List.length_map] at hgt
    refine wpAny_bind (wpAny_setEpoch_of hoa rfl hfa' ?_)
    unfold Builtin.Frozenset.walkUnseen
    refine wpAny_bind ?_
    refine wpAny_bind (wpAny_setEntries_of hoa rfl hfa' ?_)
    refine wpAny_bind (wpAny_setEntries_of hoo rfl hfo' ?_)
    refine wpAny_bind (wpAny_forIn_list _ (fun rest b s' => b = (none, ()) ∧ s = s' ∧ ∀ e ∈ rest, e ∈ entsOf (ka ++ ko)) _ ?_ ?_ _ _ ⟨rfl, rfl, fun e he => by simpa [entsOf] using he⟩)
    · rintro ⟨e1, e2⟩ rest b s' ⟨rfl, rfl, hin⟩
      have := hin _ (.head _)
      simp only [entsOf, List.mem_map] at this
      obtain ⟨k, _, hk⟩ := this
      cases hk
      refine wpAny_bind (wpAny_pure ?_)
      refine wpAny_ite_neg (by simp) ?_
      exact wpAny_pure ⟨rfl, rfl, fun e he => hin e (.tail _ he)⟩
    · rintro b s' ⟨rfl, rfl, _⟩
      refine wpAny_pure ?_
      rw [List.toList_toArray]
      refine wpAny_bind (wpAny_mono (wpAny_forIn_list _ (fun rest b s' => b = (none, ()) ∧ s = s' ∧ ∃ rs, rest = entsOf rs ∧ (∀ p ∈ rs, S p.1 = true) ∧ (∀ k, S k = true → T k = true ∨ k ∈ rs.map (·.1)))
        (fun b s' => s = s' ∧ (b = (none, ()) ∧ (∀ k, S k = true → T k = true) ∨ b = (some false, ()) ∧ ∃ k, S k = true ∧ T k = false)) ?_ ?_ _ _ ⟨rfl, rfl, ka, rfl, fun p hp => (hma _).mpr (List.mem_map_of_mem hp), fun k hk => .inr ((hma k).mp hk)⟩) ?_ fun _ _ x => x)
      · rintro ⟨e1, e2⟩ rest b s' ⟨rfl, rfl, rs, hrs, hin, hcov⟩
        cases rs with
        | nil => cases hrs
        | cons p rs =>
          simp only [entsOf, List.map_cons, List.cons.injEq, Prod.mk.injEq] at hrs
          obtain ⟨⟨rfl, rfl⟩, rfl⟩ := hrs
          obtain ⟨_, _, _, _, hS'⟩ := SetI.parts (X := X) io
          refine wpAny_bind (wpAny_holding (wpAny_setFind_of (knd := intKind X.prog X.w) (k := p.1) (intKind_is _ _ _ _) rfl hS' fun r hr => ?_))
          cases hT : T p.1 with
          | false =>
            rw [hT] at hr
            have : r = none := by cases r with | none => rfl | some _ => cases hr
            subst this
            exact wpAny_pure ⟨rfl, .inr ⟨rfl, p.1, hin p (.head _), hT⟩⟩
          | true =>
            rw [hT] at hr
            obtain ⟨j, rfl⟩ : ∃ j, r = some j := by cases r with | none => cases hr | some j => exact ⟨j, rfl⟩
            refine wpAny_ite_neg (by simp) ?_
            refine wpAny_bind ?_
            unfold Builtin.Frozenset.unchanged
            refine wpAny_bind (wpAny_setEpoch_of hoa rfl hfa' ?_)
            refine wpAny_ite_neg (by simp) (wpAny_pure (wpAny_pure ?_))
            refine ⟨rfl, rfl, rs, rfl, fun q hq => hin q (.tail _ hq), fun k hk => ?_⟩
            rcases hcov k hk with q | q
            · exact .inl q
            · rw [List.map_cons, List.mem_cons] at q
              rcases q with rfl | q
              · exact .inl hT
              · exact .inr q
      · rintro b s' ⟨rfl, rfl, rs, hrs, hin, hcov⟩
        have hrs0 : rs = [] := by cases rs with | nil => rfl | cons p r => cases hrs
        subst hrs0
        exact ⟨rfl, .inl ⟨rfl, fun k hk => (hcov k hk).resolve_right (by simp)⟩⟩
      · rintro b s' ⟨rfl, ⟨rfl, hall⟩ | ⟨rfl, k, hk, hkT⟩⟩
        · exact wpAny_pure (fin true (by simp only [true_iff]; exact ⟨by omega, hall⟩))
        · exact wpAny_pure (fin false (by simp only [Bool.false_eq_true, false_iff, not_and]; intro _ h'; rw [h' k hk] at hkT; cases hkT))
theorem Op2.neSet {G : Gh} {Q : QE} {p q : Addr} {S T : Int → Bool} {f g : Bool} (e1 : G p = some (.set S f)) (e2 : G q = some (.set T g)) (hne : p ≠ q) (h : ∀ r : Bool, (r = true ↔ ∀ k, S k = T k) → Q (.bool (!r)) G) :
    Op2 X n (compareOp .NotEq) (.ref p) (.ref q) G Q := ⟨fun {A b s x y} hA hb hr hv hw => by
  rw [hv.ref_inv, hw.ref_inv]
  obtain ⟨iS, _⟩ := (hr.own _ _ e1).2
  obtain ⟨iT, _⟩ := (hr.own _ _ e2).2
  obtain ⟨ka, ea, ta, hoa, hna, hma, hfa, hra⟩ := id iS
  obtain ⟨ko, eo, to, hoo, hno, hmo, hfo, hro⟩ := id iT
  have hfo' : to.fits (entsOf ko).toArray.size = true := by simpa using hfo
  have hfa' : ta.fits (entsOf ka).toArray.size = true := by simpa using hfa
  have hTa : s.TypeIs (.ref p) "set" := ⟨_, hoa, rfl⟩
  have hTo : s.TypeIs (.ref q) "set" := ⟨_, hoo, rfl⟩
  show wpAny _ _ (richCompare .NotEq _ _) _ _ _
  refine wpAny_richCompare_same_room (op := .NotEq) (T := "set") hTa hTo F.slot_set_ne (wpAny_call_entry F.slot_set_ne hTa entry_set_ne ?_ (F.args_set_ne_2 _ _)) (by have := hA.uni; omega)
  unfold Builtin.«frozenset.__ne__»
  refine wpAny_bind (wpAny_pure ?_)
  refine wpAny_bind (isAnySet_set (X := X) hTo ?_)
  refine wpAny_ite_neg (by decide) ?_
  refine wpAny_bind (wpAny_pure (wpAny_bind (wpAny_pure ?_)))
  unfold Builtin.Frozenset.sizeOf
  refine wpAny_bind (wpAny_bind (wpAny_setEntries_of hoa rfl hfa' (wpAny_pure (wpAny_bind (wpAny_bind (wpAny_setEntries_of hoo rfl hfo' (wpAny_pure ?_)))))))
  have fin : ∀ r : Bool, (r = true ↔ ∀ k, S k = T k) → wpAny (model X.prog X.w) A.in1 (ret (.bool (!r))) (fun fin s' => ∃ r, fin = .done (.ret r) ∧ r ≠ .notImplemented ∧ Out X b s Q r s') NoE s := fun r hrr =>
    wpAny_pure ⟨_, rfl, by simp, Out.here hr (.bool _) (h r hrr)⟩
  have lens : ∀ (ks ls : List Int), ks.Nodup → ls.Nodup → (∀ k, k ∈ ks → k ∈ ls) → ks.length ≤ ls.length := fun ks ls h1 h2 h3 => nodup_sub_len h1 h3
  by_cases hl : (entsOf ka).toArray.size != (entsOf ko).toArray.size
  · refine wpAny_bind ?_
    rw [if_pos hl]
    refine wpAny_pure (fin false ?_)
    simp only [Bool.false_eq_true, false_iff]
    intro hall
    simp only [List.size_toArray, List.length_map, bne_iff_ne, ne_eq] at hl
    apply hl
    have h1 := lens (ka.map (·.1)) (ko.map (·.1)) hna hno fun k hk => (hmo k).mp (by rw [← hall k]; exact (hma k).mpr hk)
    have h2 := lens (ko.map (·.1)) (ka.map (·.1)) hno hna fun k hk => (hma k).mp (by rw [hall k]; exact (hmo k).mpr hk)
    simp only [List.length_map] at h1 h2
    omega
  · refine wpAny_bind (wpAny_ite_neg hl ?_)
    simp only [List.size_toArray, List.length_map, bne_iff_ne, ne_eq, Decidable.not_not] at hl
    refine wpAny_bind (wpAny_bind (m := isInstance (.ref p) (.type "frozenset")) (wpAny_isInstance hTa sub_set_frozen ?_))
    refine wpAny_pure (wpAny_ite_neg (by decide) ?_)
    refine subsetOf_sound (X := X) iS iT fun r hrr => fin r ?_
    rw [hrr (ka.map (·.1)) hna hma (ko.map (·.1)) hno hmo]
    simp only [List.length_map]
    constructor
    · rintro ⟨_, hsub⟩ k
      have hback : ∀ k, T k = true → S k = true := fun k hk => by
        have hin := (hmo k).mp hk
        cases hSk : S k with
        | true => rfl
        | false =>
          exfalso
          have hn' : (k :: ka.map (·.1)).Nodup := List.nodup_cons.mpr ⟨fun hx => (by rw [(hma k).mpr hx] at hSk; cases hSk), hna⟩
          have := nodup_sub_len (l' := ko.map (·.1)) hn' fun x hx => by
            rcases List.mem_cons.mp hx with rfl | hx
            · exact hin
            · exact (hmo x).mp (hsub x ((hma x).mpr hx))
          simp only [List.length_cons, List.length_map] at this
          omega
      cases q1 : S k <;> cases q2 : T k
      · rfl
      · rw [hback k q2] at q1; cases q1
      · rw [hsub k q1] at q2; cases q2
      · rfl
    · intro hall
      exact ⟨by omega, fun k hk => by rw [← hall k]; exact hk⟩⟩
set_option maxRecDepth 100000 in
set_option maxHeartbeats 3200000 in
theorem set1_sound {A : Around} {b : Bs} {G : Gh} {s : Shared} {Q : QE} {l : Addr} {T : Int → Bool} {g : Bool} (hb : Base X b) (hr : Rep X b G s.heap) (e : G l = some (.set T g)) (h : ∀ c, G c = none → Q (.ref c) (G.upd c (.set T false))) :
    wpAny (model X.prog X.w) A (call (.type "set") [.ref l]) (Out X b s Q) NoE s := by
  obtain ⟨iT, _⟩ := (hr.own _ _ e).2
  obtain ⟨_, _, _, hol, _⟩ := id iT
  obtain ⟨c, tl, hmro⟩ := F.called_set.mro
  have hmade := F.called_set.made
  have hsub := F.called_set.sub
  refine wpAny_call (codeAny_of_tree ?_)
  show wpAny _ _ (callAny (.type "set") _) _ _ _
  refine wpAny_pure ⟨Code.quiet_builtin _ (by decide +kernel), codeAny_builtin F.entry_type_call ?_⟩
  rw [Around.under_plain (weight_type_call_type "set" [.ref l] []) rfl]
  have h1 := F.called_set.notType
  have h2 := F.called_set.canCreate
  have hct := F.typeCall_set_1 (.ref l)
  repeat (any_goals (first | assumption | wp_step))
  refine codeAny_mono (code_set_new_1 (.ref l) (E := NoE) (Q₁ := fun obj s₁ => ∃ led : Bool, obj = .ref s.heap.objs.size ∧ s₁ = { s with heap := s.heap.push { cls := .type "set", dict := none, data := .set #[] 0 (.fresh 0 0 led) } }) fun led => ⟨led, rfl, rfl⟩) fun r s₁ hr₁ => ?_
  cases r with
  | error e => exact hr₁
  | ok fl =>
    cases fl with
    | ret obj =>
      obtain ⟨led, rfl, rfl⟩ := hr₁
      have hS : (s.heap.push { cls := .type "set", dict := none, data := .set #[] 0 (.fresh 0 0 led) }).get? s.heap.objs.size = some { cls := .type "set", dict := none, data := .set #[] 0 (.fresh 0 0 led) } := Heap.get?_push_size _ rfl
      have hT : Shared.TypeIs { s with heap := s.heap.push { cls := .type "set", dict := none, data := .set #[] 0 (.fresh 0 0 led) } } (.ref s.heap.objs.size) "set" := ⟨_, hS, rfl⟩
      have hli := F.called_set.init.lookup
      have hbi := F.called_set.init.bind (.ref s.heap.objs.size)
      repeat (any_goals (first | assumption | wp_step))
      have O := newSet_out (Q := fun v G' => ∃ c, v = .ref c ∧ G c = none ∧ G' = G.upd c (.set (fun _ => false) true)) (led := led) hb hr fun c hc => ⟨c, rfl, hc, rfl⟩
      obtain ⟨_, G₁, hv₁, hr₁, ⟨k₁, _, _⟩, c, rfl, hc, rfl⟩ := O
      cases hv₁
      have hlc : l ≠ s.heap.objs.size := fun q => by rw [q, hc] at e; cases e
      have e₁ : (G.upd s.heap.objs.size (.set (fun _ => false) true)) l = some (.set T g) := by rw [Gh.upd_ne _ _ hlc]; exact e
      obtain ⟨iN, fN⟩ := (hr₁.own _ _ (Gh.upd_same G s.heap.objs.size (.set (fun _ => false) true))).2
      obtain ⟨iT₁, _⟩ := (hr₁.own _ _ e₁).2
      refine codeAny_mono (codeAny_call_builtin (R := wants (fun r s₂ => r = .none ∧ Out X b s Q (.ref s.heap.objs.size) s₂) NoE) F.called_set.init.plain F.entry_set_init (check_set_init_1 hT ?_)) fun r₂ s₂ hr₂ => ?_
      · unfold Builtin.«set.__init__» noKeywords
        generalize hU : Builtin.Frozenset.updateFrom "set.__init__" = U
        wp_walk
        subst hU
        obtain ⟨_, _, _, hol₁, _⟩ := id iT₁
        have hTl : Shared.TypeIs { s with heap := s.heap.push { cls := .type "set", dict := none, data := .set #[] 0 (.fresh 0 0 led) } } (.ref l) "set" := ⟨_, hol₁, rfl⟩
        unfold Builtin.Frozenset.updateFrom
        refine wpAny_bind (isAnySet_set (X := X) hTl ?_)
        rw [if_pos rfl]
        refine wpAny_bind (wpAny_pure ?_)
        refine merge_sound (X := X) (S := fun _ => false) iN iT₁ (Ne.symm hlc) (.inl (fN rfl)) fun h' sb i' hfr' => ?_
        have hTT : (fun j => false || T j) = T := by funext j; rw [Bool.false_or]
        rw [hTT] at i'
        show wpAny _ _ (ret Value.none) _ _ _
        refine wpAny_pure ⟨rfl, ?_⟩
        have kk := k₁.trans (TK.sameBut sb hS (by simp))
        have up : ∀ f, (G.upd s.heap.objs.size (.set (fun _ => false) true)).upd s.heap.objs.size (.set T f) = G.upd s.heap.objs.size (.set T f) := fun f => by
          funext x; unfold Gh.upd; split <;> rfl
        exact .mk (.ref _) _ (.ref _) (hr₁.change (g' := .set T false) (Gh.upd_same _ _ _) rfl rfl sb ⟨i', fun q => nomatch q⟩).1 ⟨kk, rfl, rfl⟩ (by rw [up]; exact h _ hc)
      · cases r₂ with
        | error e => exact hr₂
        | ok fl₂ =>
          cases fl₂ with
          | ret r =>
            obtain ⟨rfl, ho⟩ := hr₂
            repeat (any_goals (first | assumption | wp_step))
          | _ => exact hr₂.elim
    | _ => exact hr₁.elim
theorem Blt.set1 {G : Gh} {Q : QE} {l : Addr} {T : Int → Bool} {g : Bool} (e : G l = some (.set T g)) (h : ∀ c, G c = none → Q (.ref c) (G.upd c (.set T false))) : Blt X n (.type "set") [.ref l] G Q := .one ⟨fun hA hb hr hv => by
  rw [hv.ref_inv]; exact set1_sound hb hr e h⟩
end
end
noncomputable section
section
variable {X : Cx} {n : Nat} {sc : Scope} {env : Env} {A : Around} {b : Bs} {m : M} {G : Gh} {s : Shared} {Q : QE} {e : PySem.Expr}
theorem DR.without {h : Heap} {es : List (Int × Val)} {kvs : List (Int × Value)} (d : DR h es kvs) (k : Int) : DR h (es.filter fun kv => kv.1 ≠ k) (PySem.without kvs k) := by
  induction d with
  | nil => exact .nil
  | @cons k' v y es ys hv _ ih =>
    unfold PySem.without at ih ⊢
    rw [List.filter_cons, List.filter_cons]
    by_cases hk : k' = k
    · rw [if_neg (by simp [hk]), if_neg (by simp [hk])]; exact ih
    · rw [if_pos (by simp [hk]), if_pos (by simp [hk])]; exact .cons hv ih
theorem DR.any {h : Heap} {es : List (Int × Val)} {kvs : List (Int × Value)} (d : DR h es kvs) (k : Int) : (es.any fun kv => decide (kv.1 = k)) = kvs.any fun kv => decide (kv.1 = k) := by
  induction d with
  | nil => rfl
  | cons _ _ ih => rw [List.any_cons, List.any_cons, ih]
theorem DR.stored {h : Heap} {es : List (Int × Val)} {kvs : List (Int × Value)} (d : DR h es kvs) (k : Int) {v : Val} {y : Value} (hv : VR h v y) : DR h (storeE es k v) (PySem.stored kvs k y) := by
  unfold storeE PySem.stored
  rw [d.any]
  split
  · rename_i q; clear q
    induction d with
    | nil => exact .nil
    | @cons k' w z es ys hw _ ih =>
      rw [List.map_cons, List.map_cons]
      by_cases hk : k' = k
      · rw [if_pos hk, if_pos hk]; exact .cons hv ih
      · rw [if_neg hk, if_neg hk]; exact .cons hw ih
  · rename_i q; clear q
    induction d with
    | nil => exact .cons hv .nil
    | cons hw _ ih => exact .cons hw ih
inductive HasT (G : Gh) : Val → String → Prop where
  | list {a : Addr} {xs : List Val} : G a = some (.list xs) → HasT G (.ref a) "list"
  | dict {a : Addr} {es : List (Int × Val)} : G a = some (.dict es) → HasT G (.ref a) "dict"
  | set {a : Addr} {S : Int → Bool} {f : Bool} : G a = some (.set S f) → HasT G (.ref a) "set"
theorem HasT.sound {v : Val} {y : Value} {T : String} (hr : Rep X b G s.heap) (hv : VR s.heap v y) (h : HasT G v T) : s.TypeIs y T ∧ ∀ a, y = .ref a → ∃ ob, s.heap.get? a = some ob ∧ ob.dict = none := by
  cases h with
  | list e => rw [hv.ref_inv]; obtain ⟨_, _, _, ho, _⟩ := own_list hr e; exact ⟨⟨_, ho, rfl⟩, fun a q => by cases q; exact ⟨_, ho, rfl⟩⟩
  | dict e => rw [hv.ref_inv]; obtain ⟨_, _, ⟨o, _, _, ho, hc, _⟩, _⟩ := (hr.own _ _ e).2; exact ⟨⟨_, ho, hc.1⟩, fun a q => by cases q; exact ⟨_, ho, hc.2.1⟩⟩
  | set e => rw [hv.ref_inv]; obtain ⟨⟨_, _, _, ho, _⟩, _⟩ := (hr.own _ _ e).2; exact ⟨⟨_, ho, rfl⟩, fun a q => by cases q; exact ⟨_, ho, rfl⟩⟩
structure MethId (T : String) (attr : Str) (id : String) : Prop where
  p : PlainAttrs T
  sl : Slot T attr id
  ty : typeOf (.builtin id) = pure (.type "method_descriptor")
theorem MethId.append : MethId "list" "append" "list.append" := ⟨F.plainAttrs_list, F.slot_list_append, F.type_list_append⟩
theorem MethId.pop : MethId "list" "pop" "list.pop" := ⟨F.plainAttrs_list, F.slot_list_pop, F.type_list_pop⟩
theorem MethId.dpop : MethId "dict" "pop" "dict.pop" := ⟨F.plainAttrs_dict, F.slot_dict_pop, F.type_dict_pop⟩
theorem MethId.get : MethId "dict" "get" "dict.get" := ⟨F.plainAttrs_dict, F.slot_dict_get, F.type_dict_get⟩
theorem MethId.add : MethId "set" "add" "set.add" := ⟨F.plainAttrs_set, F.slot_set_add, F.type_set_add⟩
theorem MethId.discard : MethId "set" "discard" "set.discard" := ⟨F.plainAttrs_set, F.slot_set_discard, F.type_set_discard⟩
theorem Sn.meth {T : String} {attr : Str} {id : String} {o : PySem.Expr} {es : List PySem.Expr} {apos pos : Pos} (hm : MethId T attr id) (hn : NoStar es)
    (h : Sn X n sc o m G fun v G₁ => HasT G₁ v T ∧ SnEs X n sc es m G₁ fun vs G₂ => Blt X n (.builtin id) (v :: vs) G₂ Q)
    (hs : ∀ env whole, attributeBase o attr env whole = whole := by intro _ _; rfl) (hline : (apos.endLine == pos.line) = true := by rfl) (hfew : decide (es.length < 29) = true := by rfl) :
    Sn X n sc (.Call (.Attribute o attr apos) es [] pos) m G Q := ⟨fun {env A b s} hy => by
  refine wpAny_Call_method (hs _ _) ?_ hline hm.p hm.sl hm.ty (h.use hy fun x s₁ v G₁ hv hy₁ f₁ h₁ => ?_)
  · rw [hn]
    have := of_decide_eq_true hfew
    show (true && true && decide (es.length + 0 + 0 < 30)) = true
    rw [decide_eq_true (by omega)]; rfl
  · obtain ⟨t1, t2⟩ := h₁.1.sound hy₁.hr hv
    exact ⟨t1, t2, Calls.callWith_builtin (hn.any _ _) (args_sound hn h₁.2 hy₁ fun ys s₂ vs G₂ hvs hy₂ f₂ h₂ =>
      wpAny_trans (h₂.go hy₂.hA hy₂.hb hy₂.hr (.cons (hv.mono f₂.tk) hvs)) fun _ _ q => q.next (f₁.trans f₂))⟩⟩
theorem lupd_out {a : Addr} {xs xs' : List Val} {ys' : Array Value} {k' : Nat} {v : Val} {y : Value} {h' : Heap} {tk : Nat} (hr : Rep X b G s.heap) (e : G a = some (.list xs))
    (hs : Heap.SameBut a s.heap h') (ho' : h'.get? a = some ⟨.type "list", none, .seq ys' k', #[]⟩) (hl : xs'.length ≤ 2 * cap) (hxs : VRs s.heap xs' ys'.toList) (hv : VR s.heap v y) (h : Q v (G.upd a (.list xs'))) : Out X b s Q y { s with heap := h', toks := tk } := by
  obtain ⟨_, _, _, ho, _⟩ := own_list hr e
  have kk : TK s.heap h' := .sameButT hs ho (notT rfl)
  exact .mk v _ (hv.mono kk) (hr.change (g' := .list xs') e rfl rfl hs ⟨hl, ys', k', ho', hxs.mono kk⟩).1 ⟨kk, rfl, rfl⟩ h
theorem sameBut_update {h : Heap} {a : Addr} {f : Obj → Obj} : Heap.SameBut a h (h.update a f) := ⟨Heap.size_update _ _ _, fun b hb => Heap.get?_update_other _ _ (Ne.symm hb)⟩
theorem Meth.append {a : Addr} {xs : List Val} {v : Val} (e : G a = some (.list xs)) (hc : xs.length < cap) (q : Q .none (G.upd a (.list (xs ++ [v])))) : Blt X n (.builtin "list.append") [.ref a, v] G Q := .two ⟨fun {A b s x y} hA hb hr hv hw => by
  rw [hv.ref_inv]
  obtain ⟨zs, k, hl, ho, hs, hlen⟩ := own_list hr e
  refine call_meets F.slot_list_append ⟨_, ho, rfl⟩ F.entry_list_append (F.args_list_append_2 _ _) (list_append a zs k _ (by rw [← hlen]; exact fits_of_cap hc)) ⟨ho, ?_⟩
  exact lupd_out hr e sameBut_update (Heap.get?_update_self _ ho rfl) (by rw [List.length_append, List.length_singleton]; omega) (by rw [Array.toList_push]; exact hs.append (.single hw)) .none q⟩
theorem Meth.pop {a : Addr} {xs : List Val} {v : Val} (e : G a = some (.list (xs ++ [v]))) (hc : xs.length + 1 < cap) (q : Q v (G.upd a (.list xs))) : Blt X n (.builtin "list.pop") [.ref a] G Q := .one ⟨fun {A b s x} hA hb hr hv => by
  rw [hv.ref_inv]
  obtain ⟨zs, k, hl, ho, hs, hlen⟩ := own_list hr e
  rw [List.length_append, List.length_singleton] at hlen
  obtain ⟨z, hz, hvr⟩ := hs.get (i := zs.size - 1) (v := v) (by rw [← hlen, Nat.add_sub_cancel, List.getElem?_append_right (Nat.le_refl _), Nat.sub_self]; rfl)
  rw [Array.getElem?_toList] at hz
  refine call_meets F.slot_list_pop ⟨_, ho, rfl⟩ F.entry_list_pop (F.args_list_pop_1 _) (MeetsSeq.list_pop_last a zs k z hz (by rw [← hlen]; exact fits_of_cap hc)) ⟨ho, ?_⟩
  refine lupd_out (xs' := xs) hr e sameBut_update (Heap.get?_update_self _ ho rfl) (by unfold cap at hc ⊢; omega) ?_ hvr q
  have : (zs.eraseIdxIfInBounds (zs.size - 1)).toList = zs.toList.take (zs.size - 1) := by
    obtain ⟨l⟩ := zs
    simp only [List.eraseIdxIfInBounds_toArray, List.size_toArray]
    rw [← List.dropLast_eq_take]
    exact List.eraseIdx_length_sub_one ..
  rw [this, ← hlen, Nat.add_sub_cancel]
  have := hs.take xs.length
  rw [List.take_left' rfl] at this
  exact this⟩
theorem filter_absent {es : List (Int × Val)} {k : Int} (h : lookE es k = none) : (es.filter fun kv => kv.1 ≠ k) = es := by
  rw [List.filter_eq_self]
  intro p hp
  unfold lookE at h
  rw [Option.map_eq_none_iff, List.find?_eq_none] at h
  simpa using h p hp
theorem Gh.upd_id {a : Addr} {o : GObj} (e : G a = some o) : G.upd a o = G := by
  funext x
  by_cases q : x = a
  · rw [q, Gh.upd_same, e]
  · rw [Gh.upd_ne _ _ q]
theorem Meth.dpop {d : Addr} {es : List (Int × Val)} {k : Int} (e : G d = some (.dict es)) (h : Q ((lookE es k).getD .none) (G.upd d (.dict (es.filter fun kv => kv.1 ≠ k)))) : Blt X n (.builtin "dict.pop") [.ref d, .int k, .none] G Q := ⟨fun {A b s ys} hA hb hr hv => by
  obtain ⟨y, zs, rfl, hv1, hv2⟩ := hv.cons_inv
  obtain ⟨u, w, rfl, hv3, hv4⟩ := hv2.two_inv
  obtain ⟨tk, rfl⟩ := hv3.int_inv
  rw [hv1.ref_inv, hv4.none_inv]
  obtain ⟨hl, kvs, hd, hes⟩ := (hr.own _ _ e).2
  have hlen := hes.length
  obtain ⟨oo, ees, eep, hoo, hxx, _⟩ := id hd
  have hpart : (keyPart (.int k tk)).isSome = true := rfl
  refine wpAny_call_entry F.slot_dict_pop hd.typeIs F.entry_dict_pop ?_ (F.args_dict_pop_3 _ _ _)
  unfold Builtin.«dict.pop»
  refine wpAny_bind ?_
  unfold Builtin.Dict.keyAndDefault
  refine wpAny_bind (wpAny_notOrdered_dict hd.typeIs ?_)
  show wpAny _ _ (pure (d, Value.int k tk, some Value.none)) _ _ s
  refine wpAny_pure ?_
  simp only [hpart, if_true]
  refine wpAny_bind (wpAny_pure ?_)
  simp only [Bool.false_eq_true, if_false]
  refine wpAny_bind (wpAny_takeOut_pairs (knd := intKind X.prog X.w) (hsz := by rw [sizeLine_eq]; unfold cap at hl; omega) (intKind_is _ _ _ _) hd (fun hn => ?_) fun en _ hen h' hm' hs' => ?_)
  · simp only [Option.isNone_none, if_true]
    refine wpAny_bind (wpAny_missedRemoval_other (ne_sys hr e) ?_)
    refine wpAny_bind (wpAny_rule (wpAny_pure ⟨_, rfl, ?_⟩))
    have hnone : lookE es k = none := by
      cases q : lookE es k with
      | none => rfl
      | some v => obtain ⟨y, z, _⟩ := (hes.look k).1 v q; rw [hn] at z; cases z
    rw [filter_absent hnone, hnone, Gh.upd_id e] at h
    exact .mk .none G .none hr ⟨.refl _, rfl, rfl⟩ h
  · simp only [Option.isNone_some, Bool.false_eq_true, if_false]
    obtain ⟨v, q, hv⟩ : ∃ v, lookE es k = some v ∧ VR s.heap v en.val := by
      cases q : lookE es k with
      | none => have := (hes.look k).2 q; rw [this] at hen; cases hen
      | some v => obtain ⟨y, z, hv⟩ := (hes.look k).1 v q; rw [hen] at z; cases z; exact ⟨v, rfl, hv⟩
    rw [q] at h
    refine wpAny_bind (wpAny_letGo (wpAny_pure ⟨_, rfl, ?_⟩))
    have kk : TK s.heap h' := .sameButT hs' hoo (notT hxx.1)
    exact .mk v _ (hv.mono kk) (hr.change (g' := .dict (es.filter fun kv => kv.1 ≠ k)) e rfl rfl hs' ⟨Nat.le_trans (List.length_filter_le ..) hl, _, hm', (hes.without k).mono kk⟩).1 ⟨kk, rfl, rfl⟩ h⟩
theorem Meth.get {d : Addr} {es : List (Int × Val)} {k : Int} {v : Val} (e : G d = some (.dict es)) (h : Q ((lookE es k).getD v) G) : Blt X n (.builtin "dict.get") [.ref d, .int k, v] G Q := ⟨fun {A b s ys} hA hb hr hv => by
  obtain ⟨y, zs, rfl, hv1, hv2⟩ := hv.cons_inv
  obtain ⟨u, w, rfl, hv3, hv4⟩ := hv2.two_inv
  obtain ⟨tk, rfl⟩ := hv3.int_inv
  rw [hv1.ref_inv]
  obtain ⟨hl, kvs, hd, hes⟩ := (hr.own _ _ e).2
  refine call_meetsIn F.slot_dict_get hd.typeIs F.entry_dict_get (F.args_dict_get_3 _ _ _) (meets_dict_get_default (intKind X.prog X.w) d (intKind_is _ _ _ _) (ne_sys hr e) w) ⟨_, hd.mapOf, ?_⟩
  refine Out.here hr ?_ h
  cases q : lookE es k with
  | none => rw [(hes.look k).2 q]; exact hv4
  | some w => obtain ⟨z, a1, a2⟩ := (hes.look k).1 w q; rw [a1]; exact a2⟩
end
end
noncomputable section
section
variable {X : Cx} {n : Nat} {sc : Scope} {env : Env} {A : Around} {b : Bs} {m : M} {G : Gh} {s : Shared} {Q : QE} {e : PySem.Expr} {loc : Bool}
structure Lay (X : Cx) (lo : Bool) (env : Env) (b : Bs) : Prop where
  loc : ∃ o es ep, b env.locals = some o ∧ o.data = .dict es ep ∧ StrKeys es
  low : X.H0.get? env.locals = none
  has : lo = false → ∀ x, env.kindOf x = some .cell → ∃ ca o v, env.cells.lookup x = some ca ∧ b ca = some o ∧ o.data = .cell v ∧ X.H0.get? ca = none ∧ ca ≠ env.locals ∧ ∀ y, env.cells.lookup y = some ca → y = x
noncomputable def Own (loc : Bool) (env : Env) (a : Addr) : Prop := a = env.locals ∨ (loc = false ∧ ∃ x, env.kindOf x = some .cell ∧ env.cells.lookup x = some a)
noncomputable def Agr (loc : Bool) (env : Env) (b b' : Bs) : Prop := ∀ a o, b a = some o → ¬ Own loc env a → b' a = some o
theorem Agr.refl : Agr loc env b b := fun _ _ e _ => e
theorem Agr.trans {b' b'' : Bs} (h : Agr loc env b b') (h' : Agr loc env b' b'') : Agr loc env b b'' := fun a o e n => h' a o (h a o e n) n
theorem Own.data {a : Addr} (hl : Lay X loc env b) (h : Own loc env a) : X.H0.get? a = none ∧ ∃ o, b a = some o ∧ ¬ ∃ vs, o.data = .fields vs := by
  rcases h with rfl | ⟨hll, x, hk, hc⟩
  · obtain ⟨o, es, ep, h1, h2, _⟩ := hl.loc
    exact ⟨hl.low, o, h1, fun ⟨vs, q⟩ => by rw [h2] at q; cases q⟩
  · obtain ⟨ca, o, v, h1, h2, h3, h4, _⟩ := hl.has hll x hk
    rw [hc] at h1; cases h1; exact ⟨h4, o, h2, fun ⟨vs, q⟩ => by rw [h3] at q; cases q⟩
theorem Agr.base {b' : Bs} (hl : Lay X loc env b) (h : Agr loc env b b') (hb : Base X b) : Base X b' := fun a o e => h a o (hb a o e) fun q => by rw [(q.data hl).1] at e; cases e
noncomputable def StoreIn (loc : Bool) (sc : Scope) (x : Str) : Prop := (x, NameKind.local) ∈ sc.names ∨ (loc = false ∧ (x, NameKind.cell) ∈ sc.names)
inductive St (X : Cx) (loc : Bool) (env : Env) (b : Bs) (G : Gh) (s : Shared) (m : M) (s' : Shared) : Prop where
  | mk (b' : Bs) (hr : Rep X b' G s'.heap) (hf : Frm env b' s'.heap m) (hl : Lay X loc env b') (ag : Agr loc env b b') (f : Fwd s s')
theorem St.next {b₁ : Bs} {s₁ s' : Shared} (h : St X loc env b₁ G s₁ m s') (a : Agr loc env b b₁) (f : Fwd s s₁) : St X loc env b G s m s' := by
  cases h with | mk b' h1 h2 h3 h4 h5 => exact .mk b' h1 h2 h3 (a.trans h4) (f.trans h5)
theorem notT_dict {o : Obj} {es : Array DictEntry} {ep : Nat} (h : o.data = .dict es ep) : ¬ IsT o := fun ⟨_, _, _, q⟩ => by rw [h] at q; cases q
theorem notT_cell {o : Obj} {v : Option Value} (h : o.data = .cell v) : ¬ IsT o := fun ⟨_, _, _, q⟩ => by rw [h] at q; cases q
theorem notT_fields {o : Obj} {vs : Array Value} (h : o.data = .fields vs) : ¬ IsT o := fun ⟨_, _, _, q⟩ => by rw [h] at q; cases q
theorem put_keep {a x : Addr} {o o' oo : Obj} (h : b a = some o) (hd : o.data ≠ oo.data) (e : b x = some oo) : b.put a o' x = some oo := by
  rw [Bs.put_ne (fun q => by rw [q, h] at e; cases e; exact hd rfl)]; exact e
theorem store_sound {Mo : Model} {x : Str} {v : Val} {y : Value} (he : EnvOK X sc env) (hl : Lay X loc env b) (hr : Rep X b G s.heap) (hf : Frm env b s.heap m) (hk : StoreIn loc sc x) (hv : VR s.heap v y) :
    wpAny Mo A (storeName env x y) (fun _ s' => St X loc env b G s (m.upd x v) s') NoE s := by
  have hsk : env.scope.kind = .function := by rw [he.scope]; exact he.kind
  rcases hk with hq | ⟨rfl, hq⟩
  · have hkk := (he.kindOf x).trans (lookup_of_mem (scOK.nd he.ok) hq)
    obtain ⟨o, es, ep, hb, hd, hs⟩ := hl.loc
    refine wpAny_storeName_local hkk ⟨o, es, ep, hr.keep _ _ hb, hd, hs, fun _ => rfl⟩ (fun h' hn' sb => ?_) (by rw [hsk]; rfl)
    obtain ⟨o', es', ep', ho', hd', hs', hns⟩ := hn'
    obtain ⟨r', kk⟩ := hr.one hb (notT_dict hd) sb.extBut ho'
    refine .mk (b.put env.locals o') r' (fun z w e => ?_) ⟨⟨o', es', ep', Bs.put_eq, hd', hs'⟩, hl.low, fun hloc z hz => ?_⟩ (fun a oa e na => ?_) ⟨kk, rfl, rfl⟩
    · rcases e with ⟨rfl, rfl⟩ | ⟨q, e⟩
      · exact ⟨y, hv.mono kk, .inl ⟨hkk, o', es', ep', Bs.put_eq, hd', hs', (hns _).trans (if_pos rfl)⟩⟩
      · obtain ⟨u, hu, hsl⟩ := hf z w e
        refine ⟨u, hu.mono kk, hsl.imp (fun ⟨h1, oo, es0, ep0, h2, h3, h4, h5⟩ => ?_) fun ⟨h1, ca, oc, h3, h4, h5⟩ => ⟨h1, ca, oc, h3, put_keep hb (by rw [hd, h5]; exact fun q => nomatch q) h4, h5⟩⟩
        rw [hb] at h2; cases h2
        rw [hd] at h3; cases h3
        exact ⟨h1, o', es', ep', Bs.put_eq, hd', hs', (hns _).trans ((if_neg q).trans h5)⟩
    · obtain ⟨ca, oc, w, h1, h2, h3, h4, h5, h6⟩ := hl.has hloc z hz
      exact ⟨ca, oc, w, h1, (Bs.put_ne h5).trans h2, h3, h4, h5, h6⟩
    · exact (Bs.put_ne fun q => na (.inl q)).trans e
  · have hkk := (he.kindOf x).trans (lookup_of_mem (scOK.nd he.ok) hq)
    obtain ⟨ca, o, w, h1, h2, h3, h4, h5, h6⟩ := hl.has rfl _ hkk
    refine wpAny_storeName_cell hsk hkk h1 ⟨o, hr.keep _ _ h2, h3⟩ fun h' hc' sb => ?_
    obtain ⟨o', ho', hd'⟩ := hc'
    obtain ⟨r', kk⟩ := hr.one h2 (notT_cell h3) sb.extBut ho'
    refine .mk (b.put ca o') r' (fun z u e => ?_) ⟨?_, hl.low, fun hloc z hz => ?_⟩ (fun a oa e na => ?_) ⟨kk, rfl, rfl⟩
    · rcases e with ⟨rfl, rfl⟩ | ⟨q, e⟩
      · exact ⟨y, hv.mono kk, .inr ⟨.inl hkk, ca, o', h1, Bs.put_eq, hd'⟩⟩
      · obtain ⟨u', hu, hsl⟩ := hf z u e
        exact ⟨u', hu.mono kk, hsl.imp (fun ⟨g1, oo, es0, ep0, g2, g3, g4, g5⟩ => ⟨g1, oo, es0, ep0, (Bs.put_ne (Ne.symm h5)).trans g2, g3, g4, g5⟩) fun ⟨g1, cb, oc, g3, g4, g5⟩ =>
          ⟨g1, cb, oc, g3, (Bs.put_ne fun q' : cb = ca => q (h6 _ (q' ▸ g3))).trans g4, g5⟩⟩
    · obtain ⟨oo, es, ep, g1, g2, g3⟩ := hl.loc
      exact ⟨oo, es, ep, (Bs.put_ne (Ne.symm h5)).trans g1, g2, g3⟩
    · obtain ⟨cb, oc, u, g1, g2, g3, g4, g5, g6⟩ := hl.has rfl z hz
      by_cases q : cb = ca
      · subst q; exact ⟨cb, o', _, g1, Bs.put_eq, hd', g4, g5, g6⟩
      · exact ⟨cb, oc, u, g1, (Bs.put_ne q).trans g2, g3, g4, g5, g6⟩
    · exact (Bs.put_ne fun q => na (.inr ⟨rfl, x, hkk, by rw [q]; exact h1⟩)).trans e
structure Bnd (X : Cx) (loc : Bool) (sc : Scope) (t : PySem.Expr) (v : Val) (m m' : M) : Prop where
  go : ∀ {env : Env} {A : Around} {b : Bs} {G : Gh} {s : Shared} {y : Value}, EnvOK X sc env → A.handled = none → Lay X loc env b → Rep X b G s.heap → Frm env b s.heap m → VR s.heap v y →
    wpAny (model X.prog X.w) A (assign t env y) (fun _ s' => St X loc env b G s m' s') NoE s
structure Bnds (X : Cx) (loc : Bool) (sc : Scope) (ts : List PySem.Expr) (vs : List Val) (m m' : M) : Prop where
  len : ∀ env, (assignEach ts env).length = vs.length ∧ (assignEach ts env).findIdx? (·.1) = none
  go : ∀ {env : Env} {A : Around} {b : Bs} {G : Gh} {s : Shared} {ys : List Value}, EnvOK X sc env → A.handled = none → Lay X loc env b → Rep X b G s.heap → Frm env b s.heap m → VRs s.heap vs ys →
    wpAny (model X.prog X.w) A (assignInOrder ((assignEach ts env).map (·.2)) ys) (fun _ s' => St X loc env b G s m' s') NoE s
theorem St.weak {m' : M} {s' : Shared} (h : St X loc env b G s m s') (k : ∀ x v, m' x v → m x v) : St X loc env b G s m' s' := by
  cases h with | mk b' h1 h2 h3 h4 h5 => exact .mk b' h1 (h2.weak k) h3 h4 h5
structure Put (loc : Bool) (sc : Scope) (x : Str) (v : Val) (m m' : M) : Prop where
  st : StoreIn loc sc x
  up : scOK sc = true → ∀ y w, m' y w → m.upd x v y w
theorem Put.go {Mo : Model} {x : Str} {v : Val} {m' : M} {y : Value} (h : Put loc sc x v m m') (he : EnvOK X sc env) (hl : Lay X loc env b) (hr : Rep X b G s.heap) (hf : Frm env b s.heap m) (hv : VR s.heap v y) :
    wpAny Mo A (storeName env x y) (fun _ s' => St X loc env b G s m' s') NoE s := wpAny_trans (store_sound he hl hr hf h.st hv) fun _ _ q => q.weak (h.up he.ok)
theorem Bnd.name {x : Str} {pos : Pos} {v : Val} {m' : M} (h : Put loc sc x v m m') : Bnd X loc sc (.Name x pos) v m m' := ⟨fun he hh hl hr hf hv => assign_Name (h.go he hl hr hf hv)⟩
theorem Bnd.tup {ts : List PySem.Expr} {k : Nat} {pos : Pos} {vs : List Val} {m' : M} (h : Bnds X loc sc ts vs m m') : Bnd X loc sc (.Tuple ts k pos) (.tup vs) m m' := ⟨fun {env A b G s y} he hh hl hr hf hv => by
  obtain ⟨a, k, ys, rfl, e, hs⟩ := hv.tup_inv
  obtain ⟨l1, l2⟩ := h.len env
  refine wpAny_bind (wpAny_standAt (wpAny_unpack_tuple hh ⟨_, e, rfl, _, rfl⟩ (by rw [l1, hs.length, List.size_toArray]) l2 fun h' eb => ?_))
  have kp : ∀ b o, s.heap.get? b = some o → h'.get? b = some o := fun b o e => eb b o (Nat.ne_of_lt (Heap.lt_size e)) e
  exact wpAny_trans (h.go (s := { s with heap := h' }) he hh hl (hr.mono kp) (hf.mono (.of_keep kp)) (hs.mono (.of_keep kp))) fun _ _ q => q.next .refl ⟨.of_keep kp, rfl, rfl⟩⟩
theorem Bnds.nil : Bnds X loc sc [] [] m m := ⟨fun _ => ⟨rfl, rfl⟩, fun he hh hl hr hf hv => by rw [hv.nil_inv]; exact wpAny_pure (.mk _ hr hf hl .refl .refl)⟩
theorem Bnds.cons {t : PySem.Expr} {ts : List PySem.Expr} {v : Val} {vs : List Val} {m₁ m' : M} (h1 : Bnd X loc sc t v m m₁) (h2 : Bnds X loc sc ts vs m₁ m') (hp : ∀ env, assignEach (t :: ts) env = (false, assign t env) :: assignEach ts env := by intro _; rfl) : Bnds X loc sc (t :: ts) (v :: vs) m m' :=
  ⟨fun env => by
    obtain ⟨a, c⟩ := h2.len env
    rw [hp]
    exact ⟨by rw [List.length_cons, List.length_cons, a], by rw [List.findIdx?_cons, c]; rfl⟩,
  fun {env A b G s ys} he hh hl hr hf hv => by
    obtain ⟨y, zs, rfl, hv1, hv2⟩ := hv.cons_inv
    rw [hp]
    refine wpAny_bind (wpAny_holding (wpAny_trans (h1.go he hh hl hr hf hv1) fun _ s₁ q => ?_))
    cases q with | mk b₁ hr₁ hf₁ hl₁ ag f₁ => exact wpAny_trans (h2.go he hh hl₁ hr₁ hf₁ (hv2.mono f₁.tk)) fun _ _ q => q.next ag f₁⟩
structure Iter (X : Cx) (h0 : Heap) (tgt : PySem.Expr) (I : Value) (xs : List Val) (gd : Gh → Prop) (hid : Addr → Prop) (St : Nat → Bs → Prop) : Prop where
  kind : ∀ {i : Nat} {b : Bs} {a : Addr} {o : Obj}, St i b → hid a → b a = some o → ∃ vs, o.data = .fields vs
  fr : ∀ {i : Nat} {b b' : Bs}, St i b → (∀ a o, hid a → b a = some o → b' a = some o) → St i b'
  self : ∀ {A : Around} {b : Bs} {G : Gh} {s : Shared} {i : Nat} {Q : Value → Shared → Prop}, Rep X b G s.heap → St i b → Q I s → wpAny (model X.prog X.w) A (pyIter I) Q NoE s
  item : ∀ {A : Around} {b : Bs} {G : Gh} {s : Shared} {i : Nat} {x : Val} {Q : Value → Shared → Prop}, A.handled = none → TK h0 s.heap → Rep X b G s.heap → gd G → St i b → xs[i]? = some x →
    (∀ y s' b', VR s'.heap x y → Rep X b' G s'.heap → Fwd s s' → St (i + 1) b' → (∀ a o, b a = some o → ¬ hid a → b' a = some o) → Q y s') →
    wpAny (model X.prog X.w) A (pyNext I) (fun r s₁ => ∃ y, r = some y ∧ wpAny (model X.prog X.w) A (letOwnedTupleGo tgt I y) (fun _ s₂ => Q y s₂) NoE s₁) NoE s
  stop : ∀ {A : Around} {b : Bs} {G : Gh} {s : Shared} {i : Nat} {Q : Option Value → Shared → Prop}, A.handled = none → TK h0 s.heap → Rep X b G s.heap → gd G → St i b → xs[i]? = none →
    (∀ s' b', Rep X b' G s'.heap → Fwd s s' → (∀ a o, b a = some o → ¬ hid a → b' a = some o) → Q none s') →
    wpAny (model X.prog X.w) A (pyNext I) Q NoE s
noncomputable def goNames : List String := ["enumerate", "zip", "dict_itemiterator", "dict_reverseitemiterator", "odict_iterator", "itertools.zip_longest", "itertools.pairwise"]
theorem skip_go {tgt : PySem.Expr} {I : Addr} {y : Value} {o : Obj} {T : String} {vs : Array Value} {Q : Unit → Shared → Prop} (ho : s.heap.get? I = some o) (hc : o.cls = .type T) (hd : o.data = .fields vs) (hT : goNames.contains T = false) (h : Q () s) :
    wpAny (model X.prog X.w) A (letOwnedTupleGo tgt (.ref I) y) Q NoE s := by
  have key : ∀ (a : Addr), wpAny (model X.prog X.w) A (do
      let o ← load I
      match o.cls, o.data with
      | .type n, .fields vs =>
        if goNames.contains n && vs[0]? == some (rawInt a) then
          rule "for.unpacks-the-owned-tuple"
          updateField I 0 .none
      | _, _ => pure ()) Q NoE s := fun a => by
    refine wpAny_bind (wpAny_load ho ?_)
    rw [hc, hd]
    show wpAny _ A (if (goNames.contains T && vs[0]? == some (rawInt a)) = true then _ else _) Q NoE s
    rw [hT, Bool.false_and, if_neg (by decide)]
    exact wpAny_pure h
  have tl : wpAny (model X.prog X.w) A (letOwnedTupleGo (.Tuple [] 0 ⟨0, 0, 0, 0⟩) (.ref I) y) Q NoE s := by
    cases y <;> first | exact key _ | exact wpAny_pure h
  cases tgt <;> first | exact wpAny_pure h | exact tl
theorem iter_list {h0 : Heap} {tgt : PySem.Expr} {I l : Addr} {xs : List Val} : Iter X h0 tgt (.ref I) xs (fun G => G l = some (.list xs)) (· = I) (fun i b => ∃ o, b I = some o ∧ o.cls = .type "list_iterator" ∧ o.data = .fields #[.ref l, .int i 0]) where
  kind := fun ⟨o, e, _, hd⟩ ha ea => by subst ha; rw [e] at ea; cases ea; exact ⟨_, hd⟩
  fr := fun ⟨o, e, r⟩ h => ⟨o, h I o rfl e, r⟩
  self := fun hr ⟨o, e, hc, hd⟩ hq => wpAny_pyIter_listiter ⟨o, hr.keep _ _ e, hc, hd⟩ hq
  item := fun {A b G s i x Q} hh _ hr hg ⟨o, e, hc, hd⟩ hx h => by
    obtain ⟨ys, k, hl, ho, hs, _⟩ := own_list hr hg
    obtain ⟨y, hy, hv⟩ := hs.get hx
    refine wpAny_pyNext_list_item ⟨o, hr.keep _ _ e, hc, hd⟩ ⟨_, ho, rfl, k, rfl⟩ (by rw [← Array.getElem?_toList]; exact hy) fun h' ⟨o', ho', hc', hd'⟩ sb => ⟨y, rfl, ?_⟩
    obtain ⟨r', tk⟩ := hr.one e (notT_fields hd) sb.extBut ho'
    exact skip_go (s := { s with heap := h' }) ho' hc' hd' (by decide) (h y _ _ (hv.mono tk) r' ⟨tk, rfl, rfl⟩ ⟨o', Bs.put_eq, hc', hd'⟩ fun a oa ea ha => (Bs.put_ne ha).trans ea)
  stop := fun {A b G s i Q} hh _ hr hg ⟨o, e, hc, hd⟩ hx h => by
    obtain ⟨ys, k, hl, ho, hs, hlen⟩ := own_list hr hg
    refine wpAny_pyNext_list_end hh ⟨o, hr.keep _ _ e, hc, hd⟩ ⟨_, ho, rfl, k, rfl⟩ (by
      rw [Array.getElem?_eq_none_iff, ← hlen]; exact List.getElem?_eq_none_iff.mp hx) fun h' sb => ?_
    obtain ⟨r', tk⟩ := hr.gone e (notT_fields hd) sb
    exact h _ _ r' ⟨tk, rfl, rfl⟩ fun a oa ea ha => (Bs.del_ne ha).trans ea
theorem iter_tup {h0 : Heap} {tgt : PySem.Expr} {I t : Addr} {xs : List Val} {ys : List Value} {k : Nat} (ht : h0.get? t = some ⟨.type "tuple", none, .seq ys.toArray k, #[]⟩) (hv : VRs h0 xs ys) :
    Iter X h0 tgt (.ref I) xs (fun _ => True) (· = I) (fun i b => ∃ o, b I = some o ∧ o.cls = .type "tuple_iterator" ∧ o.data = .fields #[.ref t, .int i 0]) where
  kind := fun ⟨o, e, _, hd⟩ ha ea => by subst ha; rw [e] at ea; cases ea; exact ⟨_, hd⟩
  fr := fun ⟨o, e, r⟩ h => ⟨o, h I o rfl e, r⟩
  self := fun hr ⟨o, e, hc, hd⟩ hq => wpAny_pyIter_tupleiter ⟨o, hr.keep _ _ e, hc, hd⟩ hq
  item := fun {A b G s i x Q} hh tk0 hr hg ⟨o, e, hc, hd⟩ hx h => by
    obtain ⟨y, hy, hv'⟩ := (hv.mono tk0).get hx
    refine wpAny_pyNext_tuple_item ⟨o, hr.keep _ _ e, hc, hd⟩ ⟨_, tk0 _ _ ht ⟨rfl, _, _, rfl⟩, rfl, _, rfl⟩ (by rw [List.getElem?_toArray]; exact hy) fun h' ⟨o', ho', hc', hd'⟩ sb => ⟨y, rfl, ?_⟩
    obtain ⟨r', tk⟩ := hr.one e (notT_fields hd) sb.extBut ho'
    exact skip_go (s := { s with heap := h' }) ho' hc' hd' (by decide) (h y _ _ (hv'.mono tk) r' ⟨tk, rfl, rfl⟩ ⟨o', Bs.put_eq, hc', hd'⟩ fun a oa ea ha => (Bs.put_ne ha).trans ea)
  stop := fun {A b G s i Q} hh tk0 hr hg ⟨o, e, hc, hd⟩ hx h => by
    refine wpAny_pyNext_tuple_end hh ⟨o, hr.keep _ _ e, hc, hd⟩ ⟨_, tk0 _ _ ht ⟨rfl, _, _, rfl⟩, rfl, _, rfl⟩ (by
      rw [List.getElem?_toArray, List.getElem?_eq_none_iff, ← hv.length]; exact List.getElem?_eq_none_iff.mp hx) fun h' sb => ?_
    obtain ⟨r', tk⟩ := hr.gone e (notT_fields hd) sb
    exact h _ _ r' ⟨tk, rfl, rfl⟩ fun a oa ea ha => (Bs.del_ne ha).trans ea
theorem iter_range {h0 : Heap} {tgt : PySem.Expr} {I : Addr} {a c : Int} {m : Nat} :
    Iter X h0 tgt (.ref I) ((List.range m).map fun (i : Nat) => Val.int (a + c * i)) (fun _ => True) (· = I) (fun i b => b I = some { cls := .type "range_iterator", dict := none, data := .fields #[rawInt (a + (i : Nat) * c), rawInt ((m : Int) - (i : Nat)), rawInt c], slots := #[] }) where
  kind := fun e ha ea => by subst ha; rw [e] at ea; cases ea; exact ⟨_, rfl⟩
  fr := fun e h => h I _ rfl e
  self := fun hr e hq => wpAny_pyIter_rangeiter (hr.keep _ _ e) hq
  item := fun {A b G s i x Q} hh tk0 hr hg e hx h => by
    rw [List.getElem?_map] at hx
    have hi : i < m := by
      rcases Nat.lt_or_ge i m with q | q
      · exact q
      · rw [List.getElem?_eq_none (by rw [List.length_range]; exact q)] at hx; cases hx
    rw [List.getElem?_range hi] at hx
    cases hx
    refine wpAny_pyNext_range_item (hr.keep _ _ e) (by omega) fun h' ho' sb => ⟨_, rfl, ?_⟩
    obtain ⟨r', tk⟩ := hr.one e (notT_fields rfl) sb.extBut ho'
    refine skip_go (s := { s with heap := h', toks := s.toks + 1 }) ho' rfl rfl (by decide) ?_
    refine h _ _ _ (by show VR _ (.int (a + c * (i : Int))) _; rw [Int.mul_comm c]; exact .int _ _) r' ⟨tk, rfl, rfl⟩ ?_ fun a oa ea ha => (Bs.put_ne ha).trans ea
    have e1 : a + ((i + 1 : Nat) : Int) * c = a + (i : Int) * c + c := by rw [Int.natCast_add, Int.add_mul, Int.add_assoc]; rw [show ((1 : Nat) : Int) * c = c from Int.one_mul c]
    have e2 : (m : Int) - ((i + 1 : Nat) : Int) = (m : Int) - (i : Int) - 1 := by omega
    rw [e1, e2]; exact Bs.put_eq
  stop := fun {A b G s i Q} hh tk0 hr hg e hx h => by
    have hi' : m ≤ i := by have := List.getElem?_eq_none_iff.mp hx; rwa [List.length_map, List.length_range] at this
    refine wpAny_pyNext_range_end hh (hr.keep _ _ e) (by omega) fun h' sb => ?_
    obtain ⟨r', tk⟩ := hr.gone e (notT_fields rfl) sb
    exact h _ _ r' ⟨tk, rfl, rfl⟩ fun a oa ea ha => (Bs.del_ne ha).trans ea
theorem enumL_get {xs : List Val} {i : Nat} {x : Val} (h : (enumL xs)[i]? = some x) : ∃ v, xs[i]? = some v ∧ x = .tup [.int i, v] := by
  unfold enumL at h
  rw [List.getElem?_map, List.getElem?_zipIdx] at h
  cases e : xs[i]? with
  | none => rw [e] at h; cases h
  | some v => rw [e] at h; cases h; exact ⟨v, rfl, by rw [Nat.zero_add]⟩
theorem enumL_len {xs : List Val} : (enumL xs).length = xs.length := by unfold enumL; rw [List.length_map, List.length_zipIdx]
theorem iter_enum {h0 : Heap} {es : List PySem.Expr} {k : Nat} {pos : Pos} {I it l : Addr} {xs : List Val} (hne : I ≠ it) :
    Iter X h0 (.Tuple es k pos) (.ref I) (enumL xs) (fun G => G l = some (.list xs)) (fun a => a = I ∨ a = it)
      (fun i b => (∃ old, b I = some { cls := .type "enumerate", dict := none, data := .fields #[.none, .bool false, .ref it, rawInt i, .none, old], slots := #[] }) ∧ ∃ o, b it = some o ∧ o.cls = .type "list_iterator" ∧ o.data = .fields #[.ref l, .int i 0]) where
  kind := fun ⟨⟨old, e⟩, o, e', _, hd⟩ ha ea => by
    rcases ha with rfl | rfl
    · rw [e] at ea; cases ea; exact ⟨_, rfl⟩
    · rw [e'] at ea; cases ea; exact ⟨_, hd⟩
  fr := fun ⟨⟨old, e⟩, o, e', r⟩ h => ⟨⟨old, h I _ (.inl rfl) e⟩, o, h it o (.inr rfl) e', r⟩
  self := fun hr ⟨⟨old, e⟩, _⟩ hq => wpAny_pyIter_enum (hr.keep _ _ e) hq
  item := fun {A b G s i x Q} hh tk0 hr hg ⟨⟨old, e⟩, o, e', hc, hd⟩ hx h => by
    obtain ⟨v, hv, rfl⟩ := enumL_get hx
    obtain ⟨ys, kk, hl, ho, hs, _⟩ := own_list hr hg
    obtain ⟨y, hy, hvr⟩ := hs.get hv
    refine wpAny_pyNext_enum_item (hr.keep _ _ e) ⟨o, hr.keep _ _ e', hc, hd⟩ ⟨_, ho, rfl, kk, rfl⟩ (by rw [← Array.getElem?_toList]; exact hy) hne fun h' heo ⟨o2, ho2, hc2, hd2⟩ ht hz hk => ⟨_, rfl, ?_⟩
    refine wpAny_letOwnedTupleGo_enum (s := { s with heap := h', toks := s.toks + 1 }) heo fun h₂ he₂ hs₂ => ?_
    replace hs₂ : Heap.SameBut I h' h₂ := hs₂
    have hIs : I ≠ s.heap.objs.size := Nat.ne_of_lt (Heap.lt_size (hr.keep _ _ e))
    have ho2' : h₂.get? it = some o2 := (hs₂.2 it (Ne.symm hne)).trans ho2
    have ht' := (hs₂.2 _ (Ne.symm hIs)).trans ht
    have hk2 : ∀ a o, ¬ (a = I ∨ a = it) → s.heap.get? a = some o → h₂.get? a = some o := fun a o ha ea => (hs₂.2 a fun q => ha (.inl q)).trans (hk a o (fun q => ha (.inl q)) (fun q => ha (.inr q)) ea)
    have cases3 : ∀ {a : Addr} {oa oI : Obj}, ((b.put it o2).put I oI) a = some oa → (a = I ∧ oa = oI) ∨ (a = it ∧ oa = o2) ∨ (¬ (a = I ∨ a = it) ∧ b a = some oa) := fun {a oa oI} ea => by
      by_cases q : a = I
      · subst q; rw [Bs.put_eq] at ea; cases ea; exact .inl ⟨rfl, rfl⟩
      · rw [Bs.put_ne q] at ea
        by_cases q' : a = it
        · subst q'; rw [Bs.put_eq] at ea; cases ea; exact .inr (.inl ⟨rfl, rfl⟩)
        · rw [Bs.put_ne q'] at ea; exact .inr (.inr ⟨fun w => w.elim q q', ea⟩)
    obtain ⟨r', tk⟩ := hr.step (W := fun a => a = I ∨ a = it) (b' := (b.put it o2).put I _) (h' := h₂) (fun a w => by
      rcases w with rfl | rfl
      · exact ⟨_, e, notT_fields rfl⟩
      · exact ⟨_, e', notT_fields hd⟩) hk2 (fun a oa ea => by
      rcases cases3 ea with ⟨rfl, rfl⟩ | ⟨rfl, rfl⟩ | ⟨w, ea⟩
      · exact he₂
      · exact ho2'
      · exact hk2 a oa w (hr.keep _ _ ea)) fun a oa ea => .inl (by
      rcases cases3 ea with ⟨rfl, rfl⟩ | ⟨rfl, rfl⟩ | ⟨w, ea⟩
      · rw [e]; rfl
      · rw [e']; rfl
      · rw [ea]; rfl)
    exact h _ _ _ (.tup' (ys := [.int i s.toks, y]) ht' (.cons (.int _ _) (.single (hvr.mono tk)))) r' ⟨tk, rfl, rfl⟩ ⟨⟨_, Bs.put_eq⟩, o2, (Bs.put_ne (Ne.symm hne)).trans Bs.put_eq, hc2, hd2⟩ fun a oa ea ha =>
      (Bs.put_ne fun q => ha (.inl q)).trans ((Bs.put_ne fun q => ha (.inr q)).trans ea)
  stop := fun {A b G s i Q} hh tk0 hr hg ⟨⟨old, e⟩, o, e', hc, hd⟩ hx h => by
    obtain ⟨ys, kk, hl, ho, hs, hlen⟩ := own_list hr hg
    refine wpAny_pyNext_enum_end hh (hr.keep _ _ e) ⟨o, hr.keep _ _ e', hc, hd⟩ ⟨_, ho, rfl, kk, rfl⟩ (by
      rw [Array.getElem?_eq_none_iff, ← hlen, ← enumL_len]; exact List.getElem?_eq_none_iff.mp hx) fun h' sb => ?_
    obtain ⟨r', tk⟩ := hr.gone e' (notT_fields hd) sb
    exact h _ _ r' ⟨tk, rfl, rfl⟩ fun a oa ea ha => (Bs.del_ne fun q => ha (.inr q)).trans ea
end
end
noncomputable section
section
variable {X : Cx} {n : Nat} {sc : Scope} {env : Env} {A : Around} {b : Bs} {m : M} {G : Gh} {s : Shared} {e : PySem.Expr} {loc : Bool}
theorem kept_lay {b' : Bs} (l : Lay X loc env b) (k : ∀ a o, b a = some o → (¬ ∃ vs, o.data = .fields vs) → b' a = some o) : Lay X loc env b' where
  loc := by obtain ⟨o, es, ep, h1, h2, h3⟩ := l.loc; exact ⟨o, es, ep, k _ _ h1 (fun ⟨vs, q⟩ => by rw [h2] at q; cases q), h2, h3⟩
  low := l.low
  has hh x hx := by obtain ⟨ca, o, v, h1, h2, h3, r⟩ := l.has hh x hx; exact ⟨ca, o, v, h1, k _ _ h2 (fun ⟨vs, q⟩ => by rw [h3] at q; cases q), h3, r⟩
theorem kept_frm {b' : Bs} {h h' : Heap} (f : Frm env b h m) (t : TK h h') (k : ∀ a o, b a = some o → (¬ ∃ vs, o.data = .fields vs) → b' a = some o) : Frm env b' h' m := fun x v e => by
  obtain ⟨y, hy, hs⟩ := f x v e
  exact ⟨y, hy.mono t, hs.imp (fun ⟨h1, o, es, ep, h2, h3, r⟩ => ⟨h1, o, es, ep, k _ _ h2 (fun ⟨vs, q⟩ => by rw [h3] at q; cases q), h3, r⟩) fun ⟨h1, ca, o, h3, h4, h5⟩ => ⟨h1, ca, o, h3, k _ _ h4 (fun ⟨vs, q⟩ => by rw [h5] at q; cases q), h5⟩⟩
inductive Fl where
  | next
  | brk
  | cont
  | ret (v : Val)
noncomputable abbrev QS := Fl → M → Gh → Prop
inductive FlR (h : Heap) : Fl → Flow → Prop where
  | next : FlR h .next .next
  | brk : FlR h .brk .brk
  | cont : FlR h .cont .cont
  | ret {v : Val} {y : Value} : VR h v y → FlR h (.ret v) (.ret y)
inductive OutS (X : Cx) (env : Env) (b : Bs) (s : Shared) (Q : QS) (fl : Flow) (s' : Shared) : Prop where
  | mk (mf : Fl) (m' : M) (G' : Gh) (b' : Bs) (hfl : FlR s'.heap mf fl) (hr : Rep X b' G' s'.heap) (hf : Frm env b' s'.heap m') (hl : Lay X false env b') (ag : Agr false env b b') (f : Fwd s s') (q : Q mf m' G')
theorem OutS.next {b₁ : Bs} {s₁ : Shared} {Q : QS} {fl : Flow} {s' : Shared} (o : OutS X env b₁ s₁ Q fl s') (a : Agr false env b b₁) (f : Fwd s s₁) : OutS X env b s Q fl s' := by
  cases o with | mk mf m' G' b' h1 h2 h3 h4 h5 h6 h7 => exact .mk mf m' G' b' h1 h2 h3 h4 (a.trans h5) (f.trans h6) h7
structure HyS (X : Cx) (n : Nat) (sc : Scope) (env : Env) (A : Around) (b : Bs) (m : M) (G : Gh) (s : Shared) : Prop where
  hy : Hy X n sc env A b m G s
  hl : Lay X false env b
theorem HyS.next {m' : M} {G' : Gh} {b' : Bs} {s' : Shared} (h : HyS X n sc env A b m G s) (hr : Rep X b' G' s'.heap) (hf : Frm env b' s'.heap m') (hl : Lay X false env b') (ag : Agr false env b b') : HyS X n sc env A b' m' G' s' :=
  ⟨⟨h.hy.he, h.hy.hA, ag.base h.hl h.hy.hb, hr, hf⟩, hl⟩
theorem HyS.here {G' : Gh} {s' : Shared} (h : HyS X n sc env A b m G s) (hy : Hy X n sc env A b m G' s') : HyS X n sc env A b m G' s' := ⟨hy, h.hl⟩
theorem HyS.out {G' : Gh} {s' : Shared} {Q : QS} {fl : Flow} {mf : Fl} (h : HyS X n sc env A b m G s) (hy : Hy X n sc env A b m G' s') (hfl : FlR s'.heap mf fl) (f : Fwd s s') (q : Q mf m G') : OutS X env b s Q fl s' := .mk mf m G' b hfl hy.hr hy.hf h.hl .refl f q
structure SnS (X : Cx) (n : Nat) (sc : Scope) (st : PySem.Stmt) (m : M) (G : Gh) (Q : QS) : Prop where
  go : ∀ {env : Env} {A : Around} {b : Bs} {s : Shared}, HyS X n sc env A b m G s → wpAny (model X.prog X.w) A (exec st env) (OutS X env b s Q) NoE s
structure SnB (X : Cx) (n : Nat) (sc : Scope) (sts : List PySem.Stmt) (m : M) (G : Gh) (Q : QS) : Prop where
  go : ∀ {env : Env} {A : Around} {b : Bs} {s : Shared}, HyS X n sc env A b m G s → wpAny (model X.prog X.w) A (execs sts env) (OutS X env b s Q) NoE s
inductive Then (X : Cx) (n : Nat) (sc : Scope) (sts : List PySem.Stmt) (Q : QS) : Fl → M → Gh → Prop where
  | next {m : M} {G : Gh} (h : SnB X n sc sts m G Q) : Then X n sc sts Q .next m G
  | brk {m : M} {G : Gh} (h : Q .brk m G) : Then X n sc sts Q .brk m G
  | cont {m : M} {G : Gh} (h : Q .cont m G) : Then X n sc sts Q .cont m G
  | ret {v : Val} {m : M} {G : Gh} (h : Q (.ret v) m G) : Then X n sc sts Q (.ret v) m G
theorem SnB.nil {Q : QS} (q : Q .next m G) : SnB X n sc [] m G Q := ⟨fun h => wpAny_execs_nil (h.out h.hy .next .refl q)⟩
theorem SnB.cons {Q : QS} {st : PySem.Stmt} {sts : List PySem.Stmt} (h : SnS X n sc st m G (Then X n sc sts Q)) : SnB X n sc (st :: sts) m G Q := ⟨fun hs =>
  wpAny_execs_cons (wpAny_trans (h.go hs) fun fl s₁ o => by
    cases o with | mk mf m₁ G₁ b₁ hfl hr₁ hf₁ hl₁ ag f₁ hq =>
    cases hq with
    | next h => cases hfl; exact wpAny_trans (h.go (hs.next hr₁ hf₁ hl₁ ag)) fun _ _ q => q.next ag f₁
    | brk h => cases hfl; exact .mk _ m₁ G₁ b₁ .brk hr₁ hf₁ hl₁ ag f₁ h
    | cont h => cases hfl; exact .mk _ m₁ G₁ b₁ .cont hr₁ hf₁ hl₁ ag f₁ h
    | ret h => cases hfl with | ret hv => exact .mk _ m₁ G₁ b₁ (.ret hv) hr₁ hf₁ hl₁ ag f₁ h)⟩
theorem SnS.ret {Q : QS} {pos : Pos} (h : Sn X n sc e m G fun v G' => Q (.ret v) m G') : SnS X n sc (.Return (some e) pos) m G Q := ⟨fun hs =>
  wpAny_Return_some (h.use hs.hy fun y s₁ v G₁ hv hy₁ f₁ q => hs.out hy₁ (.ret hv) f₁ q)⟩
theorem SnS.cont {Q : QS} {pos : Pos} (q : Q .cont m G) : SnS X n sc (.Continue pos) m G Q := ⟨fun hs => wpAny_Continue (hs.out hs.hy .cont .refl q)⟩
theorem SnS.ifs {Q : QS} {t : PySem.Expr} {a c : List PySem.Stmt} {pos : Pos} (h : SnT X n sc t m G fun r G' => Two (SnB X n sc a m G' Q) (SnB X n sc c m G' Q) r) : SnS X n sc (.If t a c pos) m G Q := ⟨fun hs =>
  wpAny_If (h.use hs.hy fun r s₁ G₁ hy₁ f₁ q => by
    cases r
    · exact wpAny_trans ((q.2 rfl).go (hs.here hy₁)) fun _ _ q => q.next .refl f₁
    · exact wpAny_trans ((q.1 rfl).go (hs.here hy₁)) fun _ _ q => q.next .refl f₁)⟩
theorem noInter (h : EnvOK X sc env) : interactive env = false := by
  unfold interactive
  rw [h.scope, h.kind]; rfl
theorem SnS.expr {Q : QS} {pos : Pos} (h : Sn X n sc e m G fun v G' => Q .next m G') (hsw : ∀ env, swapsWith e .none pos.line env = pure false := by intro _; rfl) : SnS X n sc (.Expr e pos) m G Q := ⟨fun hs =>
  wpAny_Expr_any (h.use hs.hy fun y s₁ v G₁ hv hy₁ f₁ q => hs.out hy₁ .next f₁ q) (noInter hs.hy.he) (hsw _)⟩
theorem St.out {Q : QS} {s' : Shared} (h : St X loc env b G s m s') (hl : loc = false) (q : Q .next m G) : OutS X env b s Q .next s' := by
  subst hl
  cases h with | mk b' h1 h2 h3 h4 h5 => exact .mk .next m G b' .next h1 h2 h3 h4 h5 q
theorem SnS.assign {Q : QS} {id : Str} {p pos : Pos} (h : Sn X n sc e m G fun v G' => ∃ m', Put false sc id v m m' ∧ Q .next m' G')
    (hsw : ∀ env, swapsWith e (some (.Name id p)) pos.line env = pure false := by intro _; rfl) : SnS X n sc (.Assign [.Name id p] e pos) m G Q := ⟨fun hs =>
  wpAny_Assign_Name (h.use hs.hy fun y s₁ v G₁ hv hy₁ f₁ q => by
    obtain ⟨m', hb, q⟩ := q
    exact wpAny_trans (hb.go hy₁.he hs.hl hy₁.hr hy₁.hf hv) fun _ _ o => (o.next .refl f₁).out rfl q) (hsw _)⟩
theorem SnS.assignT {Q : QS} {es : List PySem.Expr} {k : Nat} {p pos : Pos} (h : Sn X n sc e m G fun v G' => ∃ m', Bnd X false sc (.Tuple es k p) v m m' ∧ Q .next m' G')
    (hsw : ∀ env, swapsWithSole [.Tuple es k p] e pos.line env = pure false := by intro _; rfl) (hw : ∀ env, swappedStores [.Tuple es k p] e env = pure .none := by intro _; rfl) :
    SnS X n sc (.Assign [.Tuple es k p] e pos) m G Q := ⟨fun hs =>
  Assign_Tuple (h.use hs.hy fun y s₁ v G₁ hv hy₁ f₁ q => by
    obtain ⟨m', hb, q⟩ := q
    exact wpAny_trans (hb.go hy₁.he hy₁.hA.hd hs.hl hy₁.hr hy₁.hf hv) fun _ _ o => (o.next .refl f₁).out rfl q) (hsw _) (hw _)⟩
noncomputable def kept (b b' : Bs) : Prop := ∀ a o, b a = some o → b' a = some o
inductive OutI (X : Cx) (tgt : PySem.Expr) (b : Bs) (s : Shared) (K : List Val → (Gh → Prop) → Gh → Prop) (I : Value) (s' : Shared) : Prop where
  | mk (xs : List Val) (gd : Gh → Prop) (G' : Gh) (b' : Bs) (hid : Addr → Prop) (St : Nat → Bs → Prop) (it : Iter X s'.heap tgt I xs gd hid St) (hn : ∀ a, hid a → b a = none) (hr : Rep X b' G' s'.heap) (kb : kept b b') (st : St 0 b') (f : Fwd s s') (q : K xs gd G')
structure SnI (X : Cx) (n : Nat) (sc : Scope) (iter tgt : PySem.Expr) (m : M) (G : Gh) (K : List Val → (Gh → Prop) → Gh → Prop) : Prop where
  go : ∀ {env : Env} {A : Around} {b : Bs} {s : Shared}, Hy X n sc env A b m G s →
    wpAny (model X.prog X.w) A (eval iter env) (fun x s₁ => wpAny (model X.prog X.w) A (pyIter x) (OutI X tgt b s K) NoE s₁) NoE s
theorem Rep.push {h : Heap} (r : Rep X b G h) (o : Obj) (hf : o.isFreed = false := by rfl) : Rep X (b.put h.objs.size o) G (h.push o) ∧ kept b (b.put h.objs.size o) ∧ (∀ a x, h.get? a = some x → (h.push o).get? a = some x) := by
  have kp : ∀ a x, h.get? a = some x → (h.push o).get? a = some x := fun a x e => Heap.get?_push_of_some _ e
  have hn := get_none (h := h) (Nat.le_refl _)
  exact ⟨r.hide kp hn (Heap.get?_push_size _ hf), fun a x e => (Bs.put_ne fun q => by rw [q, r.noB hn] at e; cases e).trans e, kp⟩
inductive SeqOf (G : Gh) : Val → List Val → (Gh → Prop) → Prop where
  | tup (vs : List Val) : SeqOf G (.tup vs) vs fun _ => True
  | list {a : Addr} {xs : List Val} : G a = some (.list xs) → SeqOf G (.ref a) xs fun G => G a = some (.list xs)
theorem SnI.seq {tgt : PySem.Expr} {K : List Val → (Gh → Prop) → Gh → Prop} (h : Sn X n sc e m G fun v G' => ∃ xs gd, SeqOf G' v xs gd ∧ K xs gd G') : SnI X n sc e tgt m G K := ⟨fun hy => h.use hy fun y s₁ v G₁ hv hy₁ f₁ q => by
  obtain ⟨xs, gd, hS, q⟩ := q
  have fr := hy₁.hr.noB (get_none (Nat.le_refl _))
  cases hS with
  | tup vs =>
    obtain ⟨t, k, ys, rfl, e, hs⟩ := hv.tup_inv
    refine wpAny_pyIter_tuple ⟨_, e, rfl, _, rfl⟩ ?_
    obtain ⟨r', kb, kp⟩ := hy₁.hr.push { cls := .type "tuple_iterator", data := .fields #[.ref t, .int 0 0] }
    exact .mk xs _ G₁ _ _ _ (iter_tup (kp _ _ e) (hs.mono (.of_keep kp))) (fun a q => by subst q; exact fr) r' kb ⟨_, Bs.put_eq, rfl, rfl⟩ (f₁.trans ⟨.of_keep kp, rfl, rfl⟩) q
  | list e =>
    rw [hv.ref_inv]
    obtain ⟨ys, k, hl, ho, hs, _⟩ := own_list hy₁.hr e
    refine wpAny_pyIter_list ⟨_, ho, rfl, k, rfl⟩ ?_
    obtain ⟨r', kb, kp⟩ := hy₁.hr.push { cls := .type "list_iterator", data := .fields #[.ref _, .int 0 0] }
    exact .mk xs _ G₁ _ _ _ iter_list (fun a q => by subst q; exact fr) r' kb ⟨_, Bs.put_eq, rfl, rfl⟩ (f₁.trans ⟨.of_keep kp, rfl, rfl⟩) q⟩
theorem call_named {id : String} {es : List PySem.Expr} {p pos : Pos} (hx : BltOK X) (h1 : id ∈ (["len", "list", "sorted", "any", "all", "sum", "int", "abs", "min", "set", "range", "enumerate", "zip", "isinstance", "bool"] : List String)) (h2 : id ∈ (["list", "int", "set", "range", "enumerate", "zip", "bool"] : List String))
    (hk : GlobIn sc (Str.ofString id)) (hn : NoStar es) {Q : List Val → Gh → Prop} {R : Value → Shared → Prop} (h : SnEs X n sc es m G Q) (hy : Hy X n sc env A b m G s)
    (k : ∀ ys s₁ vs G₁, VRs s₁.heap vs ys → Hy X n sc env A b m G₁ s₁ → Fwd s s₁ → Q vs G₁ → wpAny (model X.prog X.w) A (call (.type id) ys) R NoE s₁) :
    wpAny (model X.prog X.w) A (eval (.Call (.Name (Str.ofString id) p) es [] pos) env) R NoE s :=
  PyProof.Rows.Call_ (wpAny_Name (ld_blt hy.he hy.hb hy.hr hk (hx.mg _ h1) (hx.ty _ h2) (PyProof.Rows.callWith_type (first := []) (hn.any _ _) (args_sound hn h hy k))) (hk.dbg hy.he))
theorem SnI.enum {x : PySem.Expr} {es : List PySem.Expr} {k : Nat} {tp p pos : Pos} {K : List Val → (Gh → Prop) → Gh → Prop} (hx : BltOK X) (hk : GlobIn sc "enumerate") (hn : NoStar [x])
    (h : SnEs X n sc [x] m G fun vs G' => ∃ a xs, vs = [.ref a] ∧ G' a = some (.list xs) ∧ K (enumL xs) (fun G => G a = some (.list xs)) G') : SnI X n sc (.Call (.Name "enumerate" p) [x] [] pos) (.Tuple es k tp) m G K := ⟨fun {env A b s} hy =>
  call_named hx (by decide) (by decide) hk hn h hy fun ys s₁ vs G₁ hv hy₁ f₁ q => by
    obtain ⟨a, xs, rfl, e, q⟩ := q
    obtain ⟨y, rfl, hv'⟩ := hv.one_inv
    rw [hv'.ref_inv]
    have hr₁ := hy₁.hr
    obtain ⟨ys, kk, hl, ho, hs, _⟩ := own_list hr₁ e
    refine call_enumerate_1 ho fun h' he' hit hz kp => wpAny_pyIter_enum he' ?_
    obtain ⟨oi, hoi, hci, hdi⟩ := hit
    have n0 := get_none (h := s₁.heap) (Nat.le_refl _)
    have n1 := get_none (h := s₁.heap) (Nat.le_succ _)
    have hne : s₁.heap.objs.size + 1 ≠ s₁.heap.objs.size := Nat.succ_ne_self _
    have cases3 : ∀ {a : Addr} {oa oI : Obj}, ((b.put s₁.heap.objs.size oi).put (s₁.heap.objs.size + 1) oI) a = some oa → (a = s₁.heap.objs.size + 1 ∧ oa = oI) ∨ (a = s₁.heap.objs.size ∧ oa = oi) ∨ b a = some oa := fun {a oa oI} ea => by
      by_cases q : a = s₁.heap.objs.size + 1
      · subst q; rw [Bs.put_eq] at ea; cases ea; exact .inl ⟨rfl, rfl⟩
      · rw [Bs.put_ne q] at ea
        by_cases q' : a = s₁.heap.objs.size
        · subst q'; rw [Bs.put_eq] at ea; cases ea; exact .inr (.inl ⟨rfl, rfl⟩)
        · rw [Bs.put_ne q'] at ea; exact .inr (.inr ea)
    obtain ⟨r', tk⟩ := hr₁.step (W := fun _ => False) (b' := (b.put s₁.heap.objs.size oi).put (s₁.heap.objs.size + 1) _) (h' := h') (fun _ f => f.elim) (fun a o _ ea => kp a o ea) (fun a oa ea => by
      rcases cases3 ea with ⟨rfl, rfl⟩ | ⟨rfl, rfl⟩ | ea
      · exact he'
      · exact hoi
      · exact kp a oa (hr₁.keep _ _ ea)) fun a oa ea => by
      rcases cases3 ea with ⟨rfl, rfl⟩ | ⟨rfl, rfl⟩ | ea
      · exact .inr (.inl n1)
      · exact .inr (.inl n0)
      · exact .inl (by rw [ea]; rfl)
    refine .mk (enumL xs) _ G₁ _ _ _ (iter_enum hne) (fun a q => ?_) r' (fun a o ea => ?_) ⟨⟨_, Bs.put_eq⟩, oi, (Bs.put_ne (Ne.symm hne)).trans Bs.put_eq, hci, hdi⟩ (f₁.trans ⟨tk, rfl, rfl⟩) q
    · rcases q with rfl | rfl
      · exact hr₁.noB n1
      · exact hr₁.noB n0
    · exact (Bs.put_ne fun q => by rw [q, hr₁.noB n1] at ea; cases ea).trans ((Bs.put_ne fun q => by rw [q, hr₁.noB n0] at ea; cases ea).trans ea)⟩
theorem rangeSize_eq {a b s : Int} (hs : 0 < s) : Builtin.Range.rangeSize a b s = (((b - a + s - 1) / s).toNat : Int) := by
  unfold Builtin.Range.rangeSize
  rw [if_pos hs]
  split
  · have h1 : b - a + s - 1 = (b - a - 1) + 1 * s := by omega
    rw [h1, Int.add_mul_ediv_right _ _ (by omega)]
    have : 0 ≤ (b - a - 1) / s := Int.ediv_nonneg (by omega) (by omega)
    omega
  · have : (b - a + s - 1) / s < 1 := Int.ediv_lt_of_lt_mul hs (by omega)
    omega
structure RangeIs (vs : List Val) (x y z : Int) : Prop where
  args : vs = [.int y] ∧ x = 0 ∧ z = 1 ∨ vs = [.int x, .int y] ∧ z = 1 ∨ vs = [.int x, .int y, .int z]
  a : x.natAbs < cap
  b : y.natAbs < cap
  s : 0 < z ∧ z < cap
theorem RangeIs.two {x y : Int} (h' : x.natAbs < cap) (h : y.natAbs < cap) : RangeIs [.int x, .int y] x y 1 := ⟨.inr (.inl ⟨rfl, rfl⟩), h', h, by decide, by decide⟩
theorem RangeIs.three {x y z : Int} (h' : x.natAbs < cap) (h : y.natAbs < cap) (hz : 0 < z ∧ z < cap) : RangeIs [.int x, .int y, .int z] x y z := ⟨.inr (.inr rfl), h', h, hz⟩
theorem nat_bd {a : Int} {c : Nat} (h : a.natAbs < c) : -(c : Int) < a ∧ a < c := by omega
theorem range_ok {a b s : Int} {vs : List Val} (h : RangeIs vs a b s) : Builtin.Range.small a b s = true ∧ (((b - a + s - 1) / s).toNat) ≤ 2 * cap ∧ (((b - a + s - 1) / s).toNat : Int) = Builtin.Range.rangeSize a b s := by
  obtain ⟨_, ha, hb, hs⟩ := h
  obtain ⟨ha, ha'⟩ := nat_bd ha
  obtain ⟨hb, hb'⟩ := nat_bd hb
  have e := rangeSize_eq (a := a) (b := b) hs.1
  have hle : (((b - a + s - 1) / s).toNat) ≤ 2 * cap := by
    unfold cap at ha ha' hb hb' hs ⊢
    have h1 : (b - a + s - 1) / s ≤ (b - a - 1) / s + 1 := by
      have h1 : b - a + s - 1 = (b - a - 1) + 1 * s := by omega
      rw [h1, Int.add_mul_ediv_right _ _ (by omega)]; exact Int.le_refl _
    have h2 : (b - a - 1) / s ≤ 2097150 := Int.ediv_le_of_le_mul hs.1 (by
      have : 2097150 * 1 ≤ 2097150 * s := Int.mul_le_mul_of_nonneg_left (by omega) (by decide)
      omega)
    omega
  refine ⟨?_, hle, e.symm⟩
  unfold Builtin.Range.small
  rw [e, if_pos hs.1]
  unfold Builtin.Range.rangeFitsLong
  unfold cap at *
  simp only [Bool.and_eq_true, Bool.or_eq_true, decide_eq_true_eq, beq_iff_eq]
  refine ⟨⟨⟨⟨?_, ?_⟩, ?_⟩, ?_⟩, .inr ?_⟩ <;> omega
theorem range_sound {vs : List Val} {ys : List Value} {x y z : Int} (hr : Rep X b G s.heap) (hv : VRs s.heap vs ys) (h : RangeIs vs x y z) {R : Value → Shared → Prop}
    (k : ∀ t u v tk o, o.data = .fields #[.int x t, .int y u, .int z v] → o.isFreed = false → IsRange (s.heap.push o) s.heap.objs.size x y z t u v → R (.ref s.heap.objs.size) { s with heap := s.heap.push o, toks := tk }) :
    wpAny (model X.prog X.w) A (call (.type "range") ys) R NoE s := by
  obtain ⟨a1, a2, a3⟩ := range_ok h
  have ir : ∀ {t u v : Tok}, IsRange (s.heap.push { cls := .type "range", data := .fields #[.int x t, .int y u, .int z v] }) s.heap.objs.size x y z t u v := Heap.get?_push_size _ rfl
  rcases h.args with ⟨rfl, rfl, rfl⟩ | ⟨rfl, rfl⟩ | rfl
  · obtain ⟨w, rfl, h1⟩ := hv.one_inv
    obtain ⟨t, rfl⟩ := h1.int_inv
    exact call_range_1 (k _ _ _ _ _ rfl rfl ir)
  · obtain ⟨w, w', rfl, h1, h2⟩ := hv.two_inv
    obtain ⟨t, rfl⟩ := h1.int_inv
    obtain ⟨t, rfl⟩ := h2.int_inv
    exact call_range_2 (k _ _ _ _ _ rfl rfl ir)
  · obtain ⟨w, ws, rfl, h1, hv'⟩ := hv.cons_inv
    obtain ⟨w', w'', rfl, h2, h3⟩ := hv'.two_inv
    obtain ⟨t, rfl⟩ := h1.int_inv
    obtain ⟨t, rfl⟩ := h2.int_inv
    obtain ⟨t, rfl⟩ := h3.int_inv
    exact call_range_3 (by have := h.s.1; omega) (k _ _ _ _ _ rfl rfl ir) (.inl (noLong (by have := h.s; unfold cap at this; omega)))
theorem SnI.range {es : List PySem.Expr} {tgt : PySem.Expr} {p pos : Pos} {K : List Val → (Gh → Prop) → Gh → Prop} (hx : BltOK X) (hk : GlobIn sc "range") (hn : NoStar es)
    (h : SnEs X n sc es m G fun vs G' => ∃ x y z, RangeIs vs x y z ∧ K (rangeL x y z) (fun _ => True) G') : SnI X n sc (.Call (.Name "range" p) es [] pos) tgt m G K := ⟨fun hy =>
  call_named hx (by decide) (by decide) hk hn h hy fun ys s₁ vs G₁ hv hy₁ f₁ q => by
    obtain ⟨x, y, z, hR, q⟩ := q
    obtain ⟨hsm, hle, hsz⟩ := range_ok hR
    refine range_sound hy₁.hr hv hR fun t u v tk o ho hof hI => ?_
    refine wpAny_pyIter_range hI hsm ?_
    have kp : ∀ a w, s₁.heap.get? a = some w → (s₁.heap.push o).get? a = some w := fun a w e => Heap.get?_push_of_some _ e
    have r2 := hy₁.hr.mono kp
    obtain ⟨r', kb, kp'⟩ := r2.push { cls := .type "range_iterator", data := .fields #[rawInt x, rawInt (Builtin.Range.rangeSize x y z), rawInt z] }
    refine .mk (rangeL x y z) _ G₁ _ _ _ iter_range (fun a q => ?_) r' kb ?_ (f₁.trans ⟨.of_keep fun a o e => kp' a o (kp a o e), rfl, rfl⟩) q
    · subst q; exact r2.noB (get_none (Nat.le_refl _))
    · rw [Bs.put_eq, ← hsz]
      simp⟩
theorem vrs_of {h : Heap} {xs : List Val} {ys : List Value} (hl : xs.length = ys.length) (k : ∀ (j : Nat) (y : Value), ys[j]? = some y → ∃ x, xs[j]? = some x ∧ VR h x y) : VRs h xs ys := ⟨hl, fun i v y e1 e2 => by
  obtain ⟨x, e, r⟩ := k i y e2
  rw [e1] at e; cases e; exact r⟩
theorem Sn.listRange {Q : QE} {es : List PySem.Expr} {p p1 p2 pos : Pos} (hx : BltOK X) (hk : GlobIn sc "range") (hk2 : GlobIn sc "list") (hn : NoStar es) (h : SnEs X n sc es m G fun vs G' => ∃ x y z, RangeIs vs x y z ∧ newList (rangeL x y z) G' Q) :
    Sn X n sc (.Call (.Name "list" p2) [.Call (.Name "range" p) es [] p1] [] pos) m G Q := ⟨fun hy => by
  refine PyProof.Rows.Call_ (wpAny_Name (ld_blt hy.he hy.hb hy.hr hk2 (hx.mg "list" (by decide)) (hx.ty "list" (by decide)) ?_) (hk2.dbg hy.he))
  refine PyProof.Rows.callWith_type1 (args_cons ?_)
  refine call_named hx (by decide) (by decide) hk hn h hy fun ys s₁ vs G₁ hv hy₁ f₁ q => ?_
  obtain ⟨x, y, z, hR, q⟩ := q
  obtain ⟨hsm, hle, hsz⟩ := range_ok hR
  refine range_sound hy₁.hr hv hR fun t u v tk o ho hof hI => ?_
  refine args_nil ?_
  have kp : ∀ a w, s₁.heap.get? a = some w → (s₁.heap.push o).get? a = some w := fun a w e => Heap.get?_push_of_some _ e
  have r2 := hy₁.hr.mono kp
  refine call_list_range hy₁.hA.hd hI hsm hsz.symm (by unfold cap at hle; omega) fun h' tk acc c' kp' hD hA => ?_
  have hlen : (rangeL x y z).length = (((y - x + z - 1) / z).toNat) := by unfold rangeL; rw [List.length_map, List.length_range]
  have hV : VRs h' (rangeL x y z) acc.toList := by
    refine vrs_of (by rw [hlen, Array.length_toList, hA.1]) fun j w hw => ?_
    rw [Array.getElem?_toList] at hw
    obtain ⟨tk', e⟩ := hA.2 j w hw
    have hj := (Array.getElem?_eq_some_iff.mp hw).1
    rw [hA.1] at hj
    refine ⟨_, ?_, by rw [e]; exact .int _ _⟩
    unfold rangeL
    rw [List.getElem?_map, List.getElem?_range hj, Option.map_some, Int.mul_comm z]
  exact (newL2 (s := { s₁ with heap := s₁.heap.push o, toks := _ }) (s' := { s₁ with heap := h', toks := tk }) (Q := Q) hy₁.hb r2 (by rw [hlen]; exact hle) kp' (get_none (Nat.le_refl _)) hD (hlow hy₁.hb r2) hV rfl rfl q).next (f₁.trans ⟨.of_keep kp, rfl, rfl⟩)⟩
end
end
noncomputable section
section
variable {X : Cx} {n : Nat} {sc : Scope} {env : Env} {A : Around} {b : Bs} {m : M} {G : Gh} {s : Shared} {e : PySem.Expr} {loc : Bool}
inductive Turn (J : M → Gh → Prop) (Q : QS) : Fl → M → Gh → Prop where
  | next {m : M} {G : Gh} (h : J m G) : Turn J Q .next m G
  | cont {m : M} {G : Gh} (h : J m G) : Turn J Q .cont m G
  | brk {m : M} {G : Gh} (h : Q .next m G) : Turn J Q .brk m G
  | ret {v : Val} {m : M} {G : Gh} (h : Q (.ret v) m G) : Turn J Q (.ret v) m G
structure LoopOK (X : Cx) (n : Nat) (sc : Scope) (tgt : PySem.Expr) (body : List PySem.Stmt) (gd : Gh → Prop) (Q : QS) (I : List Val → M → Gh → Prop) : Prop where
  turn : ∀ x xs m G, I (x :: xs) m G → gd G ∧ ∃ m', Bnd X false sc tgt x m m' ∧ SnB X n sc body m' G (Turn (I xs) Q)
  stop : ∀ m G, I [] m G → gd G ∧ Q .next m G
theorem drop_cons {α : Type} {xs : List α} {i : Nat} {x : α} (hx : xs[i]? = some x) : i < xs.length ∧ xs.drop i = x :: xs.drop (i + 1) := by
  obtain ⟨hlt, e⟩ := List.getElem?_eq_some_iff.mp hx
  exact ⟨hlt, by rw [List.drop_eq_getElem_cons hlt, e]⟩
theorem drop_nil {α : Type} {xs : List α} {i : Nat} (hx : xs[i]? = none) : xs.drop i = [] := List.drop_eq_nil_of_le (List.getElem?_eq_none_iff.mp hx)
inductive ForI (X : Cx) (env : Env) (b : Bs) (s s₂ : Shared) (xs : List Val) (St : Nat → Bs → Prop) (I : List Val → M → Gh → Prop) (k : Nat) (s' : Shared) : Prop where
  | mk (i : Nat) (bi : Bs) (mi : M) (Gi : Gh) (hk : k = xs.length + 1 - i) (hr : Rep X bi Gi s'.heap) (hf : Frm env bi s'.heap mi) (hl : Lay X false env bi) (st : St i bi) (ag : Agr false env b bi) (tk : TK s₂.heap s'.heap) (f : Fwd s s') (h : I (xs.drop i) mi Gi)
theorem SnS.fors {Q : QS} {iter tgt : PySem.Expr} {body : List PySem.Stmt} {pos : Pos} (h : SnI X n sc iter tgt m G fun xs gd G' => ∃ I, LoopOK X n sc tgt body gd Q I ∧ I xs m G')
    (hs : ∀ env x, foldedSetIterable iter env x = pure x := by intro _ _; rfl) : SnS X n sc (.For tgt iter body [] pos) m G Q := ⟨fun {env A b s} hys => by
  have hA := hys.hy.hA
  have he := hys.hy.he
  refine wpAny_For (wpAny_trans (h.go hys.hy) fun x s₁ h₁ => wpAny_trans h₁ fun I₀ s₂ o => ?_) (hs env)
  cases o with | mk xs gd G₂ b₂ hid St it hn hr₂ kb st f₂ q =>
  obtain ⟨I, ok, q⟩ := q
  refine codeAny_forLoop_any (ForI X env b s s₂ xs St I) (fun k s' hI => ?_) (xs.length + 1) (.mk 0 b₂ m G₂ rfl hr₂ (kept_frm hys.hy.hf f₂.tk fun a o e _ => kb a o e) (kept_lay hys.hl fun a o e _ => kb a o e) st (fun a o e _ => kb a o e) (.refl _) f₂ q)
  cases hI with | mk i bi mi Gi hk hri hfi hli sti agi tki fi hgo =>
  have keepF : ∀ {b' : Bs}, (∀ a o, bi a = some o → ¬ hid a → b' a = some o) → (∀ a o, bi a = some o → (¬ ∃ vs, o.data = .fields vs) → b' a = some o) := fun k a o e nf => k a o e fun q => nf (it.kind sti q e)
  have agH : ∀ {b' : Bs}, (∀ a o, bi a = some o → ¬ hid a → b' a = some o) → Agr false env b b' := fun k a o e no => k a o (agi a o e no) fun q => by rw [hn a q] at e; cases e
  cases hx : xs[i]? with
  | none =>
    rw [drop_nil hx] at hgo
    obtain ⟨g1, g2⟩ := ok.stop _ _ hgo
    refine wpAny_anyE (it.stop hA.hd tki hri g1 sti hx (Q := fun r s₁ => r = none ∧ OutS X env b s Q .next s₁) fun s₁ b₁ hr₁ f₁ k₁ => ⟨rfl, .mk .next mi Gi b₁ .next hr₁ (kept_frm hfi f₁.tk (keepF k₁)) (kept_lay hli (keepF k₁)) (agH k₁) (fi.trans f₁) g2⟩) ?_
    rintro r s₁ ⟨rfl, hout⟩
    exact wpAny_execs_nil hout
  | some x =>
    obtain ⟨hlt, hdrop⟩ := drop_cons hx
    rw [hdrop] at hgo
    obtain ⟨hgd, m', hB, hbody⟩ := ok.turn _ _ _ _ hgo
    refine wpAny_anyE (it.item hA.hd tki hri hgd sti hx (Q := fun y s₁ => ∃ b₁, VR s₁.heap x y ∧ Rep X b₁ Gi s₁.heap ∧ Fwd s' s₁ ∧ St (i + 1) b₁ ∧ ∀ a o, bi a = some o → ¬ hid a → b₁ a = some o) fun y s₁ b₁ h1 h2 h3 h4 h5 => ⟨b₁, h1, h2, h3, h4, h5⟩) ?_
    rintro r s₁ ⟨y, rfl, hy⟩
    refine wpAny_anyE hy ?_
    rintro _ s₂' ⟨b₁, hv, hr₁, f₁, st₁, k₁⟩
    refine wpAny_anyE (hB.go he hA.hd (kept_lay hli (keepF k₁)) hr₁ (kept_frm hfi f₁.tk (keepF k₁)) hv) fun _ s₃ o => ?_
    cases o with | mk b₃ hr₃ hf₃ hl₃ ag₃ f₃ =>
    have ag' := (agH k₁).trans ag₃
    refine wpAny_anyE (hbody.go (hys.next hr₃ hf₃ hl₃ ag')) fun fl s₄ o => ?_
    cases o with | mk mf m₄ G₄ b₄ hfl hr₄ hf₄ hl₄ ag₄ f₄ hq =>
    have f' := (f₁.trans f₃).trans f₄
    have next : I (xs.drop (i + 1)) m₄ G₄ → ∃ n, n < k ∧ ForI X env b s s₂ xs St I n s₄ := fun hI =>
      ⟨xs.length + 1 - (i + 1), by omega, .mk (i + 1) b₄ m₄ G₄ rfl hr₄ hf₄ hl₄ (it.fr st₁ fun a o ha e => by
        have no : ¬ Own false env a := fun q => by obtain ⟨_, o', e', _⟩ := q.data hys.hl; rw [hn _ ha] at e'; cases e'
        exact ag₄ a o (ag₃ a o e no) no) (ag'.trans ag₄) (tki.trans f'.tk) (fi.trans f') hI⟩
    cases hq with
    | next hI => cases hfl; exact next hI
    | cont hI => cases hfl; exact next hI
    | brk hq => cases hfl; exact .mk .next m₄ G₄ b₄ .next hr₄ hf₄ hl₄ (ag'.trans ag₄) (fi.trans f') hq
    | ret hq => cases hfl with | ret hv₄ => exact .mk (.ret _) m₄ G₄ b₄ (.ret hv₄) hr₄ hf₄ hl₄ (ag'.trans ag₄) (fi.trans f') hq⟩
theorem SnS.whil {Q : QS} {t : PySem.Expr} {body : List PySem.Stmt} {pos : Pos} (I : Nat → M → Gh → Prop) (k : Nat) (h0 : I k m G)
    (h : ∀ k m G, I k m G → SnT X n sc t m G fun r G' => Two (SnB X n sc body m G' (Turn (fun m G => ∃ j, j < k ∧ I j m G) Q)) (Q .next m G') r) : SnS X n sc (.While t body [] pos) m G Q := ⟨fun {env A b s} hys => by
  refine wpAny_While (codeAny_whileLoop (fun k s' => ∃ bi mi Gi, Rep X bi Gi s'.heap ∧ Frm env bi s'.heap mi ∧ Lay X false env bi ∧ Agr false env b bi ∧ Fwd s s' ∧ I k mi Gi) ?_ k ⟨b, m, G, hys.hy.hr, hys.hy.hf, hys.hl, .refl, .refl, h0⟩)
  rintro k s' ⟨bi, mi, Gi, hri, hfi, hli, agi, fi, hI⟩
  have hyi := hys.next hri hfi hli agi
  refine wpAny_anyE ((h k mi Gi hI).go hyi.hy) fun r s₁ o => o.elim fun G₁ hr₁ f₁ hq₁ => ?_
  have hy₁ := hyi.here (hyi.hy.next hr₁ f₁)
  cases r with
  | false => exact wpAny_execs_nil (.mk .next mi G₁ bi .next hr₁ hy₁.hy.hf hli agi (fi.trans f₁) (hq₁.2 rfl))
  | true =>
    refine wpAny_anyE ((hq₁.1 rfl).go hy₁) fun fl s₄ o => ?_
    cases o with | mk mf m₄ G₄ b₄ hfl hr₄ hf₄ hl₄ ag₄ f₄ hq =>
    have f' := (fi.trans f₁).trans f₄
    cases hq with
    | next hJ => cases hfl; obtain ⟨j, hj, hJ⟩ := hJ; exact ⟨j, hj, b₄, m₄, G₄, hr₄, hf₄, hl₄, agi.trans ag₄, f', hJ⟩
    | cont hJ => cases hfl; obtain ⟨j, hj, hJ⟩ := hJ; exact ⟨j, hj, b₄, m₄, G₄, hr₄, hf₄, hl₄, agi.trans ag₄, f', hJ⟩
    | brk hq => cases hfl; exact .mk .next m₄ G₄ b₄ .next hr₄ hf₄ hl₄ (agi.trans ag₄) f' hq
    | ret hq => cases hfl with | ret hv₄ => exact .mk (.ret _) m₄ G₄ b₄ (.ret hv₄) hr₄ hf₄ hl₄ (agi.trans ag₄) f' hq⟩
theorem SnS.setIdx {Q : QS} {o i : PySem.Expr} {p pos : Pos} (h : Sn X n sc e m G fun v G₁ => Sn X n sc o m G₁ fun u G₂ => Sn X n sc i m G₂ fun w G₃ => ∃ a es k, u = .ref a ∧ w = .int k ∧ G₃ a = some (.dict es) ∧ es.length < cap ∧ Q .next m (G₃.upd a (.dict (storeE es k v))))
    (hsw : ∀ env, swapsWith e (some (.Subscript o i p)) pos.line env = pure false := by intro _; rfl) : SnS X n sc (.Assign [.Subscript o i p] e pos) m G Q := ⟨fun {env A b s} hs =>
  wpAny_Assign_Subscript (h.use hs.hy fun y s₁ v G₁ hv hy₁ f₁ h₁ => h₁.use hy₁ fun ov s₂ u G₂ hu hy₂ f₂ h₂ => h₂.use hy₂ fun iv s₃ w G₃ hw hy₃ f₃ h₃ => by
    obtain ⟨a, es, k, rfl, rfl, e, hc, q⟩ := h₃
    rw [(hu.mono f₃.tk).ref_inv]
    obtain ⟨t, rfl⟩ := hw.int_inv
    have hr₃ := hy₃.hr
    obtain ⟨hl', kvs, hd, hes⟩ := (hr₃.own _ _ e).2
    obtain ⟨oo, ees, eep, hoo, hxx, _⟩ := id hd
    have hlen := hes.length
    refine wpAny_setItem_pairs (knd := intKind X.prog X.w) (intKind_is _ _ _ _) hd (fun h' hd' hs' => ?_) (by rw [sizeLine_eq]; unfold cap at hl'; omega)
    have kk : TK s₃.heap h' := .sameButT hs' hoo (notT hxx.1)
    have hlst : (storeE es k v).length ≤ 2 * cap := by
      have : (storeE es k v).length ≤ es.length + 1 := by
        unfold storeE
        split
        · rw [List.length_map]; exact Nat.le_succ _
        · rw [List.length_append]; exact Nat.le_refl _
      omega
    have r' := (hr₃.change (g' := .dict (storeE es k v)) e rfl rfl hs' ⟨hlst, _, hd', ((hes.stored k (hv.mono (f₂.trans f₃).tk)).mono kk)⟩).1
    have ff : Fwd s { s₃ with heap := h', toks := s₃.toks + 1 } := ((f₁.trans f₂).trans f₃).trans ⟨kk, rfl, rfl⟩
    exact .mk .next m _ b .next r' (hs.hy.hf.mono ff.tk) hs.hl .refl ff q) (hsw _)⟩
theorem SnS.aug {Q : QS} {x : Str} {v : Val} {op : Operator} {p pos : Pos} (hx : m x v) (h : Sn X n sc e m G fun w G₁ => Op2 X n (inplaceOp op) v w G₁ fun u G₂ => ∃ m', Put false sc x u m m' ∧ Q .next m' G₂) : SnS X n sc (.AugAssign (.Name x p) op e pos) m G Q := ⟨fun hs => by
  obtain ⟨y, hv, hsl⟩ := hs.hy.hf x v hx
  refine wpAny_AugAssign_Name (slot_reads hs.hy.he hs.hy.hr hsl (h.use hs.hy fun z s₁ w G₁ hw hy₁ f₁ h₁ => ?_))
  refine wpAny_trans (h₁.go hy₁.hA hy₁.hb hy₁.hr (hv.mono f₁.tk) hw) fun r s₂ o => o.elim fun u G₂ hu hr₂ f₂ q => ?_
  obtain ⟨m', hp, q⟩ := q
  have hy₂ := hy₁.next hr₂ f₂
  exact wpAny_trans (hp.go hy₂.he hs.hl hy₂.hr hy₂.hf hu) fun _ _ o => (o.next .refl (f₁.trans f₂)).out rfl q⟩
theorem Op2.iadd {Q : QE} {i j : Int} (q : Q (.int (i + j)) G) : Op2 X n (inplaceOp .Add) (.int i) (.int j) G Q := .ints fun hr => P.iadd_int (Out.here hr (.int _ _) q)
theorem list_set_sound {a : Addr} {xs : List Val} {k : Int} {t : Tok} {v : Val} {y : Value} {Q : Unit → Shared → Prop} (hr : Rep X b G s.heap) (e : G a = some (.list xs)) (hk : 0 ≤ k ∧ k < cap) (hn : k.toNat < xs.length) (hv : VR s.heap v y)
    (h : ∀ s', Rep X b (G.upd a (.list (xs.set k.toNat v))) s'.heap → Fwd s s' → Q () s') :
    wpAny (model X.prog X.w) A (setItem (.ref a) (.int k t) y) Q NoE s := by
  obtain ⟨items, nn, hl, ho, hs, hlen⟩ := own_list hr e
  have hL : s.heap.IsList a items := ⟨_, ho, rfl, nn, rfl⟩
  unfold setItem
  try with_reducible refine wpAny_holding ?_
  first | refine wpAny_bind (wpAny_pure ?_) | skip
  refine wpAny_bind (wpAny_sequenceKey hL.typeIs (by decide) ?_)
  refine wpAny_bind (wpAny_callSpecial?_slot (name := Str.ofString "__setitem__") hL.typeIs slot_list_setitem
    (wpAny_call_entry slot_list_setitem hL.typeIs entry_list_setitem ?_ (args_list_setitem _ _ _)))
  show wpAny _ _ (Builtin.List.listSubscript? (.int k t) >>= _) _ _ s
  refine wpAny_bind (wpAny_listSubscript_int (fitsIndex_of hk.1 (by unfold cap at hk; omega)) ?_)
  obtain ⟨j, rfl⟩ := Int.eq_ofNat_of_zero_le hk.1
  rw [Int.toNat_natCast] at hn h
  have hj : j < items.size := by omega
  have hx' : items[j]? = some items[j] := Array.getElem?_eq_getElem hj
  show wpAny _ _ ((seqItemAt a j >>= fun r => pure (r.map (j, ·))) >>= _) _ _ s
  refine wpAny_bind (wpAny_bind (wpAny_seqItemAt ho rfl (wpAny_pure ?_)))
  rw [hx']
  show wpAny _ _ (setSeqItemAt a j y >>= _) _ _ s
  have hD := Heap.get?_update_self (Obj.mapSeq (·.setIfInBounds j y)) ho rfl
  have sb : Heap.SameBut a s.heap (s.heap.update a (Obj.mapSeq (·.setIfInBounds j y))) := Heap.SameBut.update ..
  have kk : TK s.heap (s.heap.update a (Obj.mapSeq (·.setIfInBounds j y))) := .sameButT sb ho (notT rfl)
  have fin : Q () { s with heap := s.heap.update a (Obj.mapSeq (·.setIfInBounds j y)) } := by
    refine h _ (hr.change (g' := .list (xs.set j v)) e rfl rfl sb ⟨by rw [List.length_set]; exact hl, items.setIfInBounds j y, _, hD, ?_⟩).1 ⟨kk, rfl, rfl⟩
    rw [Array.toList_setIfInBounds]
    exact (hs.mono kk).set j (hv.mono kk)
  refine wpAny_bind (wpAny_setSeqItemAt ho rfl ?_)
  first
    | exact wpAny_bind (wpAny_pure (wpAny_pure ⟨.none, rfl, wpAny_pure fin⟩))
    | exact wpAny_pure ⟨.none, rfl, wpAny_pure fin⟩
theorem SnS.augIdx {Q : QS} {o i : PySem.Expr} {p pos : Pos} (h : Sn X n sc o m G fun u G₁ => Sn X n sc i m G₁ fun w G₂ => ∃ a xs k j, u = .ref a ∧ w = .int k ∧ G₂ a = some (.list xs) ∧ (0 ≤ k ∧ k < cap) ∧ xs[k.toNat]? = some (.int j) ∧
      Sn X n sc e m G₂ fun v G₃ => ∃ d, v = .int d ∧ G₃ a = some (.list xs) ∧ Q .next m (G₃.upd a (.list (xs.set k.toNat (.int (j + d))))))
    (ha : ∀ ov iv new, augStore i ov iv new = (do holding [new, ov, iv] (setItem ov iv new); release [new, ov, iv] []; pure .next) := by intro _ _ _; rfl) : SnS X n sc (.AugAssign (.Subscript o i p) .Add e pos) m G Q := ⟨fun {env A b s} hs =>
  PySem.wpAny_AugAssign_SubscriptAny (h.use hs.hy fun ov s₁ u G₁ hu hy₁ f₁ h₁ => h₁.use hy₁ fun iv s₂ w G₂ hw hy₂ f₂ h₂ => by
    obtain ⟨a, xs, k, j, rfl, rfl, e1, hk, hj, h₂⟩ := h₂
    rw [(hu.mono f₂.tk).ref_inv]
    obtain ⟨t, rfl⟩ := hw.int_inv
    obtain ⟨items, nn, hl', hoo, hs', _⟩ := own_list hy₂.hr e1
    obtain ⟨y, hy, hvr⟩ := hs'.get hj
    refine wpAny_getItem_list ⟨_, hoo, rfl, nn, rfl⟩ hk.1 (by unfold cap at hk; omega) (by rw [← Array.getElem?_toList]; exact hy) ?_
    refine h₂.use hy₂ fun z s₃ v G₃ hv hy₃ f₃ h₃ => ?_
    obtain ⟨d, rfl, e3, q⟩ := h₃
    obtain ⟨u1, rfl⟩ := hvr.int_inv
    obtain ⟨u2, rfl⟩ := hv.int_inv
    refine P.iadd_int (list_set_sound (s := { s₃ with toks := s₃.toks + 1 }) hy₃.hr e3 hk (List.getElem?_eq_some_iff.mp hj).1 (.int _ _) fun s' r' f' => ?_)
    have ff : Fwd s s' := ((f₁.trans f₂).trans f₃).trans (Fwd.trans (s₁ := { s₃ with toks := s₃.toks + 1 }) ⟨.refl _, rfl, rfl⟩ f')
    exact .mk .next m _ b .next r' (hs.hy.hf.mono ff.tk) hs.hl .refl ff q) ha⟩
theorem Sn.dict0 {Q : QE} {pos : Pos} (h : ∀ a, G a = Option.none → Q (.ref a) (G.upd a (.dict []))) : Sn X n sc (.Dict [] [] pos) m G Q := ⟨fun {env A b s} hy => by
  refine wpAny_Dict_empty ?_
  have hn := get_none (h := s.heap) (Nat.le_refl _)
  have kp : ∀ a o, s.heap.get? a = some o → (s.heap.push { cls := .type "dict", data := .dict #[] }).get? a = some o := fun a o e => Heap.get?_push_of_some _ e
  exact .mk (.ref _) _ (.ref _) (hy.hr.alloc (g := .dict []) kp hn (hlow hy.hb hy.hr) ⟨Nat.zero_le _, [], Heap.DictOf.new _, .nil⟩ rfl) ⟨.of_keep kp, rfl, rfl⟩ (h _ (hy.hr.noG hn))⟩
theorem wpAny_inMain {M : Model} {E : Value → Shared → Prop} {a : Addr} {o : Obj} {vs : Array Value} {Q : Bool → Shared → Prop} (hc : env.code = .ref a) (ho : s.heap.get? a = some o) (hd : o.data = .fields vs) (h : ∀ r, Q r s) : wpAny M A (inMainModule env) Q E s := by
  unfold inMainModule
  rw [hc]
  show wpAny M A (fieldsOf (.ref a) >>= _) Q E s
  refine wpAny_bind (wpAny_fieldsOf ho hd ?_)
  split
  · exact wpAny_bind (wpAny_askSetting (wpAny_pure (h _)))
  · exact wpAny_pure (h _)
theorem wpAny_newSet {M : Model} {E : Value → Shared → Prop} {Q : Value → Shared → Prop} (h : ∀ led : Bool, Q (.ref s.heap.objs.size) { s with heap := s.heap.push { cls := .type "set", dict := Option.none, data := .set #[] 0 (.fresh 0 0 led) } }) : wpAny M A (newSet (.type "set")) Q E s := by
  unfold newSet setsByText
  refine wpAny_bind (wpAny_bind (wpAny_askSetting (wpAny_pure ?_)))
  exact wpAny_newObj_type (h _) (by size_fits)
theorem Sn.set1 {Q : QE} {i : Int} {k : Nat} {p pos : Pos} (hi : 0 ≤ i ∧ i < 32) (h : ∀ a, G a = Option.none → Q (.ref a) (G.upd a (.set (fun j => decide (j = i)) false))) : Sn X n sc (.Set [.Constant (.int i) k p] 0 pos) m G Q := ⟨fun {env A b s} hy => by
  obtain ⟨ca, co, cvs, hc1, hc2, hc3⟩ := hy.he.code
  rw [arm_eval_Set]
  refine wpAny_bind (wpAny_standAt (wpAny_bind (wpAny_inMain hc1 (hy.hb.kin hy.hr _ _ hc2) hc3 fun r => ?_)))
  have e0 : displayRoad 0 [PySem.Expr.Constant (.int i) k p] = .oneByOne := rfl
  rw [e0]
  unfold setDisplay
  rw [if_neg (by decide)]
  refine wpAny_bind (wpAny_newSet fun led => ?_)
  have hO := newSet_out (Q := fun v G' => ∃ a, v = .ref a ∧ G a = Option.none ∧ G' = G.upd a (.set (fun _ => false) true)) (led := led) hy.hb hy.hr fun a ha => ⟨a, rfl, ha, rfl⟩
  cases hO with | mk v G₁ hv hr₁ f₁ q =>
  obtain ⟨a, rfl, ha, rfl⟩ := q
  have : a = s.heap.objs.size := by cases hv; rfl
  subst this
  have e1 := Gh.upd_same G s.heap.objs.size (.set (fun _ => false) true)
  have e3 : (starEach [PySem.Expr.Constant (.int i) k p] env).map (fun (x : Bool × Sem Value) => (x.1, do let v ← x.2; standAt pos; pure v)) = [(false, do let v ← eval (.Constant (.int i) k p) env; standAt pos; pure v)] := rfl
  dsimp only
  rw [e3]
  generalize ht : (do let v ← eval (PySem.Expr.Constant (.int i) k p) env; standAt pos; pure v : Sem Value) = t
  simp only [List.length_cons, List.length_nil, List.findIdx?_cons, List.findIdx?_nil, Bool.false_eq_true, if_false, Option.map_none, Option.getD_none, Nat.zero_add, List.take_succ_cons, List.take_zero, List.drop_succ_cons, List.drop_zero, List.map_cons, List.map_nil, List.forIn_nil, gt_iff_lt, show ¬ (30 < 1) by decide]
  refine wpAny_bind (wpAny_holding (wpAny_bind (wpAny_evalAll_cons ?_)))
  rw [← ht]
  refine wpAny_bind (wpAny_Constant_int (wpAny_bind (wpAny_standAt (wpAny_pure (wpAny_evalAll_nil ?_)))))
  refine wpAny_bind (wpAny_holding (wpAny_bind ?_))
  rw [List.forIn_cons]
  refine wpAny_bind (wpAny_bind ?_)
  unfold setAdd
  refine wpAny_holding (wpAny_bind (wpAny_pyHash_int ?_))
  refine setAddHashed_sound (X := X) (s := ⟨_, _, _, _, _⟩) (hr₁.own _ _ e1).2.1 hi fun h' sb i' => ?_
  refine wpAny_pure (wpAny_pure ?_)
  rw [if_neg (by decide)]
  refine wpAny_pure (wpAny_bind (wpAny_pure (wpAny_pure (wpAny_pure ?_))))
  obtain ⟨r', tk'⟩ := hr₁.change (g' := .set _ false) e1 rfl rfl sb ⟨i', fun q => nomatch q⟩
  have e2 : ((G.upd s.heap.objs.size (.set (fun _ => false) true)).upd s.heap.objs.size (.set (fun j => false || decide (j = i)) false)) = G.upd s.heap.objs.size (.set (fun j => decide (j = i)) false) := by
    funext z
    unfold Gh.upd
    split <;> rfl
  exact .mk (.ref _) _ (.ref _) r' ⟨f₁.tk.trans tk', f₁.g, f₁.o⟩ (by rw [e2]; exact h _ ha)⟩
end
end
noncomputable section
section
variable {X : Cx} {n : Nat} {sc : Scope}
noncomputable def putL (nm : Str) (h : Int) (key v : Value) : List DictEntry → List DictEntry
  | [] => [⟨h, key, v⟩]
  | e :: l => if e.key.isStr nm then { e with val := v } :: l else e :: putL nm h key v l
theorem putL_len {nm : Str} {h : Int} {key v : Value} : ∀ l : List DictEntry, (putL nm h key v l).length = l.length + (if (l.find? fun e => e.key.isStr nm).isSome then 0 else 1)
  | [] => rfl
  | e :: l => by
    unfold putL
    cases q : e.key.isStr nm with
    | true => simp [List.find?_cons, q]
    | false =>
      simp only [Bool.false_eq_true, if_false, List.length_cons, List.find?_cons, q]
      rw [putL_len l]; omega
theorem putL_ref {nm : Str} {h : Int} {tk : Tok} {v : Value} : ∀ l : List DictEntry, (putL nm h (.str nm tk) v l).any (·.refKey) = l.any (·.refKey)
  | [] => rfl
  | e :: l => by
    unfold putL
    cases q : e.key.isStr nm with
    | true => simp only [if_true, List.any_cons]; rfl
    | false => simp only [Bool.false_eq_true, if_false, List.any_cons, putL_ref l]
theorem putL_find_same {nm : Str} {h : Int} {tk : Tok} {v : Value} : ∀ l : List DictEntry, ∃ e, (putL nm h (.str nm tk) v l).find? (fun e => e.key.isStr nm) = some e ∧ e.val = v
  | [] => ⟨⟨h, .str nm tk, v⟩, by simp [putL, Value.isStr], rfl⟩
  | e :: l => by
    unfold putL
    cases q : e.key.isStr nm with
    | true => exact ⟨{ e with val := v }, by simp only [if_true, List.find?_cons, q], rfl⟩
    | false =>
      obtain ⟨e', h1, h2⟩ := putL_find_same (nm := nm) (h := h) (tk := tk) (v := v) l
      exact ⟨e', by simp only [Bool.false_eq_true, if_false, List.find?_cons, q]; exact h1, h2⟩
theorem isStr_two {x : Value} {a b : Str} (h1 : x.isStr a = true) (h2 : x.isStr b = true) : a = b := by
  cases x with
  | str s t => simp only [Value.isStr, beq_iff_eq] at h1 h2; exact h1.symm.trans h2
  | _ => cases h1
theorem putL_find_ne {nm g : Str} {h : Int} {tk : Tok} {v : Value} (hne : g ≠ nm) : ∀ l : List DictEntry, (putL nm h (.str nm tk) v l).find? (fun e => e.key.isStr g) = l.find? fun e => e.key.isStr g
  | [] => by simp [putL, Value.isStr, Ne.symm hne]
  | e :: l => by
    unfold putL
    cases q : e.key.isStr nm with
    | true =>
      have : e.key.isStr g = false := by
        cases z : e.key.isStr g with
        | false => rfl
        | true => exact absurd (isStr_two z q) hne
      simp only [if_true, List.find?_cons, this]
    | false =>
      simp only [Bool.false_eq_true, if_false, List.find?_cons, putL_find_ne hne l]
theorem putL_eq {nm : Str} {h : Int} {key v : Value} : ∀ l : List DictEntry, putL nm h key v l = match l.findIdx? (fun e => e.key.isStr nm) with
      | some i => l.modify i fun e => { e with val := v }
      | none => l ++ [⟨h, key, v⟩]
  | [] => rfl
  | e :: l => by
    unfold putL
    rw [List.findIdx?_cons]
    cases q : e.key.isStr nm with
    | true => simp
    | false =>
      simp only [Bool.false_eq_true, if_false]
      rw [putL_eq l]
      cases l.findIdx? (fun e => e.key.isStr nm) <;> simp
theorem put_data {nm : Str} {h : Int} {key v : Value} {cc : Value} {d : Option Addr} {es : Array DictEntry} {k : Nat} {sl : Array (Option Value)} : ∃ k', Obj.putName nm h key v ⟨cc, d, .dict es k, sl⟩ = ⟨cc, d, .dict (putL nm h key v es.toList).toArray k', sl⟩ := by
  rw [Obj.putName_eq]
  obtain ⟨l⟩ := es
  unfold Obj.putNameByArray
  dsimp only
  rw [putL_eq]
  rw [List.findIdx?_toArray]
  cases l.findIdx? (fun e => e.key.isStr nm) with
  | some i => exact ⟨k, by simp⟩
  | none => exact ⟨k + 1, by simp⟩
theorem look_put_same {nm : Str} {h : Int} {tk : Tok} {v : Value} {es : Array DictEntry} {k : Nat} : lookIn nm ⟨.type "dict", none, .dict (putL nm h (.str nm tk) v es.toList).toArray k, #[]⟩ = some (some v) := by
  obtain ⟨e, h1, h2⟩ := putL_find_same (nm := nm) (h := h) (tk := tk) (v := v) es.toList
  unfold lookIn
  dsimp only
  rw [h1]; simp [h2]
theorem look_put_ne {nm g : Str} {h : Int} {tk : Tok} {v : Value} {es : Array DictEntry} {k k' : Nat} (hne : g ≠ nm) : lookIn g ⟨.type "dict", none, .dict (putL nm h (.str nm tk) v es.toList).toArray k, #[]⟩ = lookIn g ⟨.type "dict", none, .dict es k', #[]⟩ := by
  unfold lookIn
  dsimp only
  rw [putL_find_ne hne, putL_ref]
theorem Rep.put_field {b : Bs} {G : Gh} {h h' : Heap} {a d : Addr} {k : Cls} {fs fs' : Fld → Option Val} {ox od : Obj} (r : Rep X b G h) (e : G a = some (.inst k fs)) (hox : h.get? a = some ox) (hd : ox.dict = some d) (hod : h.get? d = some od) (ht : ¬ IsT od) (hs : Heap.SameBut d h h') (i' : Is X h' a (.inst k fs')) :
    Rep X b (G.upd a (.inst k fs')) h' ∧ TK h h' := by
  have tk : TK h h' := .sameButT hs hod ht
  obtain ⟨d1, d2, d3⟩ := r.dsep a k fs ox d e hox hd
  have nG : ∀ x g, G x = some g → x ≠ d := fun x g e' q => by rw [q, d2] at e'; cases e'
  have had : a ≠ d := nG a _ e
  have key : ∀ {y c0 f0 o}, G.upd a (.inst k fs') y = some (.inst c0 f0) → h'.get? y = some o → ∃ c1 f1, G y = some (.inst c1 f1) ∧ h.get? y = some o := fun {y c0 f0 o} q1 q2 => by
    by_cases q : y = a
    · subst q; exact ⟨k, fs, e, (hs.2 _ had).symm.trans q2⟩
    · rw [Gh.upd_ne _ _ q] at q1; exact ⟨c0, f0, q1, (hs.2 y (nG y _ q1)).symm.trans q2⟩
  refine ⟨⟨fun x o ex => (hs.2 x fun q => by rw [q, d1] at ex; cases ex).trans (r.keep _ _ ex), fun x g ex => ?_, fun x g ex => ?_, fun x c' fs0 o dd ex e1 e2 => ?_⟩, tk⟩
  · by_cases q : x = a
    · rw [q]; exact r.low a _ e
    · rw [Gh.upd_ne _ _ q] at ex; exact r.low x g ex
  · by_cases q : x = a
    · subst q; rw [Gh.upd_same] at ex; cases ex; exact ⟨(r.own _ _ e).1, i'⟩
    · rw [Gh.upd_ne _ _ q] at ex
      refine ⟨(r.own x g ex).1, (r.own x g ex).2.move tk (fun o eo => (hs.2 x (nG x g ex)).trans eo) fun o dd eo ed od' eod => (hs.2 dd ?_).trans eod⟩
      obtain ⟨o2, eo2, _, ed2⟩ := (r.own x g ex).2.obj
      rw [eo2] at eo; cases eo
      revert ed2
      cases g with
      | inst c' fs0 => exact fun _ q' => q (d3 x _ _ _ ex eo2 (q' ▸ ed))
      | _ => intro ed2; rw [ed2 rfl] at ed; cases ed
  · obtain ⟨c1, f1, g1, g2⟩ := key ex e1
    obtain ⟨p1, p2, p3⟩ := r.dsep x c1 f1 o dd g1 g2 e2
    refine ⟨p1, (Gh.upd_ne _ _ fun q => by rw [q, e] at p2; cases p2).trans p2, fun y c2 f2 o2 q1 q2 q3 => ?_⟩
    obtain ⟨c3, f3, g3, g4⟩ := key q1 q2
    exact p3 y c3 f3 o2 g3 g4 q3
theorem look_isSome {es : Array DictEntry} {nn : Nat} {x : Str} (h : ∃ w, lookIn x ⟨.type "dict", none, .dict es nn, #[]⟩ = some w) : (!es.any (·.key.isStr x) && es.any (·.refKey)) = false ∧ (∀ w, lookIn x ⟨.type "dict", none, .dict es nn, #[]⟩ = some w → (es.toList.find? fun e => e.key.isStr x).isSome = w.isSome) := by
  obtain ⟨w, h⟩ := h
  unfold lookIn at h ⊢
  dsimp only at h ⊢
  rw [← Array.any_toList, ← Array.any_toList]
  split at h
  · rename_i en he
    rw [List.any_eq_true.mpr ⟨en, List.mem_of_find?_eq_some he, List.find?_some he⟩]
    exact ⟨rfl, fun w hw => by cases hw; rw [he]; rfl⟩
  · rename_i hnone
    split at h
    · cases h
    · rename_i z
      rw [Bool.not_eq_true] at z
      rw [z, Bool.and_false]
      exact ⟨rfl, fun w hw => by rw [hnone]; cases hw; rfl⟩
theorem osa_own {A : Around} {b : Bs} {G : Gh} {s : Shared} {a : Addr} {k : Cls} {fs : Fld → Option Val} {f : Fld} {v : Val} {y : Value} {tk0 : Tok} {R : Result → Shared → Prop} (hc : ClsOK X) (hb : Base X b) (hr : Rep X b G s.heap) (e : G a = some (.inst k fs)) (hv : VR s.heap v y)
    (h : ∀ h' tk, Rep X b (G.upd a (.inst k fun g => if g = f then some v else fs g)) h' → TK s.heap h' → R (.ok (.ret .none)) { s with heap := h', toks := tk }) :
    codeAny (model X.prog X.w) A (.call (.builtin "object.__setattr__") ⟨[.ref a, .str f.txt tk0, y], []⟩) R s := by
  obtain ⟨d, es, nn, h1, h2, h3, h4⟩ := (hr.own _ _ e).2
  have hk := hb.kin hr
  have I0 : InstAt s.heap a ⟨.ref (X.cA k), some d, .plain, #[]⟩ (X.cA k) (some ⟨.type "dict", none, .dict es nn, #[]⟩) := ⟨h1, rfl, rfl, h2⟩
  have hz : es.size ≤ 16 := Nat.le_trans h3 (cntF_le fs)
  have ht : takerIn X.K (X.cA k) f.txt = some none := by unfold takerIn; rw [hc.no k f]; rfl
  have hl : ∃ w : Option Value, lookIn f.txt ⟨.type "dict", none, .dict es nn, #[]⟩ = some w ∧ w.isSome = (fs f).isSome := by
    cases q : fs f with
    | none => exact ⟨_, (h4 f).2 q, rfl⟩
    | some w => obtain ⟨z, hz, _⟩ := (h4 f).1 w q; exact ⟨_, hz, rfl⟩
  obtain ⟨w0, hl, hw0⟩ := hl
  obtain ⟨cc, hfind⟩ := look_isSome ⟨_, hl⟩
  have hfind := (hfind _ hl).trans hw0
  refine osa_open hk I0 (hc.over k) ht fun bb => ?_
  obtain ⟨cd, hcd, hd'⟩ := any_some (show (clsIn X.K (X.cA k)).any (·.hasDict) = true from hc.has k)
  refine wpAny_bind (wpAny_pure (wpAny_bind (wpAny_bind (wpAny_loadPart h1 (wpAny_bind ((looks_clsIn hk hcd).here ?_))))))
  rw [hd']
  refine wpAny_pure (a := some d) (wpAny_bind (wpAny_pure (wpAny_bind ?_)))
  unfold nsSet
  refine wpAny_bind (wpAny_bind (wpAny_askSetting (wpAny_pure (wpAny_bind (wpAny_mkText (wpAny_bind (wpAny_loadPart h2 ?_)))))))
  dsimp only
  rw [aRefKeyMayBeTheName_at, cc]
  refine wpAny_updatePart h2 ?_
  generalize (if f.txt.cps.isEmpty = true then 0 else reduceHash ((model X.prog X.w).w.params.strHash f.txt.cps)) = kh
  obtain ⟨k', hput⟩ := @put_data f.txt kh (.str f.txt s.toks) y (.type "dict") none es nn #[]
  have hlen := putL_len (nm := f.txt) (h := kh) (key := .str f.txt s.toks) (v := y) es.toList
  rw [show es.toList.length = es.size from Array.length_toList, hfind] at hlen
  have D' : (s.heap.update d (Obj.putName f.txt kh (.str f.txt s.toks) y)).get? d = some ⟨.type "dict", none, .dict (putL f.txt kh (.str f.txt s.toks) y es.toList).toArray k', #[]⟩ := by
    have := Heap.get?_update_self (Obj.putName f.txt kh (.str f.txt s.toks) y) h2 (by rw [hput]; rfl)
    rw [hput] at this; exact this
  have sb : Heap.SameBut d s.heap (s.heap.update d (Obj.putName f.txt kh (.str f.txt s.toks) y)) := sameBut_update
  show wpAny _ _ _ _ _ { s with heap := s.heap.update d (Obj.putName f.txt kh (.str f.txt s.toks) y), toks := s.toks + 1 }
  generalize s.heap.update d (Obj.putName f.txt kh (.str f.txt s.toks) y) = h9 at D' sb ⊢
  refine wpAny_bind (wpAny_lookBehind D' (pastItsLine_dict (by rw [List.size_toArray, sizeLine_eq]; split at hlen <;> omega)) ?_)
  refine wpAny_pure ?_
  have tk : TK s.heap h9 := .sameButT sb h2 (notT_dict rfl)
  have had : a ≠ d := fun q => by
    have := (hr.dsep a k fs _ d e h1 rfl).2.1
    rw [← q, e] at this; cases this
  have i' : Is X h9 a (.inst k fun g => if g = f then some v else fs g) := by
    refine ⟨d, _, k', (sb.2 a had).trans h1, D', ?_, fun g => ?_⟩
    · rw [List.size_toArray, hlen, cntF_put]
      exact Nat.add_le_add_right h3 _
    · by_cases hg : g = f
      · subst hg
        dsimp only
        rw [if_pos rfl]
        exact ⟨fun w e => by cases e; exact ⟨y, look_put_same, hv.mono tk⟩, fun q => nomatch q⟩
      · dsimp only
        rw [if_neg hg, look_put_ne (k' := nn) fun q => hg (Fld.txt_inj _ _ q)]
        exact ⟨fun w e => by obtain ⟨z, hz, hw⟩ := (h4 g).1 w e; exact ⟨z, hz, hw.mono tk⟩, (h4 g).2⟩
  obtain ⟨r', _⟩ := hr.put_field e h1 rfl h2 (notT_dict rfl) sb i'
  exact h _ _ r' tk
theorem SnS.setAttr {Q : QS} {m : M} {G : Gh} {o e : PySem.Expr} {attr : Str} {p pos : Pos} (hc : ClsOK X) (f : Fld) (ha : attr = f.txt) (h : Sn X n sc e m G fun v G₁ => Sn X n sc o m G₁ fun u G₂ => ∃ a k fs, u = .ref a ∧ G₂ a = some (.inst k fs) ∧ Q .next m (G₂.upd a (.inst k fun g => if g = f then some v else fs g)))
    (hsw : ∀ env, swapsWith e (some (.Attribute o attr p)) pos.line env = pure false := by intro _; rfl) : SnS X n sc (.Assign [.Attribute o attr p] e pos) m G Q := ⟨fun {env A b s} hs => by
  subst ha
  refine plainObj_wpAny_Assign_Attribute (h.two hs.hy fun x y s₂ v w G₂ hv hw hy₂ f₂ h₂ => ?_) (hsw env)
  obtain ⟨a, k, fs, rfl, e, q⟩ := h₂
  rw [hw.ref_inv]
  have hr := hy₂.hr
  obtain ⟨d, es, nn, h1, h2, h3, h4⟩ := (hr.own _ _ e).2
  have I0 : InstAt s₂.heap a ⟨.ref (X.cA k), some d, .plain, #[]⟩ (X.cA k) (some ⟨.type "dict", none, .dict es nn, #[]⟩) := ⟨h1, rfl, rfl, h2⟩
  refine set_plain (hy₂.hb.kin hr) I0 (hc.setA k) (osa_own (s := { s₂ with toks := s₂.toks + 1 }) hc hy₂.hb hr e hv fun h' tk r' t => ?_)
  have ff : Fwd s { s₂ with heap := h', toks := tk } := f₂.trans ⟨t, rfl, rfl⟩
  exact .mk .next m _ b .next r' (hs.hy.hf.mono ff.tk) hs.hl .refl ff q⟩
end
end
noncomputable section
section
variable {X : Cx} {n : Nat} {sc : Scope} {env : Env} {A : Around} {b : Bs} {m : M} {G : Gh} {s : Shared} {e : PySem.Expr} {loc : Bool}
structure DefAt (X : Cx) (a : Addr) (ps : List Str) (scope : Scope) (body : List PySem.Stmt) : Prop where
  obj : ∃ o fd, X.K.lookup a = some o ∧ o.data = .func fd ∧ fd.body = .stmts body ∧ fd.scope = scope ∧ fd.closure = [] ∧ fd.globals = mainGlobals ∧ fd.builtins = builtinsNs ∧ codeIn X.K fd.code fd.qualname = true ∧
    ∀ ys : List Value, ys.length = ps.length → bindArgs fd ⟨ys, []⟩ = pure (ps.zip ys)
  co : scope.isCoroutine = false
  gen : scope.isGenerator = false
  kind : scope.kind = .function
  par : ∀ p ∈ ps, StoreIn false scope p
  nd : ps.Nodup
  ok : scOK scope = true
theorem cells_mem {x : Str} : ∀ (names : List (Str × NameKind)) (k : Nat) (acc : List (Str × Addr)), ((x, NameKind.cell) ∈ names ∨ ∃ ca, (x, ca) ∈ acc) → ∃ ca, (x, ca) ∈ cellsFrom k names acc := by
  intro names
  induction names with
  | nil => intro k acc h; exact h.elim (fun q => nomatch q) id
  | cons p names ih =>
    intro k acc h
    obtain ⟨y, ky⟩ := p
    unfold cellsFrom
    split
    · rename_i q
      refine ih _ _ ?_
      rcases h with h | ⟨ca, h⟩
      · rcases List.mem_cons.mp h with e | h
        · cases e; exact .inr ⟨k, .head _⟩
        · exact .inl h
      · exact .inr ⟨ca, .tail _ h⟩
    · rename_i q
      refine ih _ _ (h.imp (fun h => ?_) id)
      rcases List.mem_cons.mp h with e | h
      · cases e; exact absurd rfl q
      · exact h
theorem lookup_some {α : Type} {x : Str} {a : α} {l : List (Str × α)} (h : (x, a) ∈ l) : ∃ b, l.lookup x = some b := by
  induction l with
  | nil => cases h
  | cons p l ih =>
    rw [List.lookup_cons]
    split
    · exact ⟨p.2, rfl⟩
    · rename_i q
      rcases List.mem_cons.mp h with e | h
      · subst e; rw [beq_self_eq_true] at q; cases q
      · exact ih h
theorem cells_lookup {x : Str} {names : List (Str × NameKind)} {k : Nat} (h : names.lookup x = some .cell) : ∃ ca, (cellsFrom k names []).lookup x = some ca := by
  obtain ⟨ca, hm⟩ := cells_mem names k [] (.inl (mem_of_lookup h))
  exact lookup_some hm
theorem pair_one {α β : Type} {x y : α} {b : β} {l : List (α × β)} (hp : l.Pairwise (fun p q => p.2 ≠ q.2)) (h1 : (x, b) ∈ l) (h2 : (y, b) ∈ l) : y = x := by
  induction l with
  | nil => cases h1
  | cons p l ih =>
    obtain ⟨q1, q2⟩ := List.pairwise_cons.mp hp
    rcases List.mem_cons.mp h1 with e1 | h1 <;> rcases List.mem_cons.mp h2 with e2 | h2
    · rw [← e1] at e2; cases e2; rfl
    · exact absurd rfl (by have := q1 _ h2; rw [← e1] at this; exact this)
    · exact absurd rfl (by have := q1 _ h1; rw [← e2] at this; exact this)
    · exact ih q2 h1 h2
theorem bind_get {kd : Str → Option NameKind} {x : Str} {y : Value} {l : List (Str × Value)} (hn : (l.map (·.1)).Nodup) : ∀ {mm cm : Str → Option Value},
    ((x, y) ∈ l ∨ (x ∉ l.map (·.1) ∧ (kd x = some .local → mm x = some y) ∧ (kd x ≠ some .local → cm x = some y))) → (kd x = some .local → bindL kd l mm x = some y) ∧ (kd x ≠ some .local → bindC kd l cm x = some y) := by
  induction l with
  | nil => intro mm cm h; exact (h.resolve_left fun q => nomatch q).2
  | cons p l ih =>
    intro mm cm h
    obtain ⟨n1, n2⟩ := List.nodup_cons.mp hn
    obtain ⟨z, u⟩ := p
    unfold bindL bindC
    refine ih n2 ?_
    rcases h with h | ⟨h0, h1, h2⟩
    · rcases List.mem_cons.mp h with e | h
      · cases e
        refine .inr ⟨n1, fun hk => ?_, fun hk => ?_⟩
        · rw [if_pos hk]; exact if_pos rfl
        · rw [if_neg hk]; exact if_pos rfl
      · exact .inl h
    · have hne : x ≠ z := fun q => h0 (by rw [q]; exact .head _)
      refine .inr ⟨fun q => h0 (.tail _ q), fun hk => ?_, fun hk => ?_⟩
      · split
        · exact (if_neg hne).trans (h1 hk)
        · exact h1 hk
      · split
        · exact h2 hk
        · exact (if_neg hne).trans (h2 hk)
theorem zip_vals {h : Heap} {x : Str} {v : Val} {ps : List Str} {vs : List Val} {ys : List Value} (r : VRs h vs ys) (hx : (x, v) ∈ ps.zip vs) : ∃ y, (x, y) ∈ ps.zip ys ∧ VR h v y := by
  obtain ⟨i, hi⟩ := List.mem_iff_getElem?.mp hx
  rw [List.getElem?_zip_eq_some] at hi
  obtain ⟨y, e, q⟩ := r.get hi.2
  exact ⟨y, List.mem_of_getElem? (i := i) (List.getElem?_zip_eq_some.mpr ⟨hi.1, e⟩), q⟩
structure AOc (A : Around) (n : Nat) : Prop where
  hd : A.handled = none
  dep : A.depth + 3 * n + 19 ≤ recursionLimit
  uni : A.units + 30 * n + 290 ≤ cLine
theorem AOk.call (h : AOk A n) : AOc A n := ⟨h.hd, by have := h.dep; omega, by have := h.uni; omega⟩
theorem AOc.deeper (h : AOc A (n + 1)) {env : Env} : AOk (A.deeper env) n := ⟨h.hd, by have := h.dep; show A.depth + 1 + 3 * n + 20 ≤ _; omega, by have := h.uni; show A.units + 3 + 30 * n + 300 ≤ _; omega⟩
theorem AOk.new {C : Addr} {ys : List Value} {kw : List (Str × Value)} (h : AOk A n) : AOc (A.under (.builtin "type.__call__" ⟨.ref C :: ys, kw⟩)) n :=
  ⟨h.hd, by have := h.dep; rw [depth_under_kw]; omega, by have := h.uni; have e : (A.under (.builtin "type.__call__" ⟨.ref C :: ys, kw⟩)).units ≤ A.units + 10 := (Nat.add_le_add_left (by decide +kernel : (Code.builtin "type.__call__" ⟨[], []⟩).cUnits ≤ 10) A.units); omega⟩
structure Cal (X : Cx) (n : Nat) (f : Addr) (vs : List Val) (G : Gh) (Q : QE) : Prop where
  go : ∀ {A : Around} {b : Bs} {s : Shared} {ys : List Value} {R : Result → Shared → Prop}, AOc A n → Base X b → Rep X b G s.heap → VRs s.heap vs ys → (∀ v s', Out X b s Q v s' → R (.ok (.ret v)) s') →
    codeAny (model X.prog X.w) A (.call (.ref f) ⟨ys, []⟩) R s
inductive Back (Q : QE) : Fl → M → Gh → Prop where
  | ret {v : Val} {m : M} {G : Gh} (h : Q v G) : Back Q (.ret v) m G
  | next {m : M} {G : Gh} (h : Q .none G) : Back Q .next m G
theorem frame_ok {a : Addr} {fd : FuncData} {ps : List Str} {h' : Heap} {vs : List Val} {ys : List Value} (hb : Base X b) (hr : Rep X b G s.heap) (hv : VRs s.heap vs ys) (hl : ps.length = ys.length) (hnd : ps.Nodup) (hpar : ∀ p ∈ ps, StoreIn false fd.scope p)
    (he : EnvOK X fd.scope (callEnvC fd s.heap.objs.size a)) (kp : ∀ x o, s.heap.get? x = some o → h'.get? x = some o) (hm : ∀ x v, m x v → (x, v) ∈ ps.zip vs)
    (hns : h'.Ns s.heap.objs.size (bindL (callEnvC fd s.heap.objs.size a).kindOf (ps.zip ys) fun _ => none))
    (hcell : ∀ x c, (callEnvC fd s.heap.objs.size a).cells.lookup x = some c → h'.IsCell c (bindC (callEnvC fd s.heap.objs.size a).kindOf (ps.zip ys) (fun _ => none) x))
    (hap : (callEnvC fd s.heap.objs.size a).cells.Pairwise fun x y => x.2 ≠ y.2) (hab : ∀ x c, (x, c) ∈ (callEnvC fd s.heap.objs.size a).cells → s.heap.objs.size < c) :
    ∃ b₁, (∀ x o, s.heap.objs.size ≤ x → h'.get? x = some o → b₁ x = some o) ∧ kept b b₁ ∧ Rep X b₁ G h' ∧ TK s.heap h' ∧ Lay X false (callEnvC fd s.heap.objs.size a) b₁ ∧ Frm (callEnvC fd s.heap.objs.size a) b₁ h' m := by
  have hloc : (callEnvC fd s.heap.objs.size a).locals = s.heap.objs.size := rfl
  generalize callEnvC fd s.heap.objs.size a = env at *
  generalize hL : s.heap.objs.size = L at *
  have gn : ∀ x, L ≤ x → s.heap.get? x = none := fun x hx => get_none (by rw [hL]; exact hx)
  have hb1 : ∀ x o, L ≤ x → h'.get? x = some o → (fun x => if L ≤ x then h'.get? x else b x) x = some o := fun x o hx e => (if_pos hx).trans e
  have hb0 : kept b (fun x => if L ≤ x then h'.get? x else b x) := fun x o e => (if_neg (fun hx => by rw [hr.noB (gn x hx)] at e; cases e)).trans e
  generalize (fun x => if L ≤ x then h'.get? x else b x) = b₁ at hb1 hb0
  refine ⟨fun x => if L ≤ x then h'.get? x else b x, fun x o hx e => (if_pos hx).trans e, fun x o e => (if_neg (fun hx => by rw [hr.noB (gn x hx)] at e; cases e)).trans e, ?_⟩
  have split1 : ∀ x o, (if L ≤ x then h'.get? x else b x) = some o → (L ≤ x ∧ h'.get? x = some o) ∨ b x = some o := fun x o e => by
    by_cases hx : L ≤ x
    · rw [if_pos hx] at e; exact .inl ⟨hx, e⟩
    · rw [if_neg hx] at e; exact .inr e
  have up : ∀ x o, L ≤ x → h'.get? x = some o → (if L ≤ x then h'.get? x else b x) = some o := fun x o hx e => (if_pos hx).trans e
  obtain ⟨r₁, tk₁⟩ := hr.step (W := fun _ => False) (b' := fun x => if L ≤ x then h'.get? x else b x) (h' := h') (fun _ f => f.elim) (fun x o _ e => kp x o e)
    (fun x o e => (split1 x o e).elim (fun q => q.2) fun q => kp x o (hr.keep _ _ q)) fun x o e => (split1 x o e).elim (fun q => .inr (.inl (gn x q.1))) fun q => .inl (by rw [q]; rfl)
  have H0n : ∀ x, L ≤ x → X.H0.get? x = none := fun x hx => by
    cases q : X.H0.get? x with
    | none => rfl
    | some o => rw [← gn x hx, hb.kp hr _ _ q]
  obtain ⟨oL, esL, epL, hoL, hdL, hsL, hnL⟩ := hns
  have lloc := up _ _ (Nat.le_refl L) hoL
  refine ⟨r₁, tk₁, ⟨⟨oL, esL, epL, by rw [hloc]; exact lloc, hdL, hsL⟩, by rw [hloc]; exact H0n _ (Nat.le_refl _), fun _ x hx => ?_⟩, fun x v hx => ?_⟩
  · obtain ⟨ca, hca⟩ := he.cel x ((he.kindOf x).symm.trans hx)
    obtain ⟨o', ho', hd'⟩ := hcell x ca hca
    have hlt := hab x ca (mem_of_lookup hca)
    exact ⟨ca, o', _, hca, up _ _ (Nat.le_of_lt hlt) ho', hd', H0n _ (Nat.le_of_lt hlt), by rw [hloc]; exact Nat.ne_of_gt hlt, fun y hy => pair_one hap (mem_of_lookup hca) (mem_of_lookup hy)⟩
  · obtain ⟨y, hy, hvy⟩ := zip_vals hv (hm x v hx)
    have hpx := (List.of_mem_zip hy).1
    have hmap : (ps.zip ys).map (·.1) = ps := List.map_fst_zip (Nat.le_of_eq hl)
    obtain ⟨h2, h3⟩ := bind_get (kd := env.kindOf) (mm := fun _ => none) (cm := fun _ => none) (by rw [hmap]; exact hnd) (.inl hy)
    refine ⟨y, hvy.mono tk₁, ?_⟩
    rcases hpar x hpx with q | ⟨_, q⟩
    · have q' := (he.kindOf x).trans (lookup_of_mem (scOK.nd he.ok) q)
      exact .inl ⟨q', oL, esL, epL, by rw [hloc]; exact lloc, hdL, hsL, (hnL _).trans (h2 q')⟩
    · have q' := (he.kindOf x).trans (lookup_of_mem (scOK.nd he.ok) q)
      obtain ⟨ca, hca⟩ := he.cel _ ((he.kindOf x).symm.trans q')
      obtain ⟨o', ho', hd'⟩ := hcell x ca hca
      exact .inr ⟨.inl q', ca, o', hca, up _ _ (Nat.le_of_lt (hab x ca (mem_of_lookup hca))) ho', by rw [hd', h3 (by rw [q']; exact fun e => nomatch e)]⟩
theorem Cal.def_ {Q : QE} {f : Addr} {ps : List Str} {scope : Scope} {body : List PySem.Stmt} {vs : List Val} (D : DefAt X f ps scope body) (hl : ps.length = vs.length) (m : M) (hm : ∀ x v, m x v → (x, v) ∈ ps.zip vs) (h : SnB X n scope body m G (Back Q)) : Cal X (n + 1) f vs G Q := ⟨fun {A b s ys R} hA hb hr hv hR => by
  obtain ⟨o, fd, hK, hdat, hbody, hsc, hclo, hgl, hbl, hcd, hbind⟩ := D.obj
  have hk := hb.kin hr
  have hlen : ps.length = ys.length := hl.trans hv.length
  subst hsc
  refine codeAny_call_cells (by have := hA.dep; omega) (hk _ _ hK) hdat (X.lim.keeps (hb.kp hr)) (codeRec_of hk hcd) hbody (hbind ys hlen.symm) hclo (fun x hx => ?_) (fun s₁ hc => ?_) D.co D.gen D.kind
  · rcases D.par x.1 (List.of_mem_zip hx).1 with q | ⟨_, q⟩
    · exact .inl (lookup_of_mem (scOK.nd D.ok) q)
    · have q' := lookup_of_mem (scOK.nd D.ok) q
      obtain ⟨ca, hca⟩ := cells_lookup (k := s.heap.objs.size + 1) q'
      exact .inr ⟨q', by rw [hca]; rfl⟩
  · obtain ⟨h', tk, rfl, kp⟩ := hc.done
    have he : EnvOK X fd.scope (callEnvC fd s.heap.objs.size f) := by
      refine ⟨rfl, D.kind, hgl, hbl, fun x hx => cells_lookup hx, ?_, D.ok⟩
      unfold codeIn at hcd
      split at hcd
      · rename_i cc hcc
        split at hcd
        · rename_i q; exact ⟨_, _, _, hcc, q, rfl⟩
        · cases hcd
      · cases hcd
    obtain ⟨b₁, up, hb0, r₁, tk₁, hlay, hfrm⟩ := frame_ok (a := f) hb hr hv hlen D.nd D.par he kp hm hc.toInCall.ns (fun x c e => hc.cell x c e) hc.apart fun x c e => hc.above x c e
    have hys : HyS X n fd.scope (callEnvC fd s.heap.objs.size f) (A.deeper (callEnvC fd s.heap.objs.size f)) b₁ m G { s with heap := h', toks := tk } := ⟨⟨he, hA.deeper, fun x o e => hb0 x o (hb x o e), r₁, hfrm⟩, hlay⟩
    refine wpAny_anyE (h.go hys) fun fl s' o => ?_
    cases o with | mk mf m' G' b' hfl hr' hf' hl' ag f' hq =>
    have back : ∀ x o, b x = some o → b' x = some o := fun x ox ex => ag x ox (hb0 _ _ ex) fun w => by
      have hx : x < s.heap.objs.size := Heap.lt_size (hr.keep _ _ ex)
      rcases w with w | ⟨_, z, _, w⟩
      · rw [w] at hx; exact Nat.lt_irrefl _ hx
      · exact absurd (Nat.lt_trans hx (hc.above z x (mem_of_lookup w))) (Nat.lt_irrefl _)
    have ff : Fwd s s' := Fwd.trans (s₁ := { s with heap := h', toks := tk }) ⟨tk₁, rfl, rfl⟩ f'
    cases hq with
    | ret q => cases hfl with | ret hvy => exact hR _ _ (.mk _ G' hvy (hr'.less back) ff q)
    | next q => cases hfl; exact hR _ _ (.mk _ G' .none (hr'.less back) ff q)⟩
structure DefName (X : Cx) (id : Str) (f : Addr) : Prop where
  mg : X.mg id = some (.ref f)
  keep : keepIn X.K (.ref f) = true
theorem Sn.call {Q : QE} {id : Str} {f : Addr} {es : List PySem.Expr} {p pos : Pos} (hd : DefName X id f) (hk : GlobIn sc id) (hn : NoStar es) (h : SnEs X n sc es m G fun vs G₁ => Cal X n f vs G₁ Q) : Sn X n sc (.Call (.Name id p) es [] pos) m G Q := ⟨fun hy => by
  refine PyProof.Rows.Call_ (wpAny_Name (ld_glob hy.he hy.hb hy.hr hk hd.mg ?_) (hk.dbg hy.he))
  refine callWith_of (first := []) (keywords := []) (by rw [hn.any]; rfl) (keeps_K hd.keep) (args_sound hn h hy fun ys s₁ vs G₁ hv hy₁ f₁ h₁ => ?_)
  exact ⟨hy₁.hb.kin hy₁.hr, wpAny_call (h₁.go hy₁.hA.call hy₁.hb hy₁.hr hv fun v s' q => q.next f₁)⟩⟩
structure ClsName (X : Cx) (id : Str) (k : Cls) (fi : Addr) : Prop where
  mg : X.mg id = some (.ref (X.cA k))
  keep : keepIn X.K (.ref (X.cA k)) = true
  init : findIn X.K (.ref (X.cA k)) "__init__" = some (some (.ref fi))
  fn : typeIn X.K (.ref fi) = some (.type "function")
theorem Rep.inst {h : Heap} {k : Cls} (hb : Base X b) (r : Rep X b G h) : G (h.objs.size + 1) = none ∧ Rep X b (G.upd (h.objs.size + 1) (.inst k fun _ => none)) ((h.push emptyDict).push (instObj (X.cA k) h.objs.size)) ∧
    ∀ a o, h.get? a = some o → ((h.push emptyDict).push (instObj (X.cA k) h.objs.size)).get? a = some o := by
  have hz : (h.push emptyDict).objs.size = h.objs.size + 1 := Heap.size_push ..
  have kp : ∀ a o, h.get? a = some o → ((h.push emptyDict).push (instObj (X.cA k) h.objs.size)).get? a = some o := fun a o e => Heap.get?_push_of_some _ (Heap.get?_push_of_some _ e)
  have g1 : ((h.push emptyDict).push (instObj (X.cA k) h.objs.size)).get? (h.objs.size + 1) = some (instObj (X.cA k) h.objs.size) := by
    have := Heap.get?_push_size (h.push emptyDict) (o := instObj (X.cA k) h.objs.size) rfl
    rw [hz] at this; exact this
  have g0 : ((h.push emptyDict).push (instObj (X.cA k) h.objs.size)).get? h.objs.size = some emptyDict := Heap.get?_push_of_some _ (Heap.get?_push_size _ rfl)
  have n0 : h.get? h.objs.size = none := get_none (Nat.le_refl _)
  have n1 : h.get? (h.objs.size + 1) = none := get_none (Nat.le_succ _)
  generalize (h.push emptyDict).push (instObj (X.cA k) h.objs.size) = h2 at *
  have hl : h.objs.size + 1 ≠ sysModules := fun q => by
    obtain ⟨mc, ⟨o, es, ep, ho, _⟩, _⟩ := X.lim
    have : (2 : Nat) < h.objs.size := Heap.lt_size (hb.kp r _ _ ho)
    have q' : h.objs.size + 1 = 1 := q
    omega
  have r' := r.mono kp
  have dne : ∀ x c fs o d, G x = some (.inst c fs) → h2.get? x = some o → o.dict = some d → h.get? x = some o ∧ d ≠ h.objs.size ∧ d ≠ h.objs.size + 1 := fun x c fs o d e e1 e2 => by
    obtain ⟨d0, es0, nn0, f1, f2, _⟩ := (r.own _ _ e).2
    rw [kp _ _ f1] at e1; cases e1; cases e2
    exact ⟨f1, (fun q' => by rw [q', n0] at f2; cases f2), (fun q' => by rw [q', n1] at f2; cases f2)⟩
  refine ⟨r.noG n1, ⟨r'.keep, fun a g e => ?_, fun a g e => ?_, fun a c fs o d e e1 e2 => ?_⟩, kp⟩
  · by_cases q : a = h.objs.size + 1
    · rw [q]; exact hl
    · rw [Gh.upd_ne _ _ q] at e; exact r.low a g e
  · by_cases q : a = h.objs.size + 1
    · subst q; rw [Gh.upd_same] at e; cases e
      exact ⟨r.noB n1, h.objs.size, #[], 0, g1, g0, Nat.zero_le _, fun f => ⟨(fun v e => nomatch e), fun _ => rfl⟩⟩
    · rw [Gh.upd_ne _ _ q] at e; exact r'.own a g e
  · by_cases q : a = h.objs.size + 1
    · subst q
      rw [g1] at e1; cases e1; cases e2
      refine ⟨r.noB n0, (Gh.upd_ne _ _ (Ne.symm (Nat.succ_ne_self _))).trans (r.noG n0), fun a' c' fs' o' e' e1' e2' => ?_⟩
      by_cases q : a' = h.objs.size + 1
      · exact q
      · rw [Gh.upd_ne _ _ q] at e'
        exact absurd rfl (dne a' _ _ o' _ e' e1' e2').2.1
    · rw [Gh.upd_ne _ _ q] at e
      obtain ⟨p1, p2, p3⟩ := r'.dsep a c fs o d e e1 e2
      refine ⟨p1, (Gh.upd_ne _ _ (dne a _ _ o _ e e1 e2).2.2).trans p2, fun a' c' fs' o' e' e1' e2' => ?_⟩
      by_cases q' : a' = h.objs.size + 1
      · subst q'
        rw [g1] at e1'; cases e1'; cases e2'
        exact absurd rfl (dne a _ _ o _ e e1 e2).2.1
      · rw [Gh.upd_ne _ _ q'] at e'
        exact p3 a' c' fs' o' e' e1' e2'
theorem Sn.new {Q : QE} {k : Cls} {fi : Addr} {id : Str} {es : List PySem.Expr} {p pos : Pos} (hc : ClsName X id k fi) (hco : ClsOK X) (hk : GlobIn sc id) (hn : NoStar es)
    (h : SnEs X n sc es m G fun vs G₁ => ∀ a, G₁ a = Option.none → Cal X n fi (.ref a :: vs) (G₁.upd a (.inst k fun _ => Option.none)) fun v G₂ => v = .none ∧ Q (.ref a) G₂) : Sn X n sc (.Call (.Name id p) es [] pos) m G Q := ⟨fun hy => by
  refine PyProof.Rows.Call_ (wpAny_Name (ld_glob hy.he hy.hb hy.hr hk hc.mg ?_) (hk.dbg hy.he))
  refine callWith_of (first := []) (keywords := []) (by rw [hn.any]; rfl) (keeps_K hc.keep) (args_sound hn h hy fun ys s₁ vs G₁ hv hy₁ f₁ h₁ => ?_)
  obtain ⟨hh, gg, dd, tt, oo⟩ := s₁
  have hkk := hy₁.hb.kin hy₁.hr
  obtain ⟨hG, r', kp⟩ := Rep.inst (k := k) hy₁.hb hy₁.hr
  refine ⟨hkk, wpAny_call (make_core (makes_of hkk (hco.makes k)) (looks_findIn hkk hc.init) (fun self => bind_fn hkk self hc.fn) (.inl rfl) ?_)⟩
  refine (h₁ _ hG).go hy₁.hA.new hy₁.hb r' (.cons (.ref _) (hv.mono (.of_keep kp))) ?_
  intro v s' o
  cases o with | mk u G' hu hr' f' q =>
  obtain ⟨rfl, q⟩ := q
  rw [hu.none_inv]
  exact ⟨rfl, .mk (.ref _) G' (.ref _) hr' (f₁.trans (Fwd.trans (s₁ := ⟨(hh.push emptyDict).push (instObj (X.cA k) hh.objs.size), gg, dd, tt, oo⟩) ⟨.of_keep kp, rfl, rfl⟩ f')) q⟩⟩
end
end
noncomputable section
section
variable {X : Cx} {n : Nat} {sc : Scope} {env : Env} {A : Around} {b : Bs} {m : M} {G : Gh} {s : Shared} {e : PySem.Expr} {loc : Bool}
theorem draw_list {E : Value → Shared → Prop} {it l : Addr} {items : Array Value} (hne : l ≠ it) (n : Nat) : ∀ (i : Nat) (s : Shared) (Q : List Value → Shared → Prop), s.heap.IsListIter it l i → s.heap.IsList l items → i + n ≤ items.size →
    (∀ h', h'.IsListIter it l (i + n) → Heap.SameBut it s.heap h' → Q ((items.toList.drop i).take n) { s with heap := h' }) → wpAny (model X.prog X.w) A (draw (.ref it) n) Q E s := by
  induction n with
  | zero =>
    intro i s Q hit _ _ hQ
    show wpAny _ _ (pure []) Q E s
    exact wpAny_pure (hQ s.heap hit (Heap.SameBut.refl ..))
  | succ n ih =>
    intro i s Q hit ht hle hQ
    have hlt : i < items.size := by omega
    show wpAny _ _ (pyNext (.ref it) >>= _) Q E s
    refine wpAny_bind (wpAny_pyNext_list_item hit ht (x := items[i]) (Array.getElem?_eq_getElem hlt) fun h₁ hit₁ hs₁ => ?_)
    refine wpAny_bind (wpAny_holding (ih (i + 1) _ _ hit₁ (ht.extBut hs₁.extBut hne) (by omega) fun h₂ hit₂ hs₂ => wpAny_pure ?_))
    have hd : items.toList.drop i = items[i] :: items.toList.drop (i + 1) := by
      rw [List.drop_eq_getElem_cons (by rw [Array.length_toList]; exact hlt), Array.getElem_toList]
    have := hQ h₂ (by rw [show i + (n + 1) = i + 1 + n by omega]; exact hit₂) (hs₁.trans hs₂)
    rw [hd, List.take_succ_cons] at this
    exact this
theorem unpackItems_list {E : Value → Shared → Prop} {t : Addr} {items : Array Value} {Q : List Value → Shared → Prop} (hh : A.handled = none) (ht : s.heap.IsList t items)
    (hQ : ∀ h', Heap.ExtBut s.heap.objs.size s.heap h' → Q items.toList { s with heap := h' }) : wpAny (model X.prog X.w) A (unpackItems (.ref t) items.size none) Q E s := by
  have hlt : t ≠ s.heap.objs.size := by obtain ⟨o, ho, _⟩ := ht; exact Nat.ne_of_lt (Heap.lt_size ho)
  unfold unpackItems
  refine wpAny_bind ?_
  unfold notIterableAtAll
  refine wpAny_bind (wpAny_specialOf ht.typeIs slot_list_iter.lookup ?_)
  refine wpAny_pure ?_
  simp only [Bool.false_eq_true, if_false]
  refine wpAny_bind (wpAny_holding (wpAny_pyIter_list ht ?_))
  refine wpAny_bind (wpAny_holding (draw_list hlt items.size 0 _ _ ⟨_, Heap.get?_push_size _ rfl, rfl, rfl⟩ (ht.push _) (by omega) fun h₁ hit₁ hs₁ => ?_))
  have hall : List.take items.size (List.drop 0 items.toList) = items.toList := by
    rw [List.drop_zero]; exact List.take_of_length_le (by rw [Array.length_toList]; exact Nat.le_refl _)
  rw [hall]
  rw [if_neg (by simp)]
  have ht₁ : h₁.IsList t items := (ht.push _).extBut hs₁.extBut hlt
  refine wpAny_bind (wpAny_holding (wpAny_pyNext_list_end hh hit₁ ht₁ (by simp) fun h₂ he₂ => ?_))
  simp only [Option.isSome_none, Bool.false_eq_true, if_false]
  exact wpAny_pure (hQ h₂ fun b o hb e => he₂ b o hb (hs₁.extBut b o hb (Heap.get?_push_of_some _ e)))
theorem SnS.unpack {Q : QS} {es : List PySem.Expr} {k : Nat} {p pos : Pos} (h : Sn X n sc e m G fun v G' => ∃ a vs m', v = .ref a ∧ G' a = some (.list vs) ∧ Bnds X false sc es vs m m' ∧ Q .next m' G')
    (hsw : ∀ env, swapsWithSole [.Tuple es k p] e pos.line env = pure false := by intro _; rfl) (hw : ∀ env, swappedStores [.Tuple es k p] e env = pure .none := by intro _; rfl) :
    SnS X n sc (.Assign [.Tuple es k p] e pos) m G Q := ⟨fun {env A b s} hs =>
  Assign_Tuple (h.use hs.hy fun y s₁ v G₁ hv hy₁ f₁ q => by
    obtain ⟨a, vs, m', rfl, e, hB, q⟩ := q
    rw [hv.ref_inv]
    obtain ⟨items, nn, hl, ho, hvs, hlen⟩ := own_list hy₁.hr e
    obtain ⟨l1, l2⟩ := hB.len env
    refine wpAny_bind (wpAny_standAt ?_)
    unfold PySem.unpack
    rw [show (assignEach es env).length = items.size by rw [l1, hlen], l2]
    refine wpAny_bind (wpAny_holding (unpackItems_list hy₁.hA.hd ⟨_, ho, rfl, nn, rfl⟩ fun h' eb => ?_))
    have kp : ∀ b o, s₁.heap.get? b = some o → h'.get? b = some o := fun b o e => eb b o (Nat.ne_of_lt (Heap.lt_size e)) e
    exact wpAny_trans (hB.go (s := { s₁ with heap := h' }) hy₁.he hy₁.hA.hd hs.hl (hy₁.hr.mono kp) (hy₁.hf.mono (.of_keep kp)) (hvs.mono (.of_keep kp))) fun _ _ o => (o.next .refl (f₁.trans ⟨.of_keep kp, rfl, rfl⟩)).out rfl q) (hsw _) (hw _)⟩
inductive Puts (sc : Scope) : List Str → List Val → M → M → Prop where
  | nil {m : M} : Puts sc [] [] m m
  | cons {x : Str} {v : Val} {xs : List Str} {vs : List Val} {m m₁ m' : M} : Put false sc x v m m₁ → Puts sc xs vs m₁ m' → Puts sc (x :: xs) (v :: vs) m m'
theorem puts_sound {xs : List Str} {vs : List Val} {m' : M} (h : Puts sc xs vs m m') : ∀ {b : Bs} {s : Shared} {ys : List Value}, EnvOK X sc env → Lay X false env b → Rep X b G s.heap → Frm env b s.heap m → VRs s.heap vs ys →
    xs.length = vs.length ∧ wpAny (model X.prog X.w) A (assignInOrder (xs.map fun x => bindName env x) ys) (fun _ s' => St X false env b G s m' s') NoE s := by
  induction h with
  | nil => intro b s ys he hl hr hf hv; rw [hv.nil_inv]; exact ⟨rfl, wpAny_pure (.mk b hr hf hl .refl .refl)⟩
  | cons hp _ ih =>
    intro b s ys he hl hr hf hv
    obtain ⟨y, zs, rfl, hv1, hv2⟩ := hv.cons_inv
    refine ⟨?_, wpAny_bind (wpAny_holding (bindName_ (wpAny_trans (hp.go he hl hr hf hv1) fun _ s₁ q => ?_)))⟩
    · rename_i hpp _ _ _ _ _
      clear ih
      have : ∀ {xs : List Str} {vs : List Val} {m m' : M}, Puts sc xs vs m m' → xs.length = vs.length := fun h => by
        induction h with
        | nil => rfl
        | cons _ _ ih => exact congrArg (· + 1) ih
      exact congrArg (· + 1) (this (by assumption))
    · cases q with | mk b₁ hr₁ hf₁ hl₁ ag f₁ => exact wpAny_trans (ih he hl₁ hr₁ hf₁ (hv2.mono f₁.tk)).2 fun _ _ q => q.next ag f₁
noncomputable def envOf (sc : Scope) : Env := newEnv sc 0 0 [] "" none .none none 0
theorem swap_of {ts : List PySem.Expr} {v : PySem.Expr} (he : env.scope = sc) : swappedStores ts v env = swappedStores ts v (envOf sc) := by
  have h1 : env.kindOf = (envOf sc).kindOf := by funext x; unfold Env.kindOf; rw [he]; rfl
  have h2 : env.blockKind = (envOf sc).blockKind := by unfold Env.blockKind; rw [he]; rfl
  unfold swappedStores
  rw [h1, h2]
theorem SnS.assignSw {Q : QS} {es : List PySem.Expr} {k : Nat} {p pos : Pos} (xs : List Str) (h : Sn X n sc e m G fun v G' => ∃ vs m', v = .tup vs ∧ Puts sc xs.reverse vs.reverse m m' ∧ Q .next m' G')
    (hw : swappedStores [.Tuple es k p] e (envOf sc) = pure (some xs)) (hsw : ∀ env, swapsWithSole [.Tuple es k p] e pos.line env = pure false := by intro _; rfl) :
    SnS X n sc (.Assign [.Tuple es k p] e pos) m G Q := ⟨fun {env A b s} hs =>
  Assign_Tuple_swapped (h.use hs.hy fun y s₁ v G₁ hv hy₁ f₁ q => by
    obtain ⟨vs, m', rfl, hP, q⟩ := q
    obtain ⟨t, kk, ys, rfl, e1, hvs⟩ := hv.tup_inv
    have hlen : xs.length = ys.toArray.size := by
      have := (puts_sound (X := X) (env := env) (A := A) hP hy₁.he hs.hl hy₁.hr hy₁.hf hvs.reverse).1
      rw [List.length_reverse, List.length_reverse] at this
      rw [List.size_toArray, this, hvs.length]
    rw [hlen]
    refine PySem.wpAny_unpackItems_tuple hy₁.hA.hd ⟨_, e1, rfl, _, rfl⟩ fun h' eb => ?_
    have kp : ∀ b o, s₁.heap.get? b = some o → h'.get? b = some o := fun b o e => eb b o (Nat.ne_of_lt (Heap.lt_size e)) e
    exact wpAny_trans (puts_sound (X := X) (A := A) (s := { s₁ with heap := h' }) hP hy₁.he hs.hl (hy₁.hr.mono kp) (hy₁.hf.mono (.of_keep kp)) ((hvs.mono (.of_keep kp)).reverse)).2 fun _ s₃ o => (o.next .refl (f₁.trans ⟨.of_keep kp, rfl, rfl⟩)).out rfl q) (hsw _) ((swap_of hs.hy.he.scope).trans hw)⟩
noncomputable def relS (sc scope : Scope) : Scope := { scope with names := scope.names.map fun (x, k) => if (k == .free && sc.kind == .function && sc.names.lookup x == some .cell) then (x, .cell) else (x, k) }
theorem relabel_eq {scope : Scope} (h : env.scope = sc) : relabel scope env = relS sc scope := by subst h; rfl
noncomputable def compOK (sc scope : Scope) : Bool :=
  decide (scope.kind = .function) && scope.names.all (fun x => !(decide (x.2 = .cell)) && (!(decide (x.2 = .free)) || decide (sc.names.lookup x.1 = some .cell))) && scOK (relS sc scope)
structure CompOK (sc scope : Scope) : Prop where
  kind : scope.kind = .function
  nocell : ∀ x ∈ scope.names, x.2 ≠ .cell
  free : ∀ x ∈ scope.names, x.2 = .free → sc.names.lookup x.1 = some .cell
  ok : scOK (relS sc scope) = true
theorem compOK.ok {scope : Scope} (h : compOK sc scope = true) : CompOK sc scope := by
  unfold compOK at h
  obtain ⟨h, h3⟩ := Bool.and_eq_true_iff.mp h
  obtain ⟨h1, h2⟩ := Bool.and_eq_true_iff.mp h
  rw [List.all_eq_true] at h2
  refine ⟨of_decide_eq_true h1, fun x hx q => ?_, fun x hx q => ?_, h3⟩
  · have := (Bool.and_eq_true_iff.mp (h2 x hx)).1
    rw [q] at this; cases this
  · have := (Bool.and_eq_true_iff.mp (h2 x hx)).2
    rw [q] at this
    exact of_decide_eq_true this
theorem CompOK.nd {scope : Scope} (h : CompOK sc scope) : (scope.names.map (·.1)).Nodup := by
  have h1 := scOK.nd h.ok
  unfold relS at h1
  dsimp only at h1
  rw [List.map_map] at h1
  refine (congrArg List.Nodup (List.map_congr_left fun p _ => ?_)).mp h1
  obtain ⟨x, k⟩ := p
  show (if _ then _ else _ : Str × NameKind).1 = x
  split <;> rfl
theorem closure_ok (names : List (Str × NameKind)) : (names.map (·.1)).Nodup → (∀ p ∈ names, p.2 = .free → ∃ a, env.cells.lookup p.1 = some a) → ∀ cs : List (Str × Addr), (∀ p ∈ names, cs.lookup p.1 = none) →
    ∃ cl, (forIn names cs fun (p : Str × NameKind) r => (if (p.2 == NameKind.free) = true then do let a ← cellOf env p.1; pure (ForInStep.yield ((p.1, a) :: r)) else pure (ForInStep.yield r) : Sem (ForInStep (List (Str × Addr))))) = pure cl ∧
      (∀ x, (x, NameKind.free) ∈ names → cl.lookup x = env.cells.lookup x) ∧ ∀ x a, cs.lookup x = some a → cl.lookup x = some a := by
  induction names with
  | nil => intro _ _ cs _; exact ⟨cs, rfl, (fun x h => nomatch h), fun x a e => e⟩
  | cons p names ih =>
    intro hn h cs hc
    obtain ⟨m, k⟩ := p
    obtain ⟨n1, n2⟩ := List.nodup_cons.mp hn
    have h' : ∀ p ∈ names, p.2 = .free → ∃ a, env.cells.lookup p.1 = some a := fun p hp => h p (.tail _ hp)
    rw [List.forIn_cons]
    by_cases hk : k = .free
    · subst hk
      obtain ⟨a, ha⟩ := h _ (.head _) rfl
      obtain ⟨cl, e1, e2, e3⟩ := ih n2 h' ((m, a) :: cs) fun p hp => by
        have : (p.1 == m) = false := beq_eq_false_iff_ne.mpr fun q => n1 (q ▸ List.mem_map_of_mem (f := (·.1)) hp)
        rw [List.lookup_cons, this]; exact hc p (.tail _ hp)
      have hce : cellOf env m = pure a := by unfold cellOf; dsimp only at ha; rw [ha]
      refine ⟨cl, ?_, fun x hx => ?_, fun x b e => e3 x b ?_⟩
      · simp only [beq_self_eq_true, if_true]
        rw [hce]
        simp only [pure_bind]
        exact e1
      · rcases List.mem_cons.mp hx with e | hx
        · cases e; rw [e3 m a (List.lookup_cons_self ..)]; exact ha.symm
        · exact e2 x hx
      · have : (x == m) = false := beq_eq_false_iff_ne.mpr fun q => by
          have := hc _ (.head _); rw [q] at e; rw [e] at this; cases this
        rw [List.lookup_cons, this]; exact e
    · obtain ⟨cl, e1, e2, e3⟩ := ih n2 h' cs fun p hp => hc p (.tail _ hp)
      have hb : (k == NameKind.free) = false := beq_eq_false_iff_ne.mpr hk
      refine ⟨cl, ?_, fun x hx => ?_, e3⟩
      · dsimp only
        rw [hb]
        simp only [Bool.false_eq_true, if_false, pure_bind]
        exact e1
      · rcases List.mem_cons.mp hx with e | hx
        · cases e; exact absurd rfl hk
        · exact e2 x hx
theorem closureFor_ok {scope : Scope} (hn : (scope.names.map (·.1)).Nodup) (h : ∀ p ∈ scope.names, p.2 = .free → ∃ a, env.cells.lookup p.1 = some a) :
    ∃ cl, closureFor scope env = pure cl ∧ ∀ x, (x, NameKind.free) ∈ scope.names → cl.lookup x = env.cells.lookup x := by
  obtain ⟨cl, e1, e2, _⟩ := closure_ok (env := env) scope.names hn h [] fun _ _ => rfl
  refine ⟨cl, ?_, e2⟩
  have : closureFor scope env = (forIn scope.names [] fun (p : Str × NameKind) r => (if (p.2 == NameKind.free) = true then do let a ← cellOf env p.1; pure (ForInStep.yield ((p.1, a) :: r)) else pure (ForInStep.yield r) : Sem (ForInStep (List (Str × Addr))))) >>= pure := rfl
  rw [this, e1]; rfl
structure SnC (X : Cx) (n : Nat) (sc : Scope) (ifs : List PySem.Expr) (m : M) (G : Gh) (Q : Bool → Gh → Prop) : Prop where
  go : ∀ {env : Env} {A : Around} {b : Bs} {s : Shared}, Hy X n sc env A b m G s → wpAny (model X.prog X.w) A (forIn ifs true fun c r => if r = true then do let ok ← isTrue c env (eval c env); pure (ForInStep.yield ok) else pure (ForInStep.yield r)) (OutT X b s Q) NoE s
theorem SnC.nil {Q : Bool → Gh → Prop} (q : Q true G) : SnC X n sc [] m G Q := ⟨fun hy => wpAny_pure (.mk G hy.hr .refl q)⟩
theorem tests_false {Q : Bool → Shared → Prop} (h : Q false s) (ifs : List PySem.Expr) : wpAny (model X.prog X.w) A (forIn ifs false fun c r => if r = true then do let ok ← isTrue c env (eval c env); pure (ForInStep.yield ok) else pure (ForInStep.yield r)) Q NoE s := by
  induction ifs with
  | nil => exact wpAny_pure h
  | cons e es ih => rw [List.forIn_cons]; exact wpAny_bind (wpAny_pure ih)
theorem SnC.cons {Q : Bool → Gh → Prop} {es : List PySem.Expr} (h : SnT X n sc e m G fun t G' => Two (SnC X n sc es m G' Q) (Q false G') t) : SnC X n sc (e :: es) m G Q := ⟨fun hy => by
  rw [List.forIn_cons]
  refine wpAny_bind (wpAny_bind (h.use hy fun t s₁ G₁ hy₁ f₁ q => wpAny_pure ?_))
  cases t with
  | false => exact tests_false (.mk G₁ hy₁.hr f₁ (q.2 rfl)) es
  | true => exact wpAny_trans ((q.1 rfl).go hy₁) fun _ _ q => q.next f₁⟩
theorem codeAny_compLoop_go {R : Result → Shared → Prop} {elt target iter : PySem.Expr} {ifs : List PySem.Expr} {scope : Scope} {pos : Pos} {it acc : Value} (I : Nat → Shared → Prop)
    (turn : ∀ n s, I n s → wpAny (model X.prog X.w) A (pyNext it) (fun r s₁ => match r with
      | none => R (.ok .next) s₁
      | some v => wpAny (model X.prog X.w) A (letOwnedTupleGo target it v) (fun _ s₁' => wpAny (model X.prog X.w) A (assign target env v) (fun _ s₂ =>
          wpAny (model X.prog X.w) A (forIn ifs true fun c r => if r = true then do let ok ← isTrue c env (eval c env); pure (ForInStep.yield ok) else pure (ForInStep.yield r)) (fun ok s₃ =>
            if ok = true then wpAny (model X.prog X.w) A (eval elt env) (fun x s₄ =>
              wpAny (model X.prog X.w) A (call (.builtin "list.append") [acc, x]) (fun _ s₅ => ∃ m, m < n ∧ I m s₅) NoE s₄) NoE s₃
            else ∃ m, m < n ∧ I m s₃) NoE s₂) NoE s₁') NoE s₁) NoE s)
    (n : Nat) (h : I n s) :
    codeAny (model X.prog X.w) A (.compLoop (.ListComp elt [⟨target, iter, ifs, 0⟩] scope pos) 0 it acc env) R s := by
  refine codeAny_loop rfl I (fun n s hI => ?_) n h
  show wpAny _ A ((compTurn (.ListComp elt [⟨target, iter, ifs, 0⟩] scope pos) 0 it acc env).onRaise (fun x => do noteFrame x env; theTreesLotGoes x)) _ _ s
  refine wpAny_noted ?_
  rw [compTurn_list]
  refine wpAny_bind (wpAny_standAt (wpAny_bind (wpAny_anyE (turn n s hI) (fun r s₁ h₁ => ?_))))
  cases r with
  | none => exact wpAny_pure h₁
  | some v =>
    refine wpAny_bind (wpAny_anyE h₁ fun _ s₁' h₁' => ?_)
    refine wpAny_bind (wpAny_anyE h₁' (fun _ s₂ h₂ => wpAny_bind (wpAny_anyE h₂ (fun ok s₃ h₃ => ?_))))
    cases ok with
    | false => exact wpAny_pure ⟨rfl, h₃⟩
    | true =>
      exact wpAny_bind (wpAny_bind (wpAny_anyE h₃ (fun x s₄ h₄ => wpAny_bind (wpAny_anyE h₄ (fun _ s₅ h₅ => wpAny_pure (wpAny_pure ⟨rfl, h₅⟩))))))
theorem Rep.give {h : Heap} {D : Addr} {xs : List Val} {ys : Array Value} {k : Nat} (r : Rep X b G h) (hb : b D = some ⟨.type "list", none, .seq ys k, #[]⟩) (hl : D ≠ sysModules) (hn : xs.length ≤ 2 * cap) (hv : VRs h xs ys.toList) :
    G D = none ∧ Rep X (b.del D) (G.upd D (.list xs)) h := by
  have hG : G D = none := by
    cases q : G D with
    | none => rfl
    | some g => have := (r.own _ _ q).1; rw [hb] at this; cases this
  have hD := r.keep _ _ hb
  have r' : Rep X (b.del D) G h := r.less fun a o e => by
    by_cases q : a = D
    · rw [q] at e; unfold Bs.del at e; rw [if_pos rfl] at e; cases e
    · rw [Bs.del_ne q] at e; exact e
  refine ⟨hG, r'.own_change (g := .list xs) rfl hl (by unfold Bs.del; exact if_pos rfl) (fun x c fs ox e e1 => ⟨fun q => ?_, fun q => by rw [q, hG] at e; cases e⟩) (.refl _) (fun x o _ e => e) ⟨hn, ys, k, hD, hv⟩⟩
  have := (r.dsep x c fs ox D e e1 q).1
  rw [hb] at this; cases this
structure CompW (X : Cx) (n : Nat) (sc : Scope) (tgt elt : PySem.Expr) (ifs : List PySem.Expr) (m0 : M) (gd : Gh → Prop) (Q : QE) (I : List Val → List Val → Gh → Prop) : Prop where
  turn : ∀ x xs acc G, I (x :: xs) acc G → gd G ∧ ∃ m', Bnd X true sc tgt x m0 m' ∧ SnC X n sc ifs m' G fun t G₁ => Two (Sn X n sc elt m' G₁ fun v G₂ => I xs (acc ++ [v]) G₂) (I xs acc G₁) t
  stop : ∀ acc G, I [] acc G → gd G ∧ newList acc G Q
inductive CompI (X : Cx) (D C : Addr) (b : Bs) (s s₂ : Shared) (xs : List Val) (St : Nat → Bs → Prop) (I : List Val → List Val → Gh → Prop) (k : Nat) (s' : Shared) : Prop where
  | mk (i : Nat) (bi : Bs) (Gi : Gh) (acc : List Val) (ys : Array Value) (nn : Nat) (hk : k = xs.length + 1 - i) (hr : Rep X bi Gi s'.heap) (ki : kept b bi) (st : St i bi) (hD : bi D = some ⟨.type "list", none, .seq ys nn, #[]⟩) (hv : VRs s'.heap acc ys.toList) (hal : acc.length ≤ i) (hi : i ≤ xs.length)
      (hC : ∃ o es ep, bi C = some o ∧ o.data = .dict es ep ∧ StrKeys es) (tk : TK s₂.heap s'.heap) (f : Fwd s s') (h : I (xs.drop i) acc Gi)
theorem comp_loop {elt iter tgt : PySem.Expr} {ifs : List PySem.Expr} {scope : Scope} {cpos : Pos} {D C : Addr} {Iv : Value} {s s₂ s₃ : Shared} {xs : List Val} {gd : Gh → Prop} {hid : Addr → Prop} {St : Nat → Bs → Prop} {I : List Val → List Val → Gh → Prop} {Q : QE} {m0 : M} {R : Result → Shared → Prop}
    (it : Iter X s₂.heap tgt Iv xs gd hid St) (hn : ∀ a, hid a → b a = none) (hc : xs.length < cap) (ok : CompW X n sc tgt elt ifs m0 gd Q I) (hbD : b D = none) (hbC : b C = none) (hDC : D ≠ C) (hDs : D ≠ sysModules) (hb : Base X b) (hA : AOk A n) (he : EnvOK X sc env)
    (hlay : ∀ {bi : Bs}, (∃ o es ep, bi C = some o ∧ o.data = .dict es ep ∧ StrKeys es) → Lay X true env bi) (hel : env.locals = C) (hfrm : ∀ {bi : Bs} {s' : Shared}, Fwd s s' → kept b bi → Frm env bi s'.heap m0)
    (hR : ∀ acc G' bC s', kept b bC → (∃ oC es ep, bC C = some oC ∧ oC.data = .dict es ep ∧ StrKeys es) → Rep X bC (G'.upd D (.list acc)) s'.heap → Fwd s s' → G' D = none → newList acc G' Q → R (.ok .next) s')
    (h0 : CompI X D C b s s₂ xs St I (xs.length + 1) s₃) : codeAny (model X.prog X.w) A (.compLoop (.ListComp elt [⟨tgt, iter, ifs, 0⟩] scope cpos) 0 Iv (.ref D) env) R s₃ := by
  refine codeAny_compLoop_go (CompI X D C b s s₂ xs St I) (fun k s' hI => ?_) (xs.length + 1) h0
  cases hI with | mk i bi Gi acc ys nn hk hri ki sti hDi hacc hal hi hCi tki fi hgo =>
  have nohidF : ∀ {a : Addr} {o : Obj}, bi a = some o → (¬ ∃ vs, o.data = .fields vs) → ¬ hid a := fun e nf q => nf (it.kind sti q e)
  have hDh : ¬ hid D := nohidF hDi fun ⟨vs, q⟩ => nomatch q
  obtain ⟨oC, esC, epC, c1, c2, c3⟩ := hCi
  have hCh : ¬ hid C := nohidF c1 fun ⟨vs, q⟩ => by rw [c2] at q; cases q
  have kH : ∀ {b' : Bs}, (∀ a o, bi a = some o → ¬ hid a → b' a = some o) → kept b b' := fun k a o e => k a o (ki a o e) fun q => by rw [hn a q] at e; cases e
  cases hx : xs[i]? with
  | none =>
    rw [drop_nil hx] at hgo
    obtain ⟨g1, g2⟩ := ok.stop _ _ hgo
    refine wpAny_trans (it.stop hA.hd tki hri g1 sti hx (Q := fun r s₁ => r = none ∧ R (.ok .next) s₁) fun s₁ b₁ hr₁ f₁ k₁ => ⟨rfl, ?_⟩) fun r s₁ q => by obtain ⟨rfl, hout⟩ := q; exact hout
    obtain ⟨hGD, hg⟩ := hr₁.give (xs := acc) (k₁ D _ hDi hDh) hDs (by omega) (hacc.mono f₁.tk)
    refine hR acc _ (b₁.del D) s₁ (fun a o e => ?_) ⟨oC, esC, epC, (Bs.del_ne (Ne.symm hDC)).trans (k₁ C oC c1 hCh), c2, c3⟩ hg (fi.trans f₁) hGD g2
    exact (Bs.del_ne fun q => by rw [q, hbD] at e; cases e).trans (kH k₁ a o e)
  | some x =>
    obtain ⟨hlt, hdrop⟩ := drop_cons hx
    rw [hdrop] at hgo
    obtain ⟨hgd, m', hB, hT⟩ := ok.turn _ _ _ _ hgo
    refine wpAny_trans (it.item hA.hd tki hri hgd sti hx (Q := fun y s₁ => ∃ b₁, VR s₁.heap x y ∧ Rep X b₁ Gi s₁.heap ∧ Fwd s' s₁ ∧ St (i + 1) b₁ ∧ ∀ a o, bi a = some o → ¬ hid a → b₁ a = some o) fun y s₁ b₁ h1 h2 h3 h4 h5 => ⟨b₁, h1, h2, h3, h4, h5⟩) fun r s₁ q => ?_
    obtain ⟨y, rfl, hy⟩ := q
    refine wpAny_trans hy fun _ s₂' q => ?_
    obtain ⟨b₁, hv, hr₁, f₁, st₁, k₁⟩ := q
    have kb₁ := kH k₁
    have f01 := fi.trans f₁
    refine wpAny_trans (hB.go he hA.hd (hlay ⟨oC, esC, epC, k₁ C oC c1 hCh, c2, c3⟩) hr₁ (hfrm f01 kb₁) hv) fun _ s₃ q => ?_
    cases q with | mk b₄ hr₄ hf₄ hl₄ ag₄ f₄ =>
    have own4 : ∀ a o, b₁ a = some o → a ≠ C → b₄ a = some o := fun a o e ne => ag₄ a o e fun q => by rcases q with q | q; exact ne (q.trans hel); cases q.1
    have kb₄ : kept b b₄ := fun a o e => own4 a o (kb₁ a o e) fun q => by rw [q, hbC] at e; cases e
    have hD4 := own4 D _ (k₁ D _ hDi hDh) hDC
    have hst4 : St (i + 1) b₄ := it.fr st₁ fun a o ha e => own4 a o e fun q => by
      rw [q] at ha; exact hCh ha
    have hy₄ : Hy X n sc env A b₄ m' Gi s₃ := ⟨he, hA, fun a o e => kb₄ a o (hb a o e), hr₄, hf₄⟩
    obtain ⟨oC', esC', epC', c1', c2', c3'⟩ := hl₄.loc
    rw [hel] at c1'
    refine wpAny_trans (hT.go hy₄) fun ok s₄ o => o.elim fun G₅ hr₅ f₅ q₅ => ?_
    have f' := (f₁.trans f₄).trans f₅
    have kk : xs.length + 1 - (i + 1) < k := by omega
    cases ok with
    | false =>
      rw [if_neg (by decide)]
      exact ⟨_, kk, .mk (i + 1) b₄ G₅ acc ys nn rfl hr₅ kb₄ hst4 hD4 (hacc.mono f'.tk) (Nat.le_succ_of_le hal) hlt ⟨oC', esC', epC', c1', c2', c3'⟩ (tki.trans f'.tk) (fi.trans f') (q₅.2 rfl)⟩
    | true =>
      rw [if_pos rfl]
      refine (q₅.1 rfl).use (hy₄.next hr₅ f₅) fun z s₅ v G₆ hv₆ hy₆ f₆ q₆ => ?_
      have hoD := hy₆.hr.keep _ _ hD4
      have hsz : ys.size ≤ sizeLine := by
        have hl : acc.length = ys.size := by rw [hacc.length, Array.length_toList]
        rw [← hl]
        exact fits_of_cap (by omega)
      refine call_meets PySem.F.slot_list_append ⟨_, hoD, rfl⟩ PySem.F.entry_list_append (PySem.F.args_list_append_2 _ _) (list_append D ys nn z hsz) ⟨hoD, ?_⟩
      have hnew := Heap.get?_update_self (Obj.mapSeq fun x_1 => x_1.push z) hoD rfl
      obtain ⟨r₇, tk₇⟩ := hy₆.hr.one hD4 (notT rfl) sameBut_update.extBut hnew
      have f'' : Fwd s' { s₅ with heap := s₅.heap.update D (Obj.mapSeq fun x_1 => x_1.push z) } := (f'.trans f₆).trans ⟨tk₇, rfl, rfl⟩
      refine ⟨_, kk, .mk (i + 1) _ G₆ (acc ++ [v]) (ys.push z) _ rfl r₇ (fun a o e => (Bs.put_ne fun q => by rw [q, hbD] at e; cases e).trans (kb₄ a o e)) (it.fr hst4 fun a o ha e => (Bs.put_ne fun q => by rw [q] at ha; exact hDh ha).trans e) Bs.put_eq ?_ (by rw [List.length_append, List.length_singleton]; omega) hlt
        ⟨oC', esC', epC', (Bs.put_ne (Ne.symm hDC)).trans c1', c2', c3'⟩ (tki.trans f''.tk) (fi.trans f'') q₆⟩
      rw [Array.toList_push]; exact (hacc.mono f''.tk).append (.single (hv₆.mono tk₇))
end
end
noncomputable section
section
variable {X : Cx} {n : Nat} {sc : Scope} {env : Env} {A : Around} {b : Bs} {m : M} {G : Gh} {s : Shared} {e : PySem.Expr} {loc : Bool}
noncomputable def capM (sc scope : Scope) (m : M) : M := fun x v => (x, NameKind.free) ∈ scope.names ∧ (x, NameKind.cell) ∈ sc.names ∧ m x v
theorem relS_mem {scope : Scope} {x : Str} {k : NameKind} (h : (x, k) ∈ (relS sc scope).names) : ∃ k', (x, k') ∈ scope.names ∧ k = if (k' == .free && sc.kind == .function && sc.names.lookup x == some .cell) then .cell else k' := by
  obtain ⟨⟨y, k'⟩, h1, h2⟩ := List.mem_map.mp h
  dsimp only at h2
  split at h2
  · rename_i q
    obtain ⟨rfl, rfl⟩ := Prod.mk.inj h2
    exact ⟨_, h1, (if_pos q).symm⟩
  · rename_i q
    obtain ⟨rfl, rfl⟩ := Prod.mk.inj h2
    exact ⟨_, h1, (if_neg q).symm⟩
theorem relS_cell {scope : Scope} {x : Str} (hk : sc.kind = .function) (h1 : (x, NameKind.free) ∈ scope.names) (h2 : sc.names.lookup x = some .cell) : (x, NameKind.cell) ∈ (relS sc scope).names := by
  refine List.mem_map.mpr ⟨_, h1, ?_⟩
  dsimp only
  rw [if_pos (by rw [hk, h2]; rfl)]
theorem comp_frame {scope : Scope} {cl : List (Str × Addr)} {C : Addr} (he : EnvOK X sc env) (hok : CompOK sc scope) (hclk : ∀ x, (x, NameKind.free) ∈ scope.names → cl.lookup x = env.cells.lookup x) :
    EnvOK X (relS sc scope) (compEnvC scope cl C env) ∧ ∀ {b bi : Bs} {h h' : Heap}, Frm env b h m → TK h h' → kept b bi → Frm (compEnvC scope cl C env) bi h' (capM sc scope m) := by
  have hrel : relabel scope env = relS sc scope := relabel_eq he.scope
  have e1 : EnvOK X (relS sc scope) (compEnvC scope cl C env) := by
    refine ⟨hrel, hok.kind, he.glob, he.blt, fun x hx => ?_, he.code, hok.ok⟩
    obtain ⟨k', h1, h2⟩ := relS_mem (mem_of_lookup hx)
    have hk' : k' = .free := by
      by_cases q : k' = .free
      · exact q
      · exfalso
        have : (k' == NameKind.free) = false := beq_eq_false_iff_ne.mpr q
        rw [this] at h2
        exact hok.nocell _ h1 h2.symm
    subst hk'
    obtain ⟨a, ha⟩ := he.cel x (hok.free _ h1 rfl)
    exact ⟨a, (hclk x h1).trans ha⟩
  refine ⟨e1, fun {b bi h h'} hf tk k x v e => ?_⟩
  obtain ⟨c1, c2, hm⟩ := e
  obtain ⟨y, hy, hsl⟩ := hf x v hm
  have c2' := lookup_of_mem (scOK.nd he.ok) c2
  have ek := (he.kindOf x).trans c2'
  refine ⟨y, hy.mono tk, ?_⟩
  rcases hsl with ⟨q, _⟩ | ⟨_, ca, o, q3, q4, q5⟩
  · rw [ek] at q; cases q
  · exact .inr ⟨.inl ((e1.kindOf x).trans (lookup_of_mem (scOK.nd hok.ok) (relS_cell he.kind c1 c2'))), ca, o, (hclk _ c1).trans q3, k _ _ q4, q5⟩
theorem comp_core {Q : QE} {elt iter tgt : PySem.Expr} {ifs : List PySem.Expr} {scope : Scope} {cpos pos : Pos} (hok : CompOK sc scope)
    (h : SnI X n sc iter tgt m G fun xs gd G' => xs.length < cap ∧ ∃ I, CompW X n (relS sc scope) tgt elt ifs (capM sc scope m) gd Q I ∧ I xs [] G')
    (hs : ∀ env x, foldedSetIterable iter env x = pure x) {use : Option (Value → Sem Unit)} {R : Value → Shared → Prop} (hy : Hy X n sc env A b m G s)
    (hR : ∀ v G' bC C s' y, kept b bC → b C = none → (∃ oC es ep, bC C = some oC ∧ oC.data = .dict es ep ∧ StrKeys es) → Rep X bC G' s'.heap → Fwd s s' → VR s'.heap v y → Q v G' →
      compPost (model X.prog X.w) A NoE use R y C (.ok .next) s') :
    wpAny (model X.prog X.w) A (comprehension (.ListComp elt [⟨tgt, iter, ifs, 0⟩] scope cpos) scope env pos (PySem.newList []) false (eval iter env) use) R NoE s := by
  have he := hy.he
  obtain ⟨cl, hcl, hclk⟩ := closureFor_ok (scope := scope) (env := env) hok.nd fun x hx hl => he.cel _ (hok.free x hx hl)
  refine wpAny_comprehension_free (cl := cl) rfl (hs env) hcl hok.kind (fun x hx hl => lookup_of_mem hok.nd (by rw [← hl]; exact hx)) ?_
  refine wpAny_trans (h.go hy) fun x s₁ h₁ => wpAny_trans h₁ fun I₀ s₂ o => ?_
  cases o with | mk xs gd G₂ b₂ hid St it hn hr₂ kb st f₂ q =>
  obtain ⟨hlen, I, ok, q⟩ := q
  refine wpAny_newObj_type (wpAny_newFunctionEnv hok.nocell (by intro y hy; cases hy) (fun h₁ hns₁ hsb₁ => ?_) hok.kind)
  dsimp only at hns₁ hsb₁ ⊢
  have hlow₂ : s₂.heap.objs.size ≠ sysModules := hlow (X := X) (fun a o e => kb a o (hy.hb a o e)) hr₂
  obtain ⟨rD, kD, kpD⟩ := hr₂.push { cls := .type "list", dict := none, data := .seq ([] : List Value).toArray }
  have b2D : b₂ s₂.heap.objs.size = none := hr₂.noB (get_none (Nat.le_refl _))
  have hsz : (s₂.heap.push { cls := .type "list", dict := none, data := .seq ([] : List Value).toArray }).objs.size = s₂.heap.objs.size + 1 := Heap.size_push ..
  have b2C : b₂ (s₂.heap.objs.size + 1) = none := hr₂.noB (get_none (Nat.le_succ _))
  generalize s₂.heap.push { cls := .type "list", dict := none, data := .seq ([] : List Value).toArray } = H2 at *
  rw [hsz] at hns₁ ⊢
  generalize s₂.heap.objs.size = D at *
  have hDC : D ≠ D + 1 := Ne.symm (Nat.succ_ne_self D)
  obtain ⟨rC, kC, kpC⟩ := rD.push { cls := .type "dict", data := .dict #[] }
  rw [hsz] at rC kC hsb₁
  obtain ⟨oC, esC, epC, hoC, hdC, hkC, hnsC⟩ := hns₁
  obtain ⟨r₃, tk₃⟩ := rC.one (a := D + 1) Bs.put_eq (notT_dict rfl) hsb₁.extBut hoC
  generalize hb3 : ((b₂.put D _).put (D + 1) _).put (D + 1) oC = b₃ at r₃
  have b3k : kept b₂ b₃ := fun a o e => by
    have h1 : a ≠ D + 1 := fun q => by rw [q, b2C] at e; cases e
    have h2 : a ≠ D := fun q => by rw [q, b2D] at e; cases e
    rw [← hb3, Bs.put_ne h1, Bs.put_ne h1, Bs.put_ne h2]; exact e
  have b3C : b₃ (D + 1) = some oC := by rw [← hb3]; exact Bs.put_eq
  have b3D : b₃ D = some { cls := .type "list", dict := none, data := .seq ([] : List Value).toArray } := by rw [← hb3, Bs.put_ne hDC, Bs.put_ne hDC]; exact Bs.put_eq
  have tkA : TK s₂.heap h₁ := (TK.of_keep fun a o e => kpC a o (kpD a o e)).trans tk₃
  clear hb3
  have bn : ∀ {a : Addr}, b₂ a = none → b a = none := fun {a} e => by cases q : b a with | none => rfl | some o => (rw [kb _ _ q] at e; cases e)
  obtain ⟨hce, hfr⟩ := comp_frame (m := m) (C := D + 1) he hok hclk
  have f₃ : Fwd s { s₂ with heap := h₁, toks := s₂.toks + ([] : List (Str × Value)).length } := f₂.trans ⟨tkA, rfl, rfl⟩
  have loop := comp_loop (R := compPost (model X.prog X.w) A NoE use R (.ref D) (D + 1)) (iter := iter) (scope := scope) (cpos := cpos) it hn hlen ok (bn b2D) (bn b2C) hDC hlow₂ hy.hb hy.hA hce (fun {bi} h => ⟨h, (by
    cases q : X.H0.get? (D + 1) with
    | none => exact q
    | some o => (have := hy.hb _ _ q; rw [bn b2C] at this; cases this)), fun q => nomatch q⟩) rfl (fun {bi s'} f k => hfr hy.hf f.tk k)
    (fun acc G' bC s' k1 k2 k3 k4 k5 k6 => hR (.ref D) _ bC (D + 1) s' (.ref D) k1 (bn b2C) k2 k3 k4 (.ref _) (k6 D k5))
    (.mk 0 b₃ G₂ [] #[] 0 rfl r₃ (fun a o e => b3k _ _ (kb _ _ e)) (it.fr st fun a o _ e => b3k _ _ e) b3D .nil (Nat.zero_le _) (Nat.zero_le _) ⟨oC, esC, epC, b3C, hdC, hkC⟩ tkA f₃ q)
  exact codeAny_compStart_list loop (wpAny_anyE (it.self r₃ (it.fr st fun a o _ e => b3k _ _ e) (Q := fun I' s' => I' = I₀ ∧ s' = { s₂ with heap := h₁, toks := s₂.toks + ([] : List (Str × Value)).length }) ⟨rfl, rfl⟩) fun I' s' q => by
    obtain ⟨rfl, rfl⟩ := q; exact loop)
theorem Sn.comp {Q : QE} {elt iter tgt : PySem.Expr} {ifs : List PySem.Expr} {scope : Scope} {cpos : Pos} (hok : compOK sc scope = true)
    (h : SnI X n sc iter tgt m G fun xs gd G' => xs.length < cap ∧ ∃ I, CompW X n (relS sc scope) tgt elt ifs (capM sc scope m) gd Q I ∧ I xs [] G')
    (hs : ∀ env x, foldedSetIterable iter env x = pure x := by intro _ _; rfl) : Sn X n sc (.ListComp elt [⟨tgt, iter, ifs, 0⟩] scope cpos) m G Q := ⟨fun {env A b s} hy => by
  rw [eval_ListComp]
  refine comp_core (use := Option.none) (R := Out X b s Q) (compOK.ok hok) h hs hy fun v G' bC C s' y kb hC hd hr' f hv q => ?_
  obtain ⟨oC, es, ep, h1, h2, h3⟩ := hd
  refine ⟨fun x => nsFind es x, ⟨oC, es, ep, hr'.keep _ _ h1, h2, h3, fun _ => rfl⟩, fun h' sb => ?_⟩
  obtain ⟨r2, tk2⟩ := hr'.gone h1 (notT_dict h2) sb.extBut
  exact .mk v G' (hv.mono tk2) (r2.less fun a o e => (Bs.del_ne fun q => by rw [q, hC] at e; cases e).trans (kb _ _ e)) (f.trans ⟨tk2, rfl, rfl⟩) q⟩
theorem swaps_comp {elt : PySem.Expr} {gens : List Comprehension} {scope : Scope} {cpos p : Pos} {id : Str} {line : Nat} : ∃ r, swapsWith (.ListComp elt gens scope cpos) (some (.Name id p)) line env = pure r := ⟨_, rfl⟩
theorem del_frm {C : Addr} {oC : Obj} {es : Array DictEntry} {ep : Nat} {h : Heap} (hf : Frm env b h m) (hl : Lay X false env b) (h1 : b C = some oC) (h2 : oC.data = .dict es ep) (hC : ¬ Own false env C) : Frm env (b.del C) h m ∧ Lay X false env (b.del C) := by
  have hCl : env.locals ≠ C := fun q => hC (.inl q.symm)
  have ncell : ∀ {ca : Addr} {o : Obj} {v : Option Value}, b ca = some o → o.data = .cell v → ca ≠ C := fun e ed q => by rw [q, h1] at e; cases e; rw [h2] at ed; cases ed
  refine ⟨fun z u ez => ?_, ⟨?_, hl.low, fun hh z hz => ?_⟩⟩
  · obtain ⟨w, hw, hsl⟩ := hf z u ez
    exact ⟨w, hw, hsl.imp (fun ⟨q1, oo, es', ep', q2, q3, q4⟩ => ⟨q1, oo, es', ep', (Bs.del_ne hCl).trans q2, q3, q4⟩) fun ⟨q1, ca, oo, q3, q4, q5⟩ => ⟨q1, ca, oo, q3, (Bs.del_ne (ncell q4 q5)).trans q4, q5⟩⟩
  · obtain ⟨oo, es', ep', q2, q3, q4⟩ := hl.loc
    exact ⟨oo, es', ep', (Bs.del_ne hCl).trans q2, q3, q4⟩
  · obtain ⟨ca, oo, u, q1, q2, q3, q4⟩ := hl.has hh z hz
    exact ⟨ca, oo, u, q1, (Bs.del_ne (ncell q2 q3)).trans q2, q3, q4⟩
theorem SnS.assignComp {Q : QS} {elt iter tgt : PySem.Expr} {ifs : List PySem.Expr} {scope : Scope} {cpos : Pos} {id : Str} {np pos : Pos} (hok : compOK sc scope = true)
    (h : SnI X n sc iter tgt m G fun xs gd G' => xs.length < cap ∧ ∃ I, CompW X n (relS sc scope) tgt elt ifs (capM sc scope m) gd (fun v G' => ∃ m', Put false sc id v m m' ∧ Q .next m' G') I ∧ I xs [] G')
    (hs : ∀ env x, foldedSetIterable iter env x = pure x := by intro _ _; rfl) : SnS X n sc (.Assign [.Name id np] (.ListComp elt [⟨tgt, iter, ifs, 0⟩] scope cpos) pos) m G Q := ⟨fun {env A b s} hys => by
  obtain ⟨r, hr⟩ := @swaps_comp env elt [⟨tgt, iter, ifs, 0⟩] scope cpos np id pos.line
  cases r with
  | false =>
    exact wpAny_Assign_Name ((Sn.comp hok h hs).use hys.hy fun y s₁ v G₁ hv hy₁ f₁ q => by
      obtain ⟨m', hp, q⟩ := q
      exact wpAny_trans (hp.go hy₁.he hys.hl hy₁.hr hy₁.hf hv) fun _ _ o => (o.next .refl f₁).out rfl q) hr
  | true =>
    rw [exec_Assign_Name_used _ _ _ _ hr]
    refine wpAny_bind (wpAny_standAt ?_)
    refine wpAny_bind (wpAny_trans (P := fun _ s' => OutS X env b s Q .next s') ?_ fun _ s' q => wpAny_pure q)
    rw [arm_evalThenUse_ListComp]
    refine wpAny_bind (wpAny_trans (P := fun _ s' => OutS X env b s Q .next s') ?_ fun _ s' q => wpAny_pure q)
    refine comp_core (R := fun _ s' => OutS X env b s Q .next s') (compOK.ok hok) h hs hys.hy fun v G' bC C s' y kb hC hd hr' f hv q => ?_
    obtain ⟨oC, es, ep, h1, h2, h3⟩ := hd
    obtain ⟨m', hp, q⟩ := q
    show wpAny _ _ (PySem.assign (PySem.Expr.Name id np) env y) _ _ _
    refine assign_Name (wpAny_trans (hp.go hys.hy.he (kept_lay hys.hl fun a o e _ => kb a o e) hr' (kept_frm hys.hy.hf f.tk fun a o e _ => kb a o e) hv) fun _ s₂ o => ?_)
    cases o with | mk b₂ hr₂ hf₂ hl₂ ag f₂ =>
    have nC : ¬ Own false env C := fun q => by obtain ⟨_, o', e', _⟩ := q.data hys.hl; rw [hC] at e'; cases e'
    have h1' := ag C oC h1 nC
    refine ⟨fun x => nsFind es x, ⟨oC, es, ep, hr₂.keep _ _ h1', h2, h3, fun _ => rfl⟩, fun h' sb => ?_⟩
    obtain ⟨r3, tk3⟩ := hr₂.gone h1' (notT_dict h2) sb.extBut
    obtain ⟨a1, a2⟩ := del_frm (hf₂.mono tk3) hl₂ h1' h2 nC
    exact .mk .next m' G' (b₂.del C) .next r3 a1 a2 (fun a o e no => (Bs.del_ne fun q => by rw [q, hC] at e; cases e).trans (ag a o (kb a o e) no)) ((f.trans f₂).trans ⟨tk3, rfl, rfl⟩) q⟩
end
end
noncomputable section
section
variable {X : Cx} {n : Nat} {sc : Scope} {env : Env} {A : Around} {b : Bs} {m : M} {G : Gh} {s : Shared} {e : PySem.Expr} {loc : Bool}
noncomputable def nd (xs ys : List Addr) (i : Nat) : Bool := !decide (xs[i]? = ys[i]?)
theorem nd_any (xs : List Addr) : ∀ ys : List Addr, (List.range (min xs.length ys.length)).any (nd xs ys) = (xs.zip ys).any fun p => !decide (p.1 = p.2) := by
  induction xs with
  | nil => intro ys; rw [List.length_nil, Nat.zero_min]; rfl
  | cons a xs ih =>
    intro ys
    cases ys with
    | nil => rfl
    | cons c ys =>
      rw [List.length_cons, List.length_cons, Nat.succ_min_succ, List.range_succ_eq_map, List.any_cons, List.any_map, List.zip_cons_cons, List.any_cons, ← ih ys]
      have e0 : nd (a :: xs) (c :: ys) 0 = !decide (a = c) := by
        unfold nd
        rw [List.getElem?_cons_zero, List.getElem?_cons_zero]
        by_cases q : a = c
        · rw [decide_eq_true q, decide_eq_true (congrArg some q)]
        · rw [decide_eq_false q, decide_eq_false fun e => q (Option.some.inj e)]
      rw [e0]; rfl
theorem cls_ne {T : String} (n : (T == "tuple") = false) : Value.type T ≠ .type "tuple" := fun e => by cases e; cases n
noncomputable abbrev ZSt (N p q : Addr) (us ws : Array Value) (i : Nat) (h : Heap) : Prop := IsZip h (N + 4) (N + 2) (N + 3) .none ∧ IsPair h (N + 2) (.ref N) (.ref (N + 1)) ∧ (∃ a b, IsPair h (N + 3) a b) ∧ h.IsListIter N p i ∧ h.IsListIter (N + 1) q i ∧ h.IsList p us ∧ h.IsList q ws
inductive ZI (s₁ : Shared) (N p q : Addr) (us ws : Array Value) (f : Nat → Bool) (k : Nat) (s' : Shared) : Prop where
  | mk (i : Nat) (h' : Heap) (tk : Nat) (m' : Str → Option Value) (zs : Array Value) (hk : k = min us.size ws.size + 1 - i) (hi : i ≤ min us.size ws.size) (hs : s' = { s₁ with heap := h', toks := tk }) (st : ZSt N p q us ws i h')
      (hpl : h'.PlainList (N + 5) zs) (hz : zs.size = i) (hb : ∀ j, j < i → zs[j]? = some (.bool (f j))) (hns : h'.Ns (N + 6) m') (kp : ∀ a o, s₁.heap.get? a = some o → h'.get? a = some o)
structure ZA (N p q : Addr) : Prop where
  p : ∀ k : Nat, k < 7 → p ≠ N + k
  q : ∀ k : Nat, k < 7 → q ≠ N + k
theorem ZA.ne {N : Addr} {u v : Nat} (h : u ≠ v) : @Ne Addr (N + u) (N + v) := fun e => h (Nat.add_left_cancel e)
theorem ZA.apart {N p q : Addr} (z : ZA N p q) : ZipApart (N + 4) (N + 2) (N + 3) N (N + 1) p q :=
  ⟨ZA.ne (by decide), ZA.ne (by decide), ZA.ne (u := 0) (by decide), ZA.ne (by decide), ZA.ne (by decide), ZA.ne (v := 0) (by decide), ZA.ne (by decide), ZA.ne (v := 0) (by decide), ZA.ne (by decide), ZA.ne (u := 0) (by decide), z.p 4 (by decide), z.p 3 (by decide), z.p 0 (by decide), z.p 1 (by decide), z.q 4 (by decide), z.q 3 (by decide), z.q 0 (by decide), z.q 1 (by decide)⟩
theorem notin4 {N a : Addr} (h : ∀ k : Nat, k < 5 → a ≠ N + k) : a ∉ [N + 4, N + 3, N, N + 1] := fun q => by
  simp only [List.mem_cons, List.not_mem_nil, or_false] at q
  rcases q with q | q | q | q
  · exact h 4 (by decide) q
  · exact h 3 (by decide) q
  · exact h 0 (by decide) q
  · exact h 1 (by decide) q
theorem in7 {N p q a : Addr} (z : ZA N p q) (ha : a ∈ [N + 4, N + 2, N + 3, N, N + 1, p, q]) : a ≠ N + 6 ∧ a ≠ N + 5 := by
  simp only [List.mem_cons, List.not_mem_nil, or_false] at ha
  rcases ha with rfl | rfl | rfl | rfl | rfl | rfl | rfl
  · exact ⟨ZA.ne (by decide), ZA.ne (by decide)⟩
  · exact ⟨ZA.ne (by decide), ZA.ne (by decide)⟩
  · exact ⟨ZA.ne (by decide), ZA.ne (by decide)⟩
  · exact ⟨ZA.ne (u := 0) (by decide), ZA.ne (u := 0) (by decide)⟩
  · exact ⟨ZA.ne (by decide), ZA.ne (by decide)⟩
  · exact ⟨z.p 6 (by decide), z.p 5 (by decide)⟩
  · exact ⟨z.q 6 (by decide), z.q 5 (by decide)⟩
theorem zip_app {s₁ : Shared} {N p q : Addr} {us ws zs : Array Value} {f : Nat → Bool} {i k : Nat} {h6 : Heap} {tk : Nat} {m' : Str → Option Value} (z : ZA N p q) (W : WalksT X.prog X.w A (N + 4) [N + 4, N + 2, N + 3, N, N + 1, p, q] [N + 4, N + 3, N, N + 1] (min us.size ws.size) (fun i vals => ∃ x y, us[i]? = some x ∧ ws[i]? = some y ∧ vals = #[x, y]) (ZSt N p q us ws)
    (fun i T h => IsZip h (N + 4) (N + 2) (N + 3) (rawInt T) ∧ IsPair h (N + 2) (.ref N) (.ref (N + 1)) ∧ (∃ a b, IsPair h (N + 3) a b) ∧ h.IsListIter N p (i + 1) ∧ h.IsListIter (N + 1) q (i + 1) ∧ h.IsList p us ∧ h.IsList q ws ∧ T ≠ N + 4 ∧ T ≠ N + 3 ∧ T ≠ N ∧ T ≠ N + 1))
    (hk : k = min us.size ws.size + 1 - i) (hlt : i < min us.size ws.size) (hus : us.size < cap) (hst : ZSt N p q us ws (i + 1) h6) (hpl : h6.PlainList (N + 5) zs) (hz : zs.size = i) (hb : ∀ j, j < i → zs[j]? = some (.bool (f j))) (hns : h6.Ns (N + 6) m') (kp : ∀ a o, s₁.heap.get? a = some o → h6.get? a = some o)
    (old : ∀ (a : Addr) (o : Obj), s₁.heap.get? a = some o → a ≠ N + 5) :
    wpAny (model X.prog X.w) A (PySem.call (.builtin "list.append") [.ref (N + 5), .bool (f i)]) (fun _ s₅ => ∃ m, m < k ∧ ZI s₁ N p q us ws f m s₅) NoE { s₁ with heap := h6, toks := tk } := by
  obtain ⟨nn, hD6⟩ := hpl
  refine call_meets (s := { s₁ with heap := h6, toks := tk }) F.slot_list_append ⟨_, hD6, rfl⟩ F.entry_list_append (F.args_list_append_2 _ _) (list_append (N + 5) zs nn _ (fits_of_cap (by omega))) ⟨hD6, ?_⟩
  have hnew := Heap.get?_update_self (Obj.mapSeq fun x_1 => x_1.push (Value.bool (f i))) hD6 rfl
  have kp9 : ∀ a o, a ≠ N + 5 → h6.get? a = some o → (h6.update (N + 5) (Obj.mapSeq fun x_1 => x_1.push (Value.bool (f i)))).get? a = some o := fun a o ha e => (Heap.get?_update_other _ _ (Ne.symm ha)).trans e
  refine ⟨_, by omega, .mk (i + 1) _ _ _ _ rfl hlt rfl (W.frame _ _ _ hst fun a ha o e => kp9 a o (in7 z ha).2 e) ⟨_, hnew⟩ (by rw [Array.size_push, hz]) (fun j hj => ?_) (hns.at' fun o e => kp9 _ _ (ZA.ne (by decide)) e) fun a o e => kp9 a o (old a o e) (kp a o e)⟩
  rw [Array.getElem?_push]
  by_cases hji : j = zs.size
  · rw [if_pos hji]; rw [hji, hz]
  · rw [if_neg hji]; exact hb j (by omega)
theorem Sn.anyNew {Q : QE} {ea eb : PySem.Expr} {scope : Scope} {x y : Str} {kk : Nat} {p1 p2 p3 p4 p5 p6 p7 p8 p9 cpos pos : Pos} (hx : BltOK X) (hka : GlobIn sc "any") (hkz : GlobIn sc "zip") (hn : NoStar [ea, eb])
    (hok : compOK sc scope = true) (hfree : ∀ p ∈ scope.names, p.2 ≠ .free) (hmx : (x, NameKind.local) ∈ (relS sc scope).names) (hmy : (y, NameKind.local) ∈ (relS sc scope).names) (hxy : (x == y) = false)
    (h : SnEs X n sc [ea, eb] m G fun vs G' => ∃ (p q : Addr) (xs ys : List Addr), vs = [.ref p, .ref q] ∧ G' p = some (.list (xs.map .ref)) ∧ G' q = some (.list (ys.map .ref)) ∧ xs.length < cap ∧ ys.length < cap ∧ (∀ z ∈ xs, (G' z).isSome = true) ∧ (∀ z ∈ ys, (G' z).isSome = true) ∧ Q (.bool ((xs.zip ys).any fun p => !decide (p.1 = p.2))) G')
    (hm : behindInMarks .IsNot (.Name y p2) = false := by with_unfolding_all rfl) :
    Sn X n sc (.Call (.Name "any" p7) [.ListComp (.Compare (.Name x p1) [.IsNot] [.Name y p2] p3) [⟨.Tuple [.Name x p4, .Name y p5] kk p6, .Call (.Name "zip" p8) [ea, eb] [] p9, [], 0⟩] scope cpos] [] pos) m G Q := ⟨fun {env A bb s} hy => by
  have he := hy.he
  have ok := compOK.ok hok
  obtain ⟨cl, hcl, _⟩ := closureFor_ok (scope := scope) (env := env) ok.nd fun x hx hl => absurd hl (hfree x hx)
  refine PyProof.Rows.Call_ (wpAny_Name (ld_blt he hy.hb hy.hr hka (hx.mg "any" (by decide)) (hx.fn "any" (by decide)) ?_) (hka.dbg he))
  refine PyProof.Rows.callWith_builtin1 (args_cons ?_)
  rw [eval_ListComp]
  refine wpAny_comprehension_free (cl := cl) rfl (fun _ => rfl) hcl ok.kind (fun x hx hl => lookup_of_mem ok.nd (by rw [← hl]; exact hx)) ?_
  refine call_named hx (by decide) (by decide) hkz hn h hy fun vs0 s₁ vs G₁ hvs hy₁ f₁ hq => ?_
  obtain ⟨p, q, xs, ys, rfl, e1, e2, c1, c2, c3, c4, hq⟩ := hq
  obtain ⟨y1, y2, rfl, hv1, hv2⟩ := hvs.two_inv
  rw [hv1.ref_inv, hv2.ref_inv]
  have hr₁ := hy₁.hr
  obtain ⟨us, k1, _, hp1, hvx, lx⟩ := own_list hr₁ e1
  obtain ⟨ws, k2, _, hp2, hvy, ly⟩ := own_list hr₁ e2
  rw [List.length_map] at lx ly
  have hL1 : s₁.heap.IsList p us := ⟨_, hp1, rfl, k1, rfl⟩
  have hL2 : s₁.heap.IsList q ws := ⟨_, hp2, rfl, k2, rfl⟩
  refine call_zip_2 hL1 hL2 fun hz hZ hTI hTO hi1 hi2 hsz kp => ?_
  refine wpAny_pyIter_zip hZ ?_
  have oldlt : ∀ a o, s₁.heap.get? a = some o → ∀ k : Nat, a ≠ s₁.heap.objs.size + k := fun a o e k q => by
    have := Heap.lt_size e
    rw [q] at this; exact absurd this (Nat.not_lt.mpr (Nat.le_add_right _ _))
  generalize s₁.heap.objs.size = N at *
  refine wpAny_newObj_type (wpAny_newFunctionEnv ok.nocell (by intro y hy; cases hy) (fun h₁ hns₁ hsb₁ => ?_) ok.kind)
  dsimp only at hns₁ hsb₁ ⊢
  have hC : (hz.push { cls := .type "list", dict := none, data := .seq ([] : List Value).toArray }).objs.size = N + 6 := by rw [Heap.size_push, hsz]
  have kp2 : ∀ a o, hz.get? a = some o → (hz.push { cls := .type "list", dict := none, data := .seq ([] : List Value).toArray }).get? a = some o := fun a o e => Heap.get?_push_of_some _ e
  have hD2 : (hz.push { cls := .type "list", dict := none, data := .seq ([] : List Value).toArray }).get? hz.objs.size = some { cls := .type "list", dict := none, data := .seq ([] : List Value).toArray } := Heap.get?_push_size _ rfl
  generalize hz.push { cls := .type "list", dict := none, data := .seq ([] : List Value).toArray } = H2 at *
  have kp3 : ∀ a o, H2.get? a = some o → h₁.get? a = some o := fun a o e => hsb₁.extBut a o (Nat.ne_of_lt (Heap.lt_size e)) (Heap.get?_push_of_some _ e)
  rw [hsz] at hD2 ⊢
  rw [hC] at hns₁ ⊢
  have kp4 : ∀ a o, hz.get? a = some o → h₁.get? a = some o := fun a o e => kp3 a o (kp2 a o e)
  have za : ZA N p q := ⟨fun k _ => oldlt _ _ hp1 k, fun k _ => oldlt _ _ hp2 k⟩
  have oldin : ∀ (a : Addr) (o : Obj), s₁.heap.get? a = some o → a ∉ [N + 4, N + 3, N, N + 1] := fun a o e => notin4 fun k _ => oldlt a o e k
  have W := WalksT.zip2 (prog := X.prog) (w := X.w) (A := A) hy.hA.hd (N + 4) (N + 2) (N + 3) N (N + 1) p q za.apart us ws
  have hst0 : ZSt N p q us ws 0 h₁ := ⟨kp4 _ _ hZ, kp4 _ _ hTI, ⟨_, _, kp4 _ _ hTO⟩, hi1.at fun o e => kp4 _ o e, hi2.at fun o e => kp4 _ o e, hL1.at fun o e => kp4 _ o (kp _ o e), hL2.at fun o e => kp4 _ o (kp _ o e)⟩
  have rl : relabel scope env = relS sc scope := relabel_eq he.scope
  have kx : Env.kindOf (compEnvC scope cl (N + 6) env) x = some .local := by show (relabel scope env).names.lookup _ = _; rw [rl]; exact lookup_of_mem (scOK.nd ok.ok) hmx
  have ky : Env.kindOf (compEnvC scope cl (N + 6) env) y = some .local := by show (relabel scope env).names.lookup _ = _; rw [rl]; exact lookup_of_mem (scOK.nd ok.ok) hmy
  have dx := (scOK.no ok.ok hmx).2
  have dy := (scOK.no ok.ok hmy).2
  have hk : (compEnvC scope cl (N + 6) env).scope.kind = .function := ok.kind
  have hCp : ((compEnvC scope cl (N + 6) env).scope.kind == .class || ((compEnvC scope cl (N + 6) env).scope.kind == .module && (compEnvC scope cl (N + 6) env).locals != (compEnvC scope cl (N + 6) env).globals)) = false := by rw [hk]; rfl
  have hNot5 : N + 5 ∉ [N + 4, N + 3, N, N + 1] := notin4 fun k hk => ZA.ne (Nat.ne_of_gt hk)
  have hNot6 : N + 6 ∉ [N + 4, N + 3, N, N + 1] := notin4 fun k hk => ZA.ne (Nat.ne_of_gt (Nat.lt_succ_of_lt hk))
  clear hfree h hcl hmx hmy hsb₁ hC kp2 hZ hTI hTO hi1 hi2 hx hka hkz hn
  have loop : ∀ s₃ : Shared, s₃ = { s₁ with heap := h₁, toks := s₁.toks + ([] : List (Str × Value)).length } →
      codeAny (model X.prog X.w) A (.compLoop (.ListComp (.Compare (.Name x p1) [.IsNot] [.Name y p2] p3) [⟨.Tuple [.Name x p4, .Name y p5] kk p6, .Call (.Name "zip" p8) [ea, eb] [] p9, [], 0⟩] scope cpos) 0 (.ref (N + 4)) (.ref (N + 5)) (compEnvC scope cl (N + 6) env))
        (compPost (model X.prog X.w) A NoE none (fun v s₁ => wpAny (model X.prog X.w) A (spliced (backTo pos (starEach [] env))) (fun vs s₂ => wpAny (model X.prog X.w) A (PySem.call (.builtin "any") (v :: vs)) (Out X bb s Q) NoE s₂) NoE s₁) (.ref (N + 5)) (N + 6)) s₃ := by
    rintro s₃ rfl
    refine codeAny_compLoop_go (ZI s₁ N p q us ws (nd xs ys)) (fun k s' hI => ?_) (min us.size ws.size + 1) (.mk 0 h₁ _ _ #[] rfl (Nat.zero_le _) rfl hst0 ⟨0, kp3 _ _ (by assumption)⟩ rfl (fun j hj => absurd hj (Nat.not_lt_zero _)) hns₁ fun a o e => kp4 a o (kp a o e))
    cases hI with | mk i h' tk m' zs hkk hi hs' hst hpl' hzs hbs hns kpo =>
    subst hs'
    by_cases hlt : i < min us.size ws.size
    · refine W.item i _ _ _ hlt hst fun T vals h2 tk2 hvals hT hTt hmid kp5 => ?_
      obtain ⟨u, w, hu, hw, rfl⟩ := hvals
      refine W.go _ _ _ i T _ _ _ hmid fun h3 hst3 kp6 => ?_
      have kpA : ∀ a o, a ∉ [N + 4, N + 3, N, N + 1] → h'.get? a = some o → h3.get? a = some o := fun a o hna e => kp6 a o hna (kp5 a o hna e)
      have hT3 : h3.IsTuple T #[u, w] := by obtain ⟨o, ho, r⟩ := hTt; exact ⟨o, kp6 T o (W.apart _ _ _ hmid) ho, r⟩
      refine wpAny_bind (wpAny_standAt (wpAny_unpack_tuple hy.hA.hd hT3 rfl rfl fun h4 eb4 => ?_))
      have kp7 : ∀ a o, h3.get? a = some o → h4.get? a = some o := fun a o e => eb4 a o (Nat.ne_of_lt (Heap.lt_size e)) e
      have hns4 : h4.Ns (N + 6) m' := hns.at' fun o e => kp7 _ _ (kpA _ _ hNot6 e)
      refine wpAny_bind (wpAny_holding (assign_Name (wpAny_storeName_local kx hns4 (fun h5 hns5 sb5 => ?_) hCp)))
      refine wpAny_bind (wpAny_holding (assign_Name (wpAny_storeName_local ky hns5 (fun h6 hns6 sb6 => ?_) hCp)))
      refine wpAny_pure (wpAny_pure ?_)
      rw [if_pos rfl]
      have kp8 : ∀ a o, a ≠ N + 6 → h4.get? a = some o → h6.get? a = some o := fun a o ha e => (sb6.2 a ha).trans ((sb5.2 a ha).trans e)
      have kpo6 : ∀ a o, s₁.heap.get? a = some o → h6.get? a = some o := fun a o e => kp8 a o (oldlt a o e 6) (kp7 a o (kpA a o (oldin a o e) (kpo a o e)))
      have app := fun tk' => zip_app (X := X) (s₁ := s₁) (f := nd xs ys) (tk := tk') za W hkk hlt (by omega) (W.frame _ _ _ hst3 fun a ha o e => kp8 a o (in7 za ha).1 (kp7 a o e)) (by obtain ⟨nn, ho⟩ := hpl'; exact ⟨nn, kp8 _ _ (ZA.ne (by decide)) (kp7 _ _ (kpA _ _ hNot5 ho))⟩) hzs hbs hns6 kpo6 fun a o e => oldlt a o e 5
      have hix : i < xs.length := by omega
      have hiy : i < ys.length := by omega
      have gx := List.getElem?_eq_getElem hix
      have gy := List.getElem?_eq_getElem hiy
      have hvu := hvx.at_ i (.ref xs[i]) u (by rw [List.getElem?_map, gx]; rfl) (by rw [Array.getElem?_toList]; exact hu)
      have hvw := hvy.at_ i (.ref ys[i]) w (by rw [List.getElem?_map, gy]; rfl) (by rw [Array.getElem?_toList]; exact hw)
      rw [hvu.ref_inv, hvw.ref_inv] at hns6
      obtain ⟨ga, hga⟩ := Option.isSome_iff_exists.mp (c3 _ (List.getElem_mem hix))
      obtain ⟨gb, hgb⟩ := Option.isSome_iff_exists.mp (c4 _ (List.getElem_mem hiy))
      obtain ⟨oa, hoa, hca, _⟩ := (hr₁.own _ _ hga).2.obj
      obtain ⟨ob, hob, _⟩ := (hr₁.own _ _ hgb).2.obj
      have hnot : oa.cls ≠ .type "tuple" := by
        intro q
        obtain ⟨_, hI⟩ := hr₁.own _ _ hga
        cases ga with
        | list xs => obtain ⟨_, _, _, e', _⟩ := hI; rw [hoa] at e'; cases e'; exact cls_ne rfl q
        | dict es => obtain ⟨_, _, ⟨_, _, _, e', x', _⟩, _⟩ := hI; rw [hoa] at e'; cases e'; rw [x'.1] at q; exact cls_ne rfl q
        | set S fr => obtain ⟨⟨_, _, _, e', _⟩, _⟩ := hI; rw [hoa] at e'; cases e'; exact cls_ne rfl q
        | inst c fs => obtain ⟨_, _, _, e', _⟩ := hI; rw [hoa] at e'; cases e'; cases q
      have hnd : nd xs ys i = !decide (xs[i] = ys[i]) := by
        unfold nd; rw [gx, gy]
        by_cases q : xs[i] = ys[i]
        · rw [decide_eq_true q, decide_eq_true (congrArg some q)]
        · rw [decide_eq_false q, decide_eq_false fun e => q (Option.some.inj e)]
      have hne' : x ≠ y := beq_eq_false_iff_ne.mp hxy
      refine wpAny_Compare1 (wpAny_Name (wpAny_loadName_local hk kx hns6 ((if_neg hne').trans (if_pos rfl)) ?_) dx) hm
      refine wpAny_Name (wpAny_loadName_local hk ky hns6 (if_pos rfl) ?_) dy
      rw [hnd] at app
      by_cases hrr : xs[i] = ys[i]
      · rw [hrr]
        rw [decide_eq_true hrr] at app
        exact wpAny_isNot_ref_self (app _)
      · rw [decide_eq_false hrr] at app
        exact wpAny_isNot_ref_other hrr (kpo6 _ _ hoa) (kpo6 _ _ hob) hnot (app _)
    · have hie : i = min us.size ws.size := by omega
      subst hie
      refine W.done _ _ _ hst fun h2 tk2 kp5 => ?_
      refine ⟨m', hns.at' fun o e => kp5 _ _ hNot6 e, fun h3 sb3 => args_nil ?_⟩
      have hpl3 : h3.PlainList (N + 5) zs := by obtain ⟨nn, ho⟩ := hpl'; exact ⟨nn, (sb3.2 _ (ZA.ne (by decide))).trans (kp5 _ _ hNot5 ho)⟩
      have kpo3 : ∀ a o, s₁.heap.get? a = some o → h3.get? a = some o := fun a o e => (sb3.2 a (oldlt a o e 6)).trans (kp5 a o (oldin a o e) (kpo a o e))
      refine call_any_walk (wpAny_pyIter_list hpl3.isList ?_)
      refine ⟨h3.objs.size, _, _, _, _, _, nd xs ys, rfl, Walks.list (A := A.in1) hy.hA.hd _ (N + 5) ?_ zs, ⟨⟨_, Heap.get?_push_size _ rfl, rfl, rfl⟩, hpl3.isList.push _⟩, fun i v s' Q' E' hP hQ' => ?_, fun h4 tk4 kp6 => ?_⟩
      · obtain ⟨nn, ho⟩ := hpl3; exact Nat.ne_of_lt (Heap.lt_size ho)
      · have hi' : i < zs.size := (Array.getElem?_eq_some_iff.mp hP).1
        have := hbs i (by omega)
        rw [hP] at this; cases this
        exact wpAny_truthy_bool hQ'
      · have kp7 : ∀ a o, s₁.heap.get? a = some o → h4.get? a = some o := fun a o e => by
          have e3 := kpo3 a o e
          exact kp6 a o (by rw [List.mem_singleton]; exact Nat.ne_of_lt (Heap.lt_size e3)) (Heap.get?_push_of_some _ e3)
        rw [hzs, ← lx, ← ly, nd_any xs ys]
        exact (Out.grow (s := s₁) (tk := tk4) hr₁ (.bool _) kp7 hq).next f₁
  exact codeAny_compStart_list (loop _ rfl) (wpAny_anyE (wpAny_pyIter_zip (E := NoE) (s := { s₁ with heap := h₁, toks := s₁.toks + ([] : List (Str × Value)).length }) (Q := fun I' s' => I' = .ref (N + 4) ∧ s' = { s₁ with heap := h₁, toks := s₁.toks + ([] : List (Str × Value)).length }) hst0.1 ⟨rfl, rfl⟩) fun I' s' q => by
    obtain ⟨rfl, rfl⟩ := q; exact loop _ rfl)⟩
end
end
noncomputable section
inductive Loc : List (Str × NameKind) → List (Option Val) → Str → Val → Prop where
  | z {x : Str} {k : NameKind} {v : Val} {ns : List (Str × NameKind)} {os : List (Option Val)} : Loc ((x, k) :: ns) (some v :: os) x v
  | s {x : Str} {v : Val} {p : Str × NameKind} {o : Option Val} {ns : List (Str × NameKind)} {os : List (Option Val)} : Loc ns os x v → Loc (p :: ns) (o :: os) x v
noncomputable abbrev L (sc : Scope) (os : List (Option Val)) : M := fun x v => Loc sc.names os x v
theorem Loc.mem {ns : List (Str × NameKind)} {os : List (Option Val)} {x : Str} {v : Val} (h : Loc ns os x v) : x ∈ ns.map (·.1) := by
  induction h with
  | z => exact .head _
  | s _ ih => exact .tail _ ih
inductive Upd (loc : Bool) : List (Str × NameKind) → List (Option Val) → Str → Val → List (Option Val) → Prop where
  | l {x : Str} {v : Val} {o : Option Val} {ns : List (Str × NameKind)} {os : List (Option Val)} : Upd loc ((x, .local) :: ns) (o :: os) x v (some v :: os)
  | c {x : Str} {v : Val} {o : Option Val} {ns : List (Str × NameKind)} {os : List (Option Val)} : loc = false → Upd loc ((x, .cell) :: ns) (o :: os) x v (some v :: os)
  | s {x : Str} {v : Val} {p : Str × NameKind} {o : Option Val} {ns : List (Str × NameKind)} {os os' : List (Option Val)} : Upd loc ns os x v os' → Upd loc (p :: ns) (o :: os) x v (o :: os')
theorem Upd.store {loc : Bool} {ns : List (Str × NameKind)} {os os' : List (Option Val)} {x : Str} {v : Val} (h : Upd loc ns os x v os') : (x, NameKind.local) ∈ ns ∨ (loc = false ∧ (x, NameKind.cell) ∈ ns) := by
  induction h with
  | l => exact .inl (.head _)
  | c h => exact .inr ⟨h, .head _⟩
  | s _ ih => exact ih.imp (.tail _) fun q => ⟨q.1, .tail _ q.2⟩
theorem Upd.mem {loc : Bool} {ns : List (Str × NameKind)} {os os' : List (Option Val)} {x : Str} {v : Val} (h : Upd loc ns os x v os') : x ∈ ns.map (·.1) := by
  rcases h.store with q | ⟨_, q⟩ <;> exact List.mem_map_of_mem (f := (·.1)) q
theorem Upd.up {loc : Bool} {ns : List (Str × NameKind)} {os os' : List (Option Val)} {x : Str} {v : Val} (h : Upd loc ns os x v os') (hn : (ns.map (·.1)).Nodup) : ∀ y w, Loc ns os' y w → (y = x ∧ w = v) ∨ (y ≠ x ∧ Loc ns os y w) := by
  induction h with
  | l =>
    intro y w q
    cases q with
    | z => exact .inl ⟨rfl, rfl⟩
    | s q => exact .inr ⟨fun e => (List.nodup_cons.mp hn).1 (e ▸ q.mem), .s q⟩
  | c _ =>
    intro y w q
    cases q with
    | z => exact .inl ⟨rfl, rfl⟩
    | s q => exact .inr ⟨fun e => (List.nodup_cons.mp hn).1 (e ▸ q.mem), .s q⟩
  | s h ih =>
    intro y w q
    cases q with
    | z => exact .inr ⟨fun e => (List.nodup_cons.mp hn).1 (e ▸ h.mem), .z⟩
    | s q => exact (ih (List.nodup_cons.mp hn).2 y w q).imp id fun r => ⟨r.1, .s r.2⟩
section
variable {X : Cx} {n : Nat} {sc : Scope} {m : M} {G : Gh} {e : PySem.Expr} {loc : Bool} {os os' os'' : List (Option Val)} {v w : Val}
theorem Upd.put {x : Str} (h : Upd loc sc.names os x v os') : Put loc sc x v (L sc os) (L sc os') := ⟨h.store, fun ok => h.up (scOK.nd ok)⟩
theorem Upd.bnd {x : Str} {pos : Pos} (h : Upd loc sc.names os x v os') : Bnd X loc sc (.Name x pos) v (L sc os) (L sc os') := .name h.put
noncomputable abbrev One (v : Val) (G : Gh) : QE := fun v' G' => v' = v ∧ G' = G
noncomputable abbrev Rd (X : Cx) (n : Nat) (sc : Scope) (e : PySem.Expr) (m : M) (G : Gh) (v : Val) : Prop := Sn X n sc e m G (One v G)
noncomputable abbrev RdT (X : Cx) (n : Nat) (sc : Scope) (e : PySem.Expr) (m : M) (G : Gh) (t : Bool) : Prop := SnT X n sc e m G fun t' G' => t' = t ∧ G' = G
theorem Rd.to {Q : QE} (h : Rd X n sc e m G v) (q : Q v G) : Sn X n sc e m G Q := h.mono fun v' G' ⟨a, b⟩ => by rw [a, b]; exact q
theorem RdT.to {Q : Bool → Gh → Prop} {t : Bool} (h : RdT X n sc e m G t) (q : Q t G) : SnT X n sc e m G Q := h.mono fun v' G' ⟨a, b⟩ => by rw [a, b]; exact q
noncomputable abbrev O2 (X : Cx) (n : Nat) (f : Value → Value → Sem Value) (v w : Val) (G : Gh) (u : Val) : Prop := Op2 X n f v w G (One u G)
theorem O2.to {f : Value → Value → Sem Value} {u : Val} {Q : QE} (h : O2 X n f v w G u) (q : Q u G) : Op2 X n f v w G Q := ⟨fun a b c d e => wpAny_trans (Op2.go h a b c d e) fun x s o => o.elim fun v' G' hv hr f h => by obtain ⟨rfl, rfl⟩ := h; exact .mk _ _ hv hr f q⟩
theorem Rd.var {x : Str} {pos : Pos} (h : Loc sc.names os x v) : Rd X n sc (.Name x pos) (L sc os) G v := Sn.var h ⟨rfl, rfl⟩
theorem Rd.int {i : Int} {k : Nat} {pos : Pos} : Rd X n sc (.Constant (.int i) k pos) m G (.int i) := Sn.int ⟨rfl, rfl⟩
theorem Rd.str {x : Str} {k : Nat} {pos : Pos} : Rd X n sc (.Constant (.str x) k pos) m G (.str x) := Sn.str ⟨rfl, rfl⟩
theorem Rd.tru {t : Bool} {k : Nat} {pos : Pos} : Rd X n sc (.Constant (.bool t) k pos) m G (.bool t) := Sn.tru ⟨rfl, rfl⟩
theorem Rd.noneC {k : Nat} {pos : Pos} : Rd X n sc (.Constant .none k pos) m G .none := Sn.noneC ⟨rfl, rfl⟩
theorem Rd.neg {l : PySem.Expr} {i : Int} {pos : Pos} (h : Rd X n sc l m G (.int i)) : Rd X n sc (.UnaryOp .USub l pos) m G (.int (-i)) := Sn.neg (h.to ⟨_, rfl, rfl, rfl⟩)
theorem Rd.glob {x : Str} {pos : Pos} (hg : GlobV X x v) (hk : GlobIn sc x) : Rd X n sc (.Name x pos) m G v := Sn.glob hg hk ⟨rfl, rfl⟩
inductive FldIs : Str → Fld → Prop where
  | op : FldIs "op" .op
  | dst : FldIs "dst" .dst
  | args : FldIs "args" .args
  | more : FldIs "more" .more
  | is_volatile : FldIs "is_volatile" .is_volatile
  | line : FldIs "line" .line
  | number : FldIs "number" .number
  | steps : FldIs "steps" .steps
  | end_ : FldIs "end" .end_
  | name : FldIs "name" .name
  | params : FldIs "params" .params
  | is_static : FldIs "is_static" .is_static
  | slots : FldIs "slots" .slots
  | blocks : FldIs "blocks" .blocks
  | registers : FldIs "registers" .registers
  | has_value : FldIs "has_value" .has_value
theorem FldIs.eq {x : Str} {f : Fld} (h : FldIs x f) : x = f.txt := by cases h <;> rfl
theorem Rd.attr {o : PySem.Expr} {attr : Str} {f : Fld} {a : Addr} {k : Cls} {fs : Fld → Option Val} {pos : Pos} (hc : ClsOK X) (ha : FldIs attr f) (h : Rd X n sc o m G (.ref a)) (e : G a = some (.inst k fs)) (ef : fs f = some w)
    (hs : ∀ env whole, attributeBase o attr env whole = whole := by intro _ _; rfl) : Rd X n sc (.Attribute o attr pos) m G w := Sn.attr hc f ha.eq (h.to ⟨a, k, fs, w, rfl, e, ef, rfl, rfl⟩) hs
theorem Rd.idxT {o i : PySem.Expr} {pos : Pos} {vs : List Val} {j : Int} {u : Val} (h1 : Rd X n sc o m G (.tup vs)) (h2 : Rd X n sc i m G (.int j)) (hj : j.natAbs < cap) (hx : seqAt vs j = some u) (hs : ∀ x y, subscripted i false x y = operate [x, y] (getItem x y) := by intro _ _; rfl) : Rd X n sc (.Subscript o i pos) m G u :=
  Sn.idx (h1.to (h2.to (.tup hj hx ⟨rfl, rfl⟩))) hs
theorem Rd.idxL {o i : PySem.Expr} {pos : Pos} {a : Addr} {vs : List Val} {j : Int} {u : Val} (h1 : Rd X n sc o m G (.ref a)) (e : G a = some (.list vs)) (h2 : Rd X n sc i m G (.int j)) (hj : j.natAbs < cap) (hx : seqAt vs j = some u) (hs : ∀ x y, subscripted i false x y = operate [x, y] (getItem x y) := by intro _ _; rfl) : Rd X n sc (.Subscript o i pos) m G u :=
  Sn.idx (h1.to (h2.to (.list e hj hx ⟨rfl, rfl⟩))) hs
theorem Rd.idxD {o i : PySem.Expr} {pos : Pos} {a : Addr} {es : List (Int × Val)} {j : Int} {u : Val} (h1 : Rd X n sc o m G (.ref a)) (e : G a = some (.dict es)) (h2 : Rd X n sc i m G (.int j)) (hx : lookE es j = some u) (hs : ∀ x y, subscripted i false x y = operate [x, y] (getItem x y) := by intro _ _; rfl) : Rd X n sc (.Subscript o i pos) m G u :=
  Sn.idx (h1.to (h2.to (.dict e hx ⟨rfl, rfl⟩))) hs
theorem Rd.bin {l r : PySem.Expr} {op : Operator} {u : Val} {pos : Pos} (h1 : Rd X n sc l m G v) (h2 : Rd X n sc r m G w) (h : O2 X n (binaryOp op) v w G u) : Rd X n sc (.BinOp l op r pos) m G u := Sn.bin (h1.to (h2.to h))
theorem Rd.cmp {l r : PySem.Expr} {op : CmpOp} {u : Val} {pos : Pos} (h1 : Rd X n sc l m G v) (h2 : Rd X n sc r m G w) (h : O2 X n (compareOp op) v w G u) (hm : behindInMarks op r = false := by with_unfolding_all rfl) : Rd X n sc (.Compare l [op] [r] pos) m G u := Sn.cmp (h1.to (h2.to h)) hm
theorem RdT.cmp {l r : PySem.Expr} {op : CmpOp} {t : Bool} {pos : Pos} (h1 : Rd X n sc l m G v) (h2 : Rd X n sc r m G w) (h : O2 X n (compareOp op) v w G (.bool t)) (hm : behindInMarks op r = false := by with_unfolding_all rfl) : RdT X n sc (.Compare l [op] [r] pos) m G t := SnT.cmp (h1.to (h2.to (h.to ⟨t, .bool t, rfl, rfl⟩))) hm
theorem Rd.inG {l : PySem.Expr} {x z : Str} {ks : List Str} {p pos : Pos} (hg : GlobD X x ks) (hk : GlobIn sc x) (h : Rd X n sc l m G (.str z)) : Rd X n sc (.Compare l [.In] [.Name x p] pos) m G (.bool (ks.contains z)) := Sn.inG hg hk (h.to ⟨z, rfl, rfl, rfl⟩)
theorem RdT.inG {l : PySem.Expr} {x z : Str} {ks : List Str} {p pos : Pos} (hg : GlobD X x ks) (hk : GlobIn sc x) (h : Rd X n sc l m G (.str z)) : RdT X n sc (.Compare l [.In] [.Name x p] pos) m G (ks.contains z) := SnT.inG hg hk (h.to ⟨z, rfl, rfl, rfl⟩)
theorem RdT.notinG {l : PySem.Expr} {x z : Str} {ks : List Str} {p pos : Pos} (hg : GlobD X x ks) (hk : GlobIn sc x) (h : Rd X n sc l m G (.str z)) : RdT X n sc (.Compare l [.NotIn] [.Name x p] pos) m G (!ks.contains z) := SnT.notinG hg hk (h.to ⟨z, rfl, rfl, rfl⟩)
theorem RdT.val {t : Bool} (h : Rd X n sc e m G v) (ht : Tru G v t) (hp : ∀ env whole, isTrue e env whole = (do let v ← whole; standAt e.pos; holding [v] (truthy v)) := by intro _ _; rfl) : RdT X n sc e m G t := SnT.val (h.to ⟨t, ht, rfl, rfl⟩) hp
theorem Rd.not {l : PySem.Expr} {t : Bool} {pos : Pos} (h : Rd X n sc l m G v) (ht : Tru G v t) : Rd X n sc (.UnaryOp .Not l pos) m G (.bool (!t)) := Sn.not (h.to ⟨t, ht, rfl, rfl⟩)
theorem RdT.not {l : PySem.Expr} {t : Bool} {pos : Pos} (h : RdT X n sc l m G t) : RdT X n sc (.UnaryOp .Not l pos) m G (!t) := SnT.not (h.to ⟨rfl, rfl⟩)
theorem Rd.and1 {a : PySem.Expr} {pos : Pos} (h : Rd X n sc a m G v) : Rd X n sc (.BoolOp .And [a] pos) m G v := Sn.and1 h
theorem Rd.or1 {a : PySem.Expr} {pos : Pos} (h : Rd X n sc a m G v) : Rd X n sc (.BoolOp .Or [a] pos) m G v := Sn.or1 h
theorem Rd.and {a c : PySem.Expr} {rest : List PySem.Expr} {pos : Pos} {p q : Bool} (h : Rd X n sc a m G (.bool p)) (k : p = true → Rd X n sc (.BoolOp .And (c :: rest) pos) m G (.bool q)) : Rd X n sc (.BoolOp .And (a :: c :: rest) pos) m G (.bool (p && q)) :=
  Sn.and (h.to ⟨p, .bool p, fun e => by rw [e]; exact k e, fun e => by rw [e]; exact ⟨rfl, rfl⟩⟩)
theorem Rd.or {a c : PySem.Expr} {rest : List PySem.Expr} {pos : Pos} {p q : Bool} (h : Rd X n sc a m G (.bool p)) (k : p = false → Rd X n sc (.BoolOp .Or (c :: rest) pos) m G (.bool q)) : Rd X n sc (.BoolOp .Or (a :: c :: rest) pos) m G (.bool (p || q)) :=
  Sn.or (h.to ⟨p, .bool p, fun e => by rw [e]; exact ⟨rfl, rfl⟩, fun e => by rw [e]; exact k e⟩)
theorem RdT.and1 {a : PySem.Expr} {pos : Pos} {t : Bool} (h : RdT X n sc a m G t) : RdT X n sc (.BoolOp .And [a] pos) m G t := SnT.and1 h
theorem RdT.or1 {a : PySem.Expr} {pos : Pos} {t : Bool} (h : RdT X n sc a m G t) : RdT X n sc (.BoolOp .Or [a] pos) m G t := SnT.or1 h
theorem RdT.and {a c : PySem.Expr} {rest : List PySem.Expr} {pos : Pos} {p q : Bool} (h : RdT X n sc a m G p) (k : p = true → RdT X n sc (.BoolOp .And (c :: rest) pos) m G q) : RdT X n sc (.BoolOp .And (a :: c :: rest) pos) m G (p && q) :=
  SnT.and (h.to ⟨fun e => by rw [e]; exact k e, fun e => by rw [e]; exact ⟨rfl, rfl⟩⟩)
theorem RdT.or {a c : PySem.Expr} {rest : List PySem.Expr} {pos : Pos} {p q : Bool} (h : RdT X n sc a m G p) (k : p = false → RdT X n sc (.BoolOp .Or (c :: rest) pos) m G q) : RdT X n sc (.BoolOp .Or (a :: c :: rest) pos) m G (p || q) :=
  SnT.or (h.to ⟨fun e => by rw [e]; exact ⟨rfl, rfl⟩, fun e => by rw [e]; exact k e⟩)
theorem Rd.ite {t a c : PySem.Expr} {pos : Pos} {r : Bool} (h : RdT X n sc t m G r) (ha : r = true → Rd X n sc a m G v) (hb : r = false → Rd X n sc c m G w) : Rd X n sc (.IfExp t a c pos) m G (if r then v else w) :=
  Sn.ite (h.to ⟨fun e => by rw [if_pos e]; exact ha e, fun e => by rw [if_neg (by rw [e]; decide)]; exact hb e⟩)
noncomputable abbrev Rds (X : Cx) (n : Nat) (sc : Scope) (es : List PySem.Expr) (m : M) (G : Gh) (vs : List Val) : Prop := SnEs X n sc es m G fun vs' G' => vs' = vs ∧ G' = G
theorem Rds.to {es : List PySem.Expr} {vs : List Val} {Q : List Val → Gh → Prop} (h : Rds X n sc es m G vs) (q : Q vs G) : SnEs X n sc es m G Q := ⟨fun hy => h.use hy fun ys s₁ vs' G₁ hv hy₁ f₁ h₁ => by obtain ⟨rfl, rfl⟩ := h₁; exact .mk _ _ hv hy₁.hr f₁ q⟩
theorem Rds.nil : Rds X n sc [] m G [] := SnEs.nil ⟨rfl, rfl⟩
theorem Rds.cons {es : List PySem.Expr} {vs : List Val} (h : Rd X n sc e m G v) (k : Rds X n sc es m G vs) (hp : ∀ env, starEach (e :: es) env = (false, eval e env) :: starEach es env := by intro _; rfl) : Rds X n sc (e :: es) m G (v :: vs) := SnEs.cons (h.to (k.to ⟨rfl, rfl⟩)) hp
theorem lt_cap {k : Nat} (h : Nat.ble k 1000 = true) : k < cap := by have := Nat.le_of_ble_eq_true h; unfold cap; omega
theorem Rd.tup {es : List PySem.Expr} {vs : List Val} {k : Nat} {pos : Pos} (h : Rds X n sc es m G vs) (hl : Nat.ble vs.length 1000 = true := by rfl) : Rd X n sc (.Tuple es k pos) m G (.tup vs) := Sn.tup (h.to ⟨lt_cap hl, rfl, rfl⟩)
theorem Sn.listR {es : List PySem.Expr} {vs : List Val} {Q : QE} {pos : Pos} (h : Rds X n sc es m G vs) (q : newList vs G Q) (hl : Nat.ble vs.length 1000 = true := by rfl) : Sn X n sc (.List es pos) m G Q := Sn.list (h.to ⟨lt_cap hl, q⟩)
theorem Rd.fn {id : String} {es : List PySem.Expr} {vs : List Val} {p pos : Pos} (hx : BltOK X) (h1 : id ∈ (["len", "list", "sorted", "any", "all", "sum", "int", "abs", "min", "set", "range", "enumerate", "zip", "isinstance", "bool"] : List String)) (h2 : id ∈ (["len", "sorted", "any", "all", "sum", "abs", "min", "isinstance"] : List String))
    (hk : GlobIn sc (Str.ofString id)) (hn : NoStar es) (h : Rds X n sc es m G vs) (k : Blt X n (.builtin id) vs G (One v G)) : Rd X n sc (.Call (.Name (Str.ofString id) p) es [] pos) m G v := Sn.fn hx h1 h2 hk hn (h.to k)
theorem SnB.assign {Q : QS} {id : Str} {p pos : Pos} {sts : List PySem.Stmt} (h : Rd X n sc e (L sc os) G v) (u : Upd false sc.names os id v os') (k : SnB X n sc sts (L sc os') G Q) (hsw : ∀ env, swapsWith e (some (.Name id p)) pos.line env = pure false := by intro _; rfl) : SnB X n sc (.Assign [.Name id p] e pos :: sts) (L sc os) G Q :=
  .cons (.assign (h.to ⟨_, u.put, .next k⟩) hsw)
theorem SnB.assignQ {Q : QS} {id : Str} {p pos : Pos} {sts : List PySem.Stmt} (h : Sn X n sc e (L sc os) G fun v G' => ∃ os', Upd false sc.names os id v os' ∧ SnB X n sc sts (L sc os') G' Q) (hsw : ∀ env, swapsWith e (some (.Name id p)) pos.line env = pure false := by intro _; rfl) : SnB X n sc (.Assign [.Name id p] e pos :: sts) (L sc os) G Q :=
  .cons (.assign (h.mono fun v G' ⟨os', u, k⟩ => ⟨_, u.put, .next k⟩) hsw)
theorem SnB.ret {Q : QS} {pos : Pos} {sts : List PySem.Stmt} (h : Sn X n sc e m G fun v G' => Q (.ret v) m G') : SnB X n sc (.Return (some e) pos :: sts) m G Q := .cons (.ret (h.mono fun _ _ q => .ret q))
theorem SnB.retB {Q : QE} {pos : Pos} {sts : List PySem.Stmt} (h : Sn X n sc e m G Q) : SnB X n sc (.Return (some e) pos :: sts) m G (Back Q) := SnB.ret (h.mono fun _ _ q => .ret q)
theorem SnB.expr {Q : QS} {pos : Pos} {sts : List PySem.Stmt} (h : Sn X n sc e m G fun v G' => SnB X n sc sts m G' Q) (hsw : ∀ env, swapsWith e .none pos.line env = pure false := by intro _; rfl) : SnB X n sc (.Expr e pos :: sts) m G Q := .cons (.expr (h.mono fun _ _ q => .next q) hsw)
theorem SnB.ifs {Q : QS} {t : PySem.Expr} {a c sts : List PySem.Stmt} {pos : Pos} {r : Bool} (h : RdT X n sc t m G r) (ha : r = true → SnB X n sc a m G (Then X n sc sts Q)) (hb : r = false → SnB X n sc c m G (Then X n sc sts Q)) : SnB X n sc (.If t a c pos :: sts) m G Q := .cons (.ifs (h.to ⟨ha, hb⟩))
theorem SnB.nilT {Q : QS} {sts : List PySem.Stmt} (h : SnB X n sc sts m G Q) : SnB X n sc [] m G (Then X n sc sts Q) := .nil (.next h)
theorem SnB.retT {Q : QE} {pos : Pos} {sts rest : List PySem.Stmt} (h : Sn X n sc e m G Q) : SnB X n sc (.Return (some e) pos :: rest) m G (Then X n sc sts (Back Q)) := SnB.ret (h.mono fun _ _ q => .ret (.ret q))
theorem SnB.cont {Q : QS} {pos : Pos} {sts : List PySem.Stmt} (q : Q .cont m G) : SnB X n sc (.Continue pos :: sts) m G Q := .cons (.cont (.cont q))
theorem Bnds.two {x y : Str} {p1 p2 : Pos} (u1 : Upd loc sc.names os x v os') (u2 : Upd loc sc.names os' y w os'') : Bnds X loc sc [.Name x p1, .Name y p2] [v, w] (L sc os) (L sc os'') := .cons u1.bnd (.cons u2.bnd .nil)
theorem SnB.assign2 {Q : QS} {x y : Str} {k : Nat} {p1 p2 p pos : Pos} {sts : List PySem.Stmt} (h : Rd X n sc e (L sc os) G (.tup [v, w])) (u1 : Upd false sc.names os x v os') (u2 : Upd false sc.names os' y w os'') (kk : SnB X n sc sts (L sc os'') G Q)
    (hsw : ∀ env, swapsWithSole [.Tuple [.Name x p1, .Name y p2] k p] e pos.line env = pure false := by intro _; rfl) (hw : ∀ env, swappedStores [.Tuple [.Name x p1, .Name y p2] k p] e env = pure .none := by intro _; rfl) : SnB X n sc (.Assign [.Tuple [.Name x p1, .Name y p2] k p] e pos :: sts) (L sc os) G Q :=
  .cons (.assignT (h.to ⟨_, .tup (.two u1 u2), .next kk⟩) hsw hw)
theorem Sn.ref {f : Addr} {Q : QE} {id : Str} {es : List PySem.Expr} {vs : List Val} {p pos : Pos} (hd : DefName X id f) (hk : GlobIn sc id) (hn : NoStar es) (h : Rds X n sc es m G vs) (k : Cal X n f vs G Q) : Sn X n sc (.Call (.Name id p) es [] pos) m G Q := Sn.call hd hk hn (h.to k)
end
end
noncomputable section
set_option maxRecDepth 100000
set_option maxHeartbeats 0
noncomputable def pst (i : Nat) : PySem.Stmt := match PySem.Challenge.pw_nm0021_03.main.body[i]? with | some s => s | none => .Pass ⟨0, 0, 0, 0⟩
noncomputable def cst : PySem.Stmt → PySem.Stmt | .ClassDef _ _ _ (s :: _) _ _ _ _ _ _ _ => s | s => s
noncomputable def fdA : PySem.Stmt → Arguments | .FunctionDef _ a _ _ _ _ _ _ _ _ => a | _ => ⟨[], [], none, [], [], none, []⟩
noncomputable def fdB : PySem.Stmt → List PySem.Stmt | .FunctionDef _ _ b _ _ _ _ _ _ _ => b | _ => []
noncomputable def fdS : PySem.Stmt → Scope | .FunctionDef _ _ _ _ _ _ s _ _ _ => s | _ => default
noncomputable def ko2 (P : Params) : Obj := { cls := Value.none, data := Data.dict #[] }
noncomputable def ko3 (P : Params) : Obj := { cls := Value.type "dict", data := Data.dict #[{ hash := PyData.keyHash P (Str.ofString "__name__"), key := Value.str (Str.ofString "__name__") 165, val := Value.str (Str.ofString "law_nm0021_03") 588 }, { hash := PyData.keyHash P (Str.ofString "__doc__"), key := Value.str (Str.ofString "__doc__") 166, val := Value.none }, { hash := PyData.keyHash P (Str.ofString "__package__"), key := Value.str (Str.ofString "__package__") 167, val := Value.none }, { hash := PyData.keyHash P (Str.ofString "__loader__"), key := Value.str (Str.ofString "__loader__") 168, val := Value.builtin "__main__.__loader__#opaque" }, { hash := PyData.keyHash P (Str.ofString "__spec__"), key := Value.str (Str.ofString "__spec__") 169, val := Value.none }, { hash := PyData.keyHash P (Str.ofString "__annotations__"), key := Value.str (Str.ofString "__annotations__") 170, val := Value.ref 6 }, { hash := PyData.keyHash P (Str.ofString "__builtins__"), key := Value.str (Str.ofString "__builtins__") 171, val := Value.ref 4 }, { hash := PyData.keyHash P (Str.ofString "__file__"), key := Value.str (Str.ofString "__file__") 173, val := Value.str (Str.ofString "/claim/cut.py") 172 }, { hash := PyData.keyHash P (Str.ofString "__cached__"), key := Value.str (Str.ofString "__cached__") 174, val := Value.none }, { hash := PyData.keyHash P (Str.ofString "Step"), key := Value.str (Str.ofString "Step") 225, val := Value.ref 31 }, { hash := PyData.keyHash P (Str.ofString "Block"), key := Value.str (Str.ofString "Block") 256, val := Value.ref 52 }, { hash := PyData.keyHash P (Str.ofString "Func"), key := Value.str (Str.ofString "Func") 291, val := Value.ref 73 }, { hash := PyData.keyHash P (Str.ofString "followers"), key := Value.str (Str.ofString "followers") 299, val := Value.ref 84 }, { hash := PyData.keyHash P (Str.ofString "ROUND"), key := Value.str (Str.ofString "ROUND") 305, val := Value.int 4294967296 304 }, { hash := PyData.keyHash P (Str.ofString "EFFECTS"), key := Value.str (Str.ofString "EFFECTS") 318, val := Value.ref 85 }, { hash := PyData.keyHash P (Str.ofString "DIVISIONS"), key := Value.str (Str.ofString "DIVISIONS") 331, val := Value.ref 86 }, { hash := PyData.keyHash P (Str.ofString "has_effect"), key := Value.str (Str.ofString "has_effect") 338, val := Value.ref 93 }, { hash := PyData.keyHash P (Str.ofString "can_fault"), key := Value.str (Str.ofString "can_fault") 347, val := Value.ref 100 }, { hash := PyData.keyHash P (Str.ofString "is_plain"), key := Value.str (Str.ofString "is_plain") 354, val := Value.ref 107 }, { hash := PyData.keyHash P (Str.ofString "preds"), key := Value.str (Str.ofString "preds") 360, val := Value.ref 112 }, { hash := PyData.keyHash P (Str.ofString "postorder"), key := Value.str (Str.ofString "postorder") 372, val := Value.ref 119 }, { hash := PyData.keyHash P (Str.ofString "in_place_of"), key := Value.str (Str.ofString "in_place_of") 384, val := Value.ref 126 }, { hash := PyData.keyHash P (Str.ofString "CALLS"), key := Value.str (Str.ofString "CALLS") 393, val := Value.ref 127 }, { hash := PyData.keyHash P (Str.ofString "SELDOM_FREE"), key := Value.str (Str.ofString "SELDOM_FREE") 421, val := Value.ref 128 }, { hash := PyData.keyHash P (Str.ofString "slot_steps"), key := Value.str (Str.ofString "slot_steps") 431, val := Value.ref 135 }, { hash := PyData.keyHash P (Str.ofString "times_set"), key := Value.str (Str.ofString "times_set") 443, val := Value.ref 142 }, { hash := PyData.keyHash P (Str.ofString "slot_registers"), key := Value.str (Str.ofString "slot_registers") 455, val := Value.ref 149 }, { hash := PyData.keyHash P (Str.ofString "is_free"), key := Value.str (Str.ofString "is_free") 466, val := Value.ref 156 }, { hash := PyData.keyHash P (Str.ofString "need_ahead"), key := Value.str (Str.ofString "need_ahead") 479, val := Value.ref 163 }, { hash := PyData.keyHash P (Str.ofString "need_behind"), key := Value.str (Str.ofString "need_behind") 489, val := Value.ref 170 }, { hash := PyData.keyHash P (Str.ofString "needs_ahead"), key := Value.str (Str.ofString "needs_ahead") 506, val := Value.ref 177 }, { hash := PyData.keyHash P (Str.ofString "without_register"), key := Value.str (Str.ofString "without_register") 513, val := Value.ref 184 }, { hash := PyData.keyHash P (Str.ofString "swept_steps"), key := Value.str (Str.ofString "swept_steps") 527, val := Value.ref 191 }, { hash := PyData.keyHash P (Str.ofString "sweep_steps"), key := Value.str (Str.ofString "sweep_steps") 533, val := Value.ref 196 }, { hash := PyData.keyHash P (Str.ofString "is_plain_store"), key := Value.str (Str.ofString "is_plain_store") 543, val := Value.ref 203 }, { hash := PyData.keyHash P (Str.ofString "taken_slots"), key := Value.str (Str.ofString "taken_slots") 560, val := Value.ref 210 }, { hash := PyData.keyHash P (Str.ofString "is_store_to"), key := Value.str (Str.ofString "is_store_to") 571, val := Value.ref 217 }, { hash := PyData.keyHash P (Str.ofString "sweep_stores"), key := Value.str (Str.ofString "sweep_stores") 577, val := Value.ref 222 }, { hash := PyData.keyHash P (Str.ofString "sweep_func"), key := Value.str (Str.ofString "sweep_func") 587, val := Value.ref 229 }, { hash := PyData.keyHash P (Str.ofString "_law_TWO"), key := Value.str (Str.ofString "_law_TWO") 607, val := Value.ref 230 }, { hash := PyData.keyHash P (Str.ofString "_law_ONE"), key := Value.str (Str.ofString "_law_ONE") 615, val := Value.ref 231 }, { hash := PyData.keyHash P (Str.ofString "_law_swept"), key := Value.str (Str.ofString "_law_swept") 621, val := Value.ref 236 }, { hash := PyData.keyHash P (Str.ofString "_law_is_right"), key := Value.str (Str.ofString "_law_is_right") 627, val := Value.ref 241 }, { hash := PyData.keyHash P (Str.ofString "_law_idle"), key := Value.str (Str.ofString "_law_idle") 646, val := Value.ref 248 }, { hash := PyData.keyHash P (Str.ofString "_law_idle_right"), key := Value.str (Str.ofString "_law_idle_right") 663, val := Value.ref 255 }, { hash := PyData.keyHash P (Str.ofString "_law_loop_right"), key := Value.str (Str.ofString "_law_loop_right") 676, val := Value.ref 262 }, { hash := PyData.keyHash P (Str.ofString "_law_use"), key := Value.str (Str.ofString "_law_use") 690, val := Value.ref 269 }, { hash := PyData.keyHash P (Str.ofString "_law_stores_right"), key := Value.str (Str.ofString "_law_stores_right") 696, val := Value.ref 274 }, { hash := PyData.keyHash P (Str.ofString "law"), key := Value.str (Str.ofString "law") 702, val := Value.ref 279 }] 49 }
noncomputable def ko27 (P : Params) : Obj := { cls := Value.type "code", data := Data.fields #[Value.str (Str.ofString "__init__") 201, Value.str (Str.ofString "Step.__init__") 202, Value.str (Str.ofString "/claim/cut.py") 203, Value.int 4 0, Value.int 5 0, Value.int 0 0, Value.int 0 0, Value.int 3 0, Value.ref 22, Value.bool true, Value.int 181 0, Value.ref 23, Value.none, Value.ref 24, Value.ref 25, Value.ref 26, Value.int 209 0, Value.int 4 0, Value.str (Str.ofString "/claim/cut.py") 210] }
noncomputable def ko28 (P : Params) : Obj := { cls := Value.type "function", data := Data.func { name := Str.ofString "__init__", qualname := Str.ofString "Step.__init__", params := fdA (cst (pst 1)), body := .stmts (fdB (cst (pst 1))), scope := fdS (cst (pst 1)), globals := 3, closure := [], defaults := Value.none, kwdefaults := Value.none, pyModule := Value.str (Str.ofString "corecc.code") 187, code := Value.ref 27 } }
noncomputable def ko30 (P : Params) : Obj := { cls := Value.type "dict", data := Data.dict #[{ hash := PyData.keyHash P (Str.ofString "__module__"), key := Value.str (Str.ofString "__module__") 196, val := Value.str (Str.ofString "corecc.code") 187 }, { hash := PyData.keyHash P (Str.ofString "__firstlineno__"), key := Value.str (Str.ofString "__firstlineno__") 200, val := Value.int 2 199 }, { hash := PyData.keyHash P (Str.ofString "__init__"), key := Value.str (Str.ofString "__init__") 211, val := Value.ref 28 }, { hash := PyData.keyHash P (Str.ofString "__static_attributes__"), key := Value.str (Str.ofString "__static_attributes__") 218, val := Value.ref 29 }, { hash := PyData.keyHash P (Str.ofString "__dict__"), key := Value.str (Str.ofString "__dict__") 220, val := Value.ref 32 }, { hash := PyData.keyHash P (Str.ofString "__weakref__"), key := Value.str (Str.ofString "__weakref__") 222, val := Value.ref 33 }, { hash := PyData.keyHash P (Str.ofString "__doc__"), key := Value.str (Str.ofString "__doc__") 223, val := Value.none }] 4 }
noncomputable def ko31 (P : Params) : Obj := { cls := Value.type "type", data := Data.cls { name := Str.ofString "Step", bases := [Value.type "object"], mro := [Value.ref 31, Value.type "object"], ns := 30, qualname := Str.ofString "Step" }, slots := #[none, none, some (Value.str (Str.ofString "Step") 189), some (Value.str (Str.ofString "Step") 197), some (Value.builtin "object.__new__"), some (Value.bool true)] }
noncomputable def ko48 (P : Params) : Obj := { cls := Value.type "code", data := Data.fields #[Value.str (Str.ofString "__init__") 238, Value.str (Str.ofString "Block.__init__") 239, Value.str (Str.ofString "/claim/cut.py") 240, Value.int 13 0, Value.int 2 0, Value.int 0 0, Value.int 0 0, Value.int 3 0, Value.ref 43, Value.bool true, Value.int 181 0, Value.ref 44, Value.none, Value.ref 45, Value.ref 46, Value.ref 47, Value.int 243 0, Value.int 13 0, Value.str (Str.ofString "/claim/cut.py") 244] }
noncomputable def ko49 (P : Params) : Obj := { cls := Value.type "function", data := Data.func { name := Str.ofString "__init__", qualname := Str.ofString "Block.__init__", params := fdA (cst (pst 2)), body := .stmts (fdB (cst (pst 2))), scope := fdS (cst (pst 2)), globals := 3, closure := [], defaults := Value.none, kwdefaults := Value.none, pyModule := Value.str (Str.ofString "corecc.code") 187, code := Value.ref 48 } }
noncomputable def ko51 (P : Params) : Obj := { cls := Value.type "dict", data := Data.dict #[{ hash := PyData.keyHash P (Str.ofString "__module__"), key := Value.str (Str.ofString "__module__") 233, val := Value.str (Str.ofString "corecc.code") 187 }, { hash := PyData.keyHash P (Str.ofString "__firstlineno__"), key := Value.str (Str.ofString "__firstlineno__") 237, val := Value.int 11 236 }, { hash := PyData.keyHash P (Str.ofString "__init__"), key := Value.str (Str.ofString "__init__") 245, val := Value.ref 49 }, { hash := PyData.keyHash P (Str.ofString "__static_attributes__"), key := Value.str (Str.ofString "__static_attributes__") 249, val := Value.ref 50 }, { hash := PyData.keyHash P (Str.ofString "__dict__"), key := Value.str (Str.ofString "__dict__") 251, val := Value.ref 53 }, { hash := PyData.keyHash P (Str.ofString "__weakref__"), key := Value.str (Str.ofString "__weakref__") 253, val := Value.ref 54 }, { hash := PyData.keyHash P (Str.ofString "__doc__"), key := Value.str (Str.ofString "__doc__") 254, val := Value.none }] 4 }
noncomputable def ko52 (P : Params) : Obj := { cls := Value.type "type", data := Data.cls { name := Str.ofString "Block", bases := [Value.type "object"], mro := [Value.ref 52, Value.type "object"], ns := 51, qualname := Str.ofString "Block" }, slots := #[none, none, some (Value.str (Str.ofString "Block") 226), some (Value.str (Str.ofString "Block") 234), some (Value.builtin "object.__new__"), some (Value.bool true)] }
noncomputable def ko69 (P : Params) : Obj := { cls := Value.type "code", data := Data.fields #[Value.str (Str.ofString "__init__") 269, Value.str (Str.ofString "Func.__init__") 270, Value.str (Str.ofString "/claim/cut.py") 271, Value.int 19 0, Value.int 2 0, Value.int 0 0, Value.int 0 0, Value.int 3 0, Value.ref 64, Value.bool true, Value.int 181 0, Value.ref 65, Value.none, Value.ref 66, Value.ref 67, Value.ref 68, Value.int 274 0, Value.int 19 0, Value.str (Str.ofString "/claim/cut.py") 275] }
noncomputable def ko70 (P : Params) : Obj := { cls := Value.type "function", data := Data.func { name := Str.ofString "__init__", qualname := Str.ofString "Func.__init__", params := fdA (cst (pst 3)), body := .stmts (fdB (cst (pst 3))), scope := fdS (cst (pst 3)), globals := 3, closure := [], defaults := Value.none, kwdefaults := Value.none, pyModule := Value.str (Str.ofString "corecc.code") 187, code := Value.ref 69 } }
noncomputable def ko72 (P : Params) : Obj := { cls := Value.type "dict", data := Data.dict #[{ hash := PyData.keyHash P (Str.ofString "__module__"), key := Value.str (Str.ofString "__module__") 264, val := Value.str (Str.ofString "corecc.code") 187 }, { hash := PyData.keyHash P (Str.ofString "__firstlineno__"), key := Value.str (Str.ofString "__firstlineno__") 268, val := Value.int 17 267 }, { hash := PyData.keyHash P (Str.ofString "__init__"), key := Value.str (Str.ofString "__init__") 276, val := Value.ref 70 }, { hash := PyData.keyHash P (Str.ofString "__static_attributes__"), key := Value.str (Str.ofString "__static_attributes__") 284, val := Value.ref 71 }, { hash := PyData.keyHash P (Str.ofString "__dict__"), key := Value.str (Str.ofString "__dict__") 286, val := Value.ref 74 }, { hash := PyData.keyHash P (Str.ofString "__weakref__"), key := Value.str (Str.ofString "__weakref__") 288, val := Value.ref 75 }, { hash := PyData.keyHash P (Str.ofString "__doc__"), key := Value.str (Str.ofString "__doc__") 289, val := Value.none }] 4 }
noncomputable def ko73 (P : Params) : Obj := { cls := Value.type "type", data := Data.cls { name := Str.ofString "Func", bases := [Value.type "object"], mro := [Value.ref 73, Value.type "object"], ns := 72, qualname := Str.ofString "Func" }, slots := #[none, none, some (Value.str (Str.ofString "Func") 257), some (Value.str (Str.ofString "Func") 265), some (Value.builtin "object.__new__"), some (Value.bool true)] }
noncomputable def ko83 (P : Params) : Obj := { cls := Value.type "code", data := Data.fields #[Value.str (Str.ofString "followers") 292, Value.str (Str.ofString "followers") 293, Value.str (Str.ofString "/claim/cut.py") 294, Value.int 27 0, Value.int 1 0, Value.int 0 0, Value.int 0 0, Value.int 3 0, Value.ref 78, Value.bool true, Value.int 181 0, Value.ref 79, Value.none, Value.ref 80, Value.ref 81, Value.ref 82, Value.int 297 0, Value.int 27 0, Value.str (Str.ofString "/claim/cut.py") 298] }
noncomputable def ko84 (P : Params) : Obj := { cls := Value.type "function", data := Data.func { name := Str.ofString "followers", qualname := Str.ofString "followers", params := fdA (pst 4), body := .stmts (fdB (pst 4)), scope := fdS (pst 4), globals := 3, closure := [], defaults := Value.none, kwdefaults := Value.none, pyModule := Value.str (Str.ofString "corecc.code") 187, code := Value.ref 83 } }
noncomputable def ko85 (P : Params) : Obj := { cls := Value.type "dict", data := Data.dict #[{ hash := PyData.keyHash P (Str.ofString "store"), key := Value.str (Str.ofString "store") 306, val := Value.int 1 307 }, { hash := PyData.keyHash P (Str.ofString "move"), key := Value.str (Str.ofString "move") 308, val := Value.int 1 309 }, { hash := PyData.keyHash P (Str.ofString "call"), key := Value.str (Str.ofString "call") 310, val := Value.int 1 311 }, { hash := PyData.keyHash P (Str.ofString "callreg"), key := Value.str (Str.ofString "callreg") 312, val := Value.int 1 313 }] 4 }
noncomputable def ko86 (P : Params) : Obj := { cls := Value.type "dict", data := Data.dict #[{ hash := PyData.keyHash P (Str.ofString "div"), key := Value.str (Str.ofString "div") 319, val := Value.int 1 320 }, { hash := PyData.keyHash P (Str.ofString "divu"), key := Value.str (Str.ofString "divu") 321, val := Value.int 1 322 }, { hash := PyData.keyHash P (Str.ofString "rem"), key := Value.str (Str.ofString "rem") 323, val := Value.int 1 324 }, { hash := PyData.keyHash P (Str.ofString "remu"), key := Value.str (Str.ofString "remu") 325, val := Value.int 1 326 }] 4 }
noncomputable def ko92 (P : Params) : Obj := { cls := Value.type "code", data := Data.fields #[Value.str (Str.ofString "has_effect") 332, Value.str (Str.ofString "has_effect") 333, Value.str (Str.ofString "/claim/cut.py") 334, Value.int 40 0, Value.int 1 0, Value.int 0 0, Value.int 0 0, Value.int 3 0, Value.ref 87, Value.bool true, Value.int 181 0, Value.ref 88, Value.none, Value.ref 89, Value.ref 90, Value.ref 91, Value.int 336 0, Value.int 40 0, Value.str (Str.ofString "/claim/cut.py") 337] }
noncomputable def ko93 (P : Params) : Obj := { cls := Value.type "function", data := Data.func { name := Str.ofString "has_effect", qualname := Str.ofString "has_effect", params := fdA (pst 9), body := .stmts (fdB (pst 9)), scope := fdS (pst 9), globals := 3, closure := [], defaults := Value.none, kwdefaults := Value.none, pyModule := Value.str (Str.ofString "corecc.flow") 300, code := Value.ref 92 } }
noncomputable def ko99 (P : Params) : Obj := { cls := Value.type "code", data := Data.fields #[Value.str (Str.ofString "can_fault") 339, Value.str (Str.ofString "can_fault") 340, Value.str (Str.ofString "/claim/cut.py") 341, Value.int 42 0, Value.int 1 0, Value.int 0 0, Value.int 0 0, Value.int 3 0, Value.ref 94, Value.bool true, Value.int 181 0, Value.ref 95, Value.none, Value.ref 96, Value.ref 97, Value.ref 98, Value.int 345 0, Value.int 42 0, Value.str (Str.ofString "/claim/cut.py") 346] }
noncomputable def ko100 (P : Params) : Obj := { cls := Value.type "function", data := Data.func { name := Str.ofString "can_fault", qualname := Str.ofString "can_fault", params := fdA (pst 10), body := .stmts (fdB (pst 10)), scope := fdS (pst 10), globals := 3, closure := [], defaults := Value.none, kwdefaults := Value.none, pyModule := Value.str (Str.ofString "corecc.flow") 300, code := Value.ref 99 } }
noncomputable def ko106 (P : Params) : Obj := { cls := Value.type "code", data := Data.fields #[Value.str (Str.ofString "is_plain") 348, Value.str (Str.ofString "is_plain") 349, Value.str (Str.ofString "/claim/cut.py") 350, Value.int 49 0, Value.int 1 0, Value.int 0 0, Value.int 0 0, Value.int 3 0, Value.ref 101, Value.bool true, Value.int 181 0, Value.ref 102, Value.none, Value.ref 103, Value.ref 104, Value.ref 105, Value.int 352 0, Value.int 49 0, Value.str (Str.ofString "/claim/cut.py") 353] }
noncomputable def ko107 (P : Params) : Obj := { cls := Value.type "function", data := Data.func { name := Str.ofString "is_plain", qualname := Str.ofString "is_plain", params := fdA (pst 11), body := .stmts (fdB (pst 11)), scope := fdS (pst 11), globals := 3, closure := [], defaults := Value.none, kwdefaults := Value.none, pyModule := Value.str (Str.ofString "corecc.flow") 300, code := Value.ref 106 } }
noncomputable def ko111 (P : Params) : Obj := { cls := Value.type "code", data := Data.fields #[Value.str (Str.ofString "preds") 355, Value.str (Str.ofString "preds") 356, Value.str (Str.ofString "/claim/cut.py") 357, Value.int 51 0, Value.int 1 0, Value.int 0 0, Value.int 0 0, Value.int 3 0, Value.ref 108, Value.bool true, Value.int 181 0, Value.ref 109, Value.none, Value.none, Value.none, Value.ref 110, Value.int 358 0, Value.int 51 0, Value.str (Str.ofString "/claim/cut.py") 359] }
noncomputable def ko112 (P : Params) : Obj := { cls := Value.type "function", data := Data.func { name := Str.ofString "preds", qualname := Str.ofString "preds", params := fdA (pst 12), body := .stmts (fdB (pst 12)), scope := fdS (pst 12), globals := 3, closure := [], defaults := Value.none, kwdefaults := Value.none, pyModule := Value.str (Str.ofString "corecc.flow") 300, code := Value.ref 111 } }
noncomputable def ko118 (P : Params) : Obj := { cls := Value.type "code", data := Data.fields #[Value.str (Str.ofString "postorder") 361, Value.str (Str.ofString "postorder") 362, Value.str (Str.ofString "/claim/cut.py") 363, Value.int 58 0, Value.int 1 0, Value.int 0 0, Value.int 0 0, Value.int 3 0, Value.ref 113, Value.bool true, Value.int 181 0, Value.ref 114, Value.none, Value.ref 115, Value.ref 116, Value.ref 117, Value.int 370 0, Value.int 58 0, Value.str (Str.ofString "/claim/cut.py") 371] }
noncomputable def ko119 (P : Params) : Obj := { cls := Value.type "function", data := Data.func { name := Str.ofString "postorder", qualname := Str.ofString "postorder", params := fdA (pst 13), body := .stmts (fdB (pst 13)), scope := fdS (pst 13), globals := 3, closure := [], defaults := Value.none, kwdefaults := Value.none, pyModule := Value.str (Str.ofString "corecc.flow") 300, code := Value.ref 118 } }
noncomputable def ko125 (P : Params) : Obj := { cls := Value.type "code", data := Data.fields #[Value.str (Str.ofString "in_place_of") 373, Value.str (Str.ofString "in_place_of") 374, Value.str (Str.ofString "/claim/cut.py") 375, Value.int 74 0, Value.int 5 0, Value.int 0 0, Value.int 0 0, Value.int 3 0, Value.ref 120, Value.bool true, Value.int 181 0, Value.ref 121, Value.none, Value.ref 122, Value.ref 123, Value.ref 124, Value.int 382 0, Value.int 74 0, Value.str (Str.ofString "/claim/cut.py") 383] }
noncomputable def ko126 (P : Params) : Obj := { cls := Value.type "function", data := Data.func { name := Str.ofString "in_place_of", qualname := Str.ofString "in_place_of", params := fdA (pst 14), body := .stmts (fdB (pst 14)), scope := fdS (pst 14), globals := 3, closure := [], defaults := Value.none, kwdefaults := Value.none, pyModule := Value.str (Str.ofString "corecc.flow") 300, code := Value.ref 125 } }
noncomputable def ko127 (P : Params) : Obj := { cls := Value.type "dict", data := Data.dict #[{ hash := PyData.keyHash P (Str.ofString "call"), key := Value.str (Str.ofString "call") 387, val := Value.int 1 388 }, { hash := PyData.keyHash P (Str.ofString "callreg"), key := Value.str (Str.ofString "callreg") 389, val := Value.int 1 390 }] 2 }
noncomputable def ko128 (P : Params) : Obj := { cls := Value.type "dict", data := Data.dict #[{ hash := PyData.keyHash P (Str.ofString "load"), key := Value.str (Str.ofString "load") 394, val := Value.int 1 395 }, { hash := PyData.keyHash P (Str.ofString "store"), key := Value.str (Str.ofString "store") 396, val := Value.int 1 397 }, { hash := PyData.keyHash P (Str.ofString "move"), key := Value.str (Str.ofString "move") 398, val := Value.int 1 399 }, { hash := PyData.keyHash P (Str.ofString "call"), key := Value.str (Str.ofString "call") 400, val := Value.int 1 401 }, { hash := PyData.keyHash P (Str.ofString "callreg"), key := Value.str (Str.ofString "callreg") 402, val := Value.int 1 403 }, { hash := PyData.keyHash P (Str.ofString "div"), key := Value.str (Str.ofString "div") 404, val := Value.int 1 405 }, { hash := PyData.keyHash P (Str.ofString "divu"), key := Value.str (Str.ofString "divu") 406, val := Value.int 1 407 }, { hash := PyData.keyHash P (Str.ofString "rem"), key := Value.str (Str.ofString "rem") 408, val := Value.int 1 409 }, { hash := PyData.keyHash P (Str.ofString "remu"), key := Value.str (Str.ofString "remu") 410, val := Value.int 1 411 }] 9 }
noncomputable def ko134 (P : Params) : Obj := { cls := Value.type "code", data := Data.fields #[Value.str (Str.ofString "slot_steps") 422, Value.str (Str.ofString "slot_steps") 423, Value.str (Str.ofString "/claim/cut.py") 424, Value.int 81 0, Value.int 1 0, Value.int 0 0, Value.int 0 0, Value.int 3 0, Value.ref 129, Value.bool true, Value.int 181 0, Value.ref 130, Value.none, Value.ref 131, Value.ref 132, Value.ref 133, Value.int 429 0, Value.int 81 0, Value.str (Str.ofString "/claim/cut.py") 430] }
noncomputable def ko135 (P : Params) : Obj := { cls := Value.type "function", data := Data.func { name := Str.ofString "slot_steps", qualname := Str.ofString "slot_steps", params := fdA (pst 18), body := .stmts (fdB (pst 18)), scope := fdS (pst 18), globals := 3, closure := [], defaults := Value.none, kwdefaults := Value.none, pyModule := Value.str (Str.ofString "corecc.dead") 385, code := Value.ref 134 } }
noncomputable def ko141 (P : Params) : Obj := { cls := Value.type "code", data := Data.fields #[Value.str (Str.ofString "times_set") 432, Value.str (Str.ofString "times_set") 433, Value.str (Str.ofString "/claim/cut.py") 434, Value.int 88 0, Value.int 2 0, Value.int 0 0, Value.int 0 0, Value.int 3 0, Value.ref 136, Value.bool true, Value.int 181 0, Value.ref 137, Value.none, Value.ref 138, Value.ref 139, Value.ref 140, Value.int 441 0, Value.int 88 0, Value.str (Str.ofString "/claim/cut.py") 442] }
noncomputable def ko142 (P : Params) : Obj := { cls := Value.type "function", data := Data.func { name := Str.ofString "times_set", qualname := Str.ofString "times_set", params := fdA (pst 19), body := .stmts (fdB (pst 19)), scope := fdS (pst 19), globals := 3, closure := [], defaults := Value.none, kwdefaults := Value.none, pyModule := Value.str (Str.ofString "corecc.dead") 385, code := Value.ref 141 } }
noncomputable def ko148 (P : Params) : Obj := { cls := Value.type "code", data := Data.fields #[Value.str (Str.ofString "slot_registers") 444, Value.str (Str.ofString "slot_registers") 445, Value.str (Str.ofString "/claim/cut.py") 446, Value.int 97 0, Value.int 1 0, Value.int 0 0, Value.int 0 0, Value.int 3 0, Value.ref 143, Value.bool true, Value.int 181 0, Value.ref 144, Value.none, Value.ref 145, Value.ref 146, Value.ref 147, Value.int 453 0, Value.int 97 0, Value.str (Str.ofString "/claim/cut.py") 454] }
noncomputable def ko149 (P : Params) : Obj := { cls := Value.type "function", data := Data.func { name := Str.ofString "slot_registers", qualname := Str.ofString "slot_registers", params := fdA (pst 20), body := .stmts (fdB (pst 20)), scope := fdS (pst 20), globals := 3, closure := [], defaults := Value.none, kwdefaults := Value.none, pyModule := Value.str (Str.ofString "corecc.dead") 385, code := Value.ref 148 } }
noncomputable def ko155 (P : Params) : Obj := { cls := Value.type "code", data := Data.fields #[Value.str (Str.ofString "is_free") 456, Value.str (Str.ofString "is_free") 457, Value.str (Str.ofString "/claim/cut.py") 458, Value.int 109 0, Value.int 3 0, Value.int 0 0, Value.int 0 0, Value.int 3 0, Value.ref 150, Value.bool true, Value.int 181 0, Value.ref 151, Value.none, Value.ref 152, Value.ref 153, Value.ref 154, Value.int 464 0, Value.int 109 0, Value.str (Str.ofString "/claim/cut.py") 465] }
noncomputable def ko156 (P : Params) : Obj := { cls := Value.type "function", data := Data.func { name := Str.ofString "is_free", qualname := Str.ofString "is_free", params := fdA (pst 21), body := .stmts (fdB (pst 21)), scope := fdS (pst 21), globals := 3, closure := [], defaults := Value.none, kwdefaults := Value.none, pyModule := Value.str (Str.ofString "corecc.dead") 385, code := Value.ref 155 } }
noncomputable def ko162 (P : Params) : Obj := { cls := Value.type "code", data := Data.fields #[Value.str (Str.ofString "need_ahead") 467, Value.str (Str.ofString "need_ahead") 468, Value.str (Str.ofString "/claim/cut.py") 469, Value.int 116 0, Value.int 4 0, Value.int 0 0, Value.int 0 0, Value.int 3 0, Value.ref 157, Value.bool true, Value.int 181 0, Value.ref 158, Value.none, Value.ref 159, Value.ref 160, Value.ref 161, Value.int 477 0, Value.int 116 0, Value.str (Str.ofString "/claim/cut.py") 478] }
noncomputable def ko163 (P : Params) : Obj := { cls := Value.type "function", data := Data.func { name := Str.ofString "need_ahead", qualname := Str.ofString "need_ahead", params := fdA (pst 22), body := .stmts (fdB (pst 22)), scope := fdS (pst 22), globals := 3, closure := [], defaults := Value.none, kwdefaults := Value.none, pyModule := Value.str (Str.ofString "corecc.dead") 385, code := Value.ref 162 } }
noncomputable def ko169 (P : Params) : Obj := { cls := Value.type "code", data := Data.fields #[Value.str (Str.ofString "need_behind") 480, Value.str (Str.ofString "need_behind") 481, Value.str (Str.ofString "/claim/cut.py") 482, Value.int 129 0, Value.int 2 0, Value.int 0 0, Value.int 0 0, Value.int 3 0, Value.ref 164, Value.bool true, Value.int 181 0, Value.ref 165, Value.none, Value.ref 166, Value.ref 167, Value.ref 168, Value.int 487 0, Value.int 129 0, Value.str (Str.ofString "/claim/cut.py") 488] }
noncomputable def ko170 (P : Params) : Obj := { cls := Value.type "function", data := Data.func { name := Str.ofString "need_behind", qualname := Str.ofString "need_behind", params := fdA (pst 23), body := .stmts (fdB (pst 23)), scope := fdS (pst 23), globals := 3, closure := [], defaults := Value.none, kwdefaults := Value.none, pyModule := Value.str (Str.ofString "corecc.dead") 385, code := Value.ref 169 } }
noncomputable def ko176 (P : Params) : Obj := { cls := Value.type "code", data := Data.fields #[Value.str (Str.ofString "needs_ahead") 490, Value.str (Str.ofString "needs_ahead") 491, Value.str (Str.ofString "/claim/cut.py") 492, Value.int 134 0, Value.int 2 0, Value.int 0 0, Value.int 0 0, Value.int 3 0, Value.ref 171, Value.bool true, Value.int 181 0, Value.ref 172, Value.none, Value.ref 173, Value.ref 174, Value.ref 175, Value.int 504 0, Value.int 134 0, Value.str (Str.ofString "/claim/cut.py") 505] }
noncomputable def ko177 (P : Params) : Obj := { cls := Value.type "function", data := Data.func { name := Str.ofString "needs_ahead", qualname := Str.ofString "needs_ahead", params := fdA (pst 24), body := .stmts (fdB (pst 24)), scope := fdS (pst 24), globals := 3, closure := [], defaults := Value.none, kwdefaults := Value.none, pyModule := Value.str (Str.ofString "corecc.dead") 385, code := Value.ref 176 } }
noncomputable def ko183 (P : Params) : Obj := { cls := Value.type "code", data := Data.fields #[Value.str (Str.ofString "without_register") 507, Value.str (Str.ofString "without_register") 508, Value.str (Str.ofString "/claim/cut.py") 509, Value.int 156 0, Value.int 1 0, Value.int 0 0, Value.int 0 0, Value.int 3 0, Value.ref 178, Value.bool true, Value.int 181 0, Value.ref 179, Value.none, Value.ref 180, Value.ref 181, Value.ref 182, Value.int 511 0, Value.int 156 0, Value.str (Str.ofString "/claim/cut.py") 512] }
noncomputable def ko184 (P : Params) : Obj := { cls := Value.type "function", data := Data.func { name := Str.ofString "without_register", qualname := Str.ofString "without_register", params := fdA (pst 25), body := .stmts (fdB (pst 25)), scope := fdS (pst 25), globals := 3, closure := [], defaults := Value.none, kwdefaults := Value.none, pyModule := Value.str (Str.ofString "corecc.dead") 385, code := Value.ref 183 } }
noncomputable def ko190 (P : Params) : Obj := { cls := Value.type "code", data := Data.fields #[Value.str (Str.ofString "swept_steps") 514, Value.str (Str.ofString "swept_steps") 515, Value.str (Str.ofString "/claim/cut.py") 516, Value.int 158 0, Value.int 4 0, Value.int 0 0, Value.int 0 0, Value.int 3 0, Value.ref 185, Value.bool true, Value.int 181 0, Value.ref 186, Value.none, Value.ref 187, Value.ref 188, Value.ref 189, Value.int 525 0, Value.int 158 0, Value.str (Str.ofString "/claim/cut.py") 526] }
noncomputable def ko191 (P : Params) : Obj := { cls := Value.type "function", data := Data.func { name := Str.ofString "swept_steps", qualname := Str.ofString "swept_steps", params := fdA (pst 26), body := .stmts (fdB (pst 26)), scope := fdS (pst 26), globals := 3, closure := [], defaults := Value.none, kwdefaults := Value.none, pyModule := Value.str (Str.ofString "corecc.dead") 385, code := Value.ref 190 } }
noncomputable def ko195 (P : Params) : Obj := { cls := Value.type "code", data := Data.fields #[Value.str (Str.ofString "sweep_steps") 528, Value.str (Str.ofString "sweep_steps") 529, Value.str (Str.ofString "/claim/cut.py") 530, Value.int 177 0, Value.int 2 0, Value.int 0 0, Value.int 0 0, Value.int 3 0, Value.ref 192, Value.bool true, Value.int 181 0, Value.ref 193, Value.none, Value.none, Value.none, Value.ref 194, Value.int 531 0, Value.int 177 0, Value.str (Str.ofString "/claim/cut.py") 532] }
noncomputable def ko196 (P : Params) : Obj := { cls := Value.type "function", data := Data.func { name := Str.ofString "sweep_steps", qualname := Str.ofString "sweep_steps", params := fdA (pst 27), body := .stmts (fdB (pst 27)), scope := fdS (pst 27), globals := 3, closure := [], defaults := Value.none, kwdefaults := Value.none, pyModule := Value.str (Str.ofString "corecc.dead") 385, code := Value.ref 195 } }
noncomputable def ko202 (P : Params) : Obj := { cls := Value.type "code", data := Data.fields #[Value.str (Str.ofString "is_plain_store") 534, Value.str (Str.ofString "is_plain_store") 535, Value.str (Str.ofString "/claim/cut.py") 536, Value.int 187 0, Value.int 4 0, Value.int 0 0, Value.int 0 0, Value.int 3 0, Value.ref 197, Value.bool true, Value.int 181 0, Value.ref 198, Value.none, Value.ref 199, Value.ref 200, Value.ref 201, Value.int 541 0, Value.int 187 0, Value.str (Str.ofString "/claim/cut.py") 542] }
noncomputable def ko203 (P : Params) : Obj := { cls := Value.type "function", data := Data.func { name := Str.ofString "is_plain_store", qualname := Str.ofString "is_plain_store", params := fdA (pst 28), body := .stmts (fdB (pst 28)), scope := fdS (pst 28), globals := 3, closure := [], defaults := Value.none, kwdefaults := Value.none, pyModule := Value.str (Str.ofString "corecc.dead") 385, code := Value.ref 202 } }
noncomputable def ko209 (P : Params) : Obj := { cls := Value.type "code", data := Data.fields #[Value.str (Str.ofString "taken_slots") 544, Value.str (Str.ofString "taken_slots") 545, Value.str (Str.ofString "/claim/cut.py") 546, Value.int 191 0, Value.int 3 0, Value.int 0 0, Value.int 0 0, Value.int 3 0, Value.ref 204, Value.bool true, Value.int 181 0, Value.ref 205, Value.none, Value.ref 206, Value.ref 207, Value.ref 208, Value.int 558 0, Value.int 191 0, Value.str (Str.ofString "/claim/cut.py") 559] }
noncomputable def ko210 (P : Params) : Obj := { cls := Value.type "function", data := Data.func { name := Str.ofString "taken_slots", qualname := Str.ofString "taken_slots", params := fdA (pst 29), body := .stmts (fdB (pst 29)), scope := fdS (pst 29), globals := 3, closure := [], defaults := Value.none, kwdefaults := Value.none, pyModule := Value.str (Str.ofString "corecc.dead") 385, code := Value.ref 209 } }
noncomputable def ko216 (P : Params) : Obj := { cls := Value.type "code", data := Data.fields #[Value.str (Str.ofString "is_store_to") 561, Value.str (Str.ofString "is_store_to") 562, Value.str (Str.ofString "/claim/cut.py") 563, Value.int 204 0, Value.int 3 0, Value.int 0 0, Value.int 0 0, Value.int 3 0, Value.ref 211, Value.bool true, Value.int 181 0, Value.ref 212, Value.none, Value.ref 213, Value.ref 214, Value.ref 215, Value.int 569 0, Value.int 204 0, Value.str (Str.ofString "/claim/cut.py") 570] }
noncomputable def ko217 (P : Params) : Obj := { cls := Value.type "function", data := Data.func { name := Str.ofString "is_store_to", qualname := Str.ofString "is_store_to", params := fdA (pst 30), body := .stmts (fdB (pst 30)), scope := fdS (pst 30), globals := 3, closure := [], defaults := Value.none, kwdefaults := Value.none, pyModule := Value.str (Str.ofString "corecc.dead") 385, code := Value.ref 216 } }
noncomputable def ko221 (P : Params) : Obj := { cls := Value.type "code", data := Data.fields #[Value.str (Str.ofString "sweep_stores") 572, Value.str (Str.ofString "sweep_stores") 573, Value.str (Str.ofString "/claim/cut.py") 574, Value.int 209 0, Value.int 3 0, Value.int 0 0, Value.int 0 0, Value.int 3 0, Value.ref 218, Value.bool true, Value.int 181 0, Value.ref 219, Value.none, Value.none, Value.none, Value.ref 220, Value.int 575 0, Value.int 209 0, Value.str (Str.ofString "/claim/cut.py") 576] }
noncomputable def ko222 (P : Params) : Obj := { cls := Value.type "function", data := Data.func { name := Str.ofString "sweep_stores", qualname := Str.ofString "sweep_stores", params := fdA (pst 31), body := .stmts (fdB (pst 31)), scope := fdS (pst 31), globals := 3, closure := [], defaults := Value.none, kwdefaults := Value.none, pyModule := Value.str (Str.ofString "corecc.dead") 385, code := Value.ref 221 } }
noncomputable def ko228 (P : Params) : Obj := { cls := Value.type "code", data := Data.fields #[Value.str (Str.ofString "sweep_func") 578, Value.str (Str.ofString "sweep_func") 579, Value.str (Str.ofString "/claim/cut.py") 580, Value.int 220 0, Value.int 1 0, Value.int 0 0, Value.int 0 0, Value.int 3 0, Value.ref 223, Value.bool true, Value.int 181 0, Value.ref 224, Value.none, Value.ref 225, Value.ref 226, Value.ref 227, Value.int 585 0, Value.int 220 0, Value.str (Str.ofString "/claim/cut.py") 586] }
noncomputable def ko229 (P : Params) : Obj := { cls := Value.type "function", data := Data.func { name := Str.ofString "sweep_func", qualname := Str.ofString "sweep_func", params := fdA (pst 32), body := .stmts (fdB (pst 32)), scope := fdS (pst 32), globals := 3, closure := [], defaults := Value.none, kwdefaults := Value.none, pyModule := Value.str (Str.ofString "corecc.dead") 385, code := Value.ref 228 } }
noncomputable def ko230 (P : Params) : Obj := { cls := Value.type "tuple", data := Data.seq #[Value.str (Str.ofString "add") 590, Value.str (Str.ofString "sub") 591, Value.str (Str.ofString "mul") 592, Value.str (Str.ofString "and") 593, Value.str (Str.ofString "or") 594, Value.str (Str.ofString "xor") 595, Value.str (Str.ofString "shl") 596, Value.str (Str.ofString "shr") 597, Value.str (Str.ofString "sar") 598, Value.str (Str.ofString "lt") 599, Value.str (Str.ofString "ltu") 600, Value.str (Str.ofString "eq") 601, Value.str (Str.ofString "ne") 602, Value.str (Str.ofString "div") 603, Value.str (Str.ofString "divu") 604, Value.str (Str.ofString "rem") 605, Value.str (Str.ofString "remu") 606] }
noncomputable def ko231 (P : Params) : Obj := { cls := Value.type "tuple", data := Data.seq #[Value.str (Str.ofString "neg") 608, Value.str (Str.ofString "not") 609, Value.str (Str.ofString "sx8") 610, Value.str (Str.ofString "sx16") 611, Value.str (Str.ofString "zx8") 612, Value.str (Str.ofString "zx16") 613, Value.str (Str.ofString "copy") 614] }
noncomputable def ko235 (P : Params) : Obj := { cls := Value.type "code", data := Data.fields #[Value.str (Str.ofString "_law_swept") 616, Value.str (Str.ofString "_law_swept") 617, Value.str (Str.ofString "/claim/cut.py") 618, Value.int 229 0, Value.int 2 0, Value.int 0 0, Value.int 0 0, Value.int 3 0, Value.ref 232, Value.bool true, Value.int 181 0, Value.ref 233, Value.none, Value.none, Value.none, Value.ref 234, Value.int 619 0, Value.int 229 0, Value.str (Str.ofString "/claim/cut.py") 620] }
noncomputable def ko236 (P : Params) : Obj := { cls := Value.type "function", data := Data.func { name := Str.ofString "_law_swept", qualname := Str.ofString "_law_swept", params := fdA (pst 36), body := .stmts (fdB (pst 36)), scope := fdS (pst 36), globals := 3, closure := [], defaults := Value.none, kwdefaults := Value.none, pyModule := Value.str (Str.ofString "law_nm0021_03") 588, code := Value.ref 235 } }
noncomputable def ko240 (P : Params) : Obj := { cls := Value.type "code", data := Data.fields #[Value.str (Str.ofString "_law_is_right") 622, Value.str (Str.ofString "_law_is_right") 623, Value.str (Str.ofString "/claim/cut.py") 624, Value.int 248 0, Value.int 3 0, Value.int 0 0, Value.int 0 0, Value.int 3 0, Value.ref 237, Value.bool true, Value.int 181 0, Value.ref 238, Value.none, Value.none, Value.none, Value.ref 239, Value.int 625 0, Value.int 248 0, Value.str (Str.ofString "/claim/cut.py") 626] }
noncomputable def ko241 (P : Params) : Obj := { cls := Value.type "function", data := Data.func { name := Str.ofString "_law_is_right", qualname := Str.ofString "_law_is_right", params := fdA (pst 37), body := .stmts (fdB (pst 37)), scope := fdS (pst 37), globals := 3, closure := [], defaults := Value.none, kwdefaults := Value.none, pyModule := Value.str (Str.ofString "law_nm0021_03") 588, code := Value.ref 240 } }
noncomputable def ko247 (P : Params) : Obj := { cls := Value.type "code", data := Data.fields #[Value.str (Str.ofString "_law_idle") 628, Value.str (Str.ofString "_law_idle") 629, Value.str (Str.ofString "/claim/cut.py") 630, Value.int 251 0, Value.int 3 0, Value.int 0 0, Value.int 0 0, Value.int 3 0, Value.ref 242, Value.bool true, Value.int 181 0, Value.ref 243, Value.none, Value.ref 244, Value.ref 245, Value.ref 246, Value.int 644 0, Value.int 251 0, Value.str (Str.ofString "/claim/cut.py") 645] }
noncomputable def ko248 (P : Params) : Obj := { cls := Value.type "function", data := Data.func { name := Str.ofString "_law_idle", qualname := Str.ofString "_law_idle", params := fdA (pst 38), body := .stmts (fdB (pst 38)), scope := fdS (pst 38), globals := 3, closure := [], defaults := Value.none, kwdefaults := Value.none, pyModule := Value.str (Str.ofString "law_nm0021_03") 588, code := Value.ref 247 } }
noncomputable def ko254 (P : Params) : Obj := { cls := Value.type "code", data := Data.fields #[Value.str (Str.ofString "_law_idle_right") 647, Value.str (Str.ofString "_law_idle_right") 648, Value.str (Str.ofString "/claim/cut.py") 649, Value.int 270 0, Value.int 3 0, Value.int 0 0, Value.int 0 0, Value.int 3 0, Value.ref 249, Value.bool true, Value.int 181 0, Value.ref 250, Value.none, Value.ref 251, Value.ref 252, Value.ref 253, Value.int 661 0, Value.int 270 0, Value.str (Str.ofString "/claim/cut.py") 662] }
noncomputable def ko255 (P : Params) : Obj := { cls := Value.type "function", data := Data.func { name := Str.ofString "_law_idle_right", qualname := Str.ofString "_law_idle_right", params := fdA (pst 39), body := .stmts (fdB (pst 39)), scope := fdS (pst 39), globals := 3, closure := [], defaults := Value.none, kwdefaults := Value.none, pyModule := Value.str (Str.ofString "law_nm0021_03") 588, code := Value.ref 254 } }
noncomputable def ko261 (P : Params) : Obj := { cls := Value.type "code", data := Data.fields #[Value.str (Str.ofString "_law_loop_right") 664, Value.str (Str.ofString "_law_loop_right") 665, Value.str (Str.ofString "/claim/cut.py") 666, Value.int 282 0, Value.int 2 0, Value.int 0 0, Value.int 0 0, Value.int 3 0, Value.ref 256, Value.bool true, Value.int 181 0, Value.ref 257, Value.none, Value.ref 258, Value.ref 259, Value.ref 260, Value.int 674 0, Value.int 282 0, Value.str (Str.ofString "/claim/cut.py") 675] }
noncomputable def ko262 (P : Params) : Obj := { cls := Value.type "function", data := Data.func { name := Str.ofString "_law_loop_right", qualname := Str.ofString "_law_loop_right", params := fdA (pst 40), body := .stmts (fdB (pst 40)), scope := fdS (pst 40), globals := 3, closure := [], defaults := Value.none, kwdefaults := Value.none, pyModule := Value.str (Str.ofString "law_nm0021_03") 588, code := Value.ref 261 } }
noncomputable def ko268 (P : Params) : Obj := { cls := Value.type "code", data := Data.fields #[Value.str (Str.ofString "_law_use") 677, Value.str (Str.ofString "_law_use") 678, Value.str (Str.ofString "/claim/cut.py") 679, Value.int 291 0, Value.int 3 0, Value.int 0 0, Value.int 0 0, Value.int 3 0, Value.ref 263, Value.bool true, Value.int 181 0, Value.ref 264, Value.none, Value.ref 265, Value.ref 266, Value.ref 267, Value.int 688 0, Value.int 291 0, Value.str (Str.ofString "/claim/cut.py") 689] }
noncomputable def ko269 (P : Params) : Obj := { cls := Value.type "function", data := Data.func { name := Str.ofString "_law_use", qualname := Str.ofString "_law_use", params := fdA (pst 41), body := .stmts (fdB (pst 41)), scope := fdS (pst 41), globals := 3, closure := [], defaults := Value.none, kwdefaults := Value.none, pyModule := Value.str (Str.ofString "law_nm0021_03") 588, code := Value.ref 268 } }
noncomputable def ko273 (P : Params) : Obj := { cls := Value.type "code", data := Data.fields #[Value.str (Str.ofString "_law_stores_right") 691, Value.str (Str.ofString "_law_stores_right") 692, Value.str (Str.ofString "/claim/cut.py") 693, Value.int 321 0, Value.int 3 0, Value.int 0 0, Value.int 0 0, Value.int 3 0, Value.ref 270, Value.bool true, Value.int 181 0, Value.ref 271, Value.none, Value.none, Value.none, Value.ref 272, Value.int 694 0, Value.int 321 0, Value.str (Str.ofString "/claim/cut.py") 695] }
noncomputable def ko274 (P : Params) : Obj := { cls := Value.type "function", data := Data.func { name := Str.ofString "_law_stores_right", qualname := Str.ofString "_law_stores_right", params := fdA (pst 42), body := .stmts (fdB (pst 42)), scope := fdS (pst 42), globals := 3, closure := [], defaults := Value.none, kwdefaults := Value.none, pyModule := Value.str (Str.ofString "law_nm0021_03") 588, code := Value.ref 273 } }
noncomputable def ko278 (P : Params) : Obj := { cls := Value.type "code", data := Data.fields #[Value.str (Str.ofString "law") 697, Value.str (Str.ofString "law") 698, Value.str (Str.ofString "/claim/cut.py") 699, Value.int 347 0, Value.int 1 0, Value.int 0 0, Value.int 0 0, Value.int 3 0, Value.ref 275, Value.bool true, Value.int 181 0, Value.ref 276, Value.none, Value.none, Value.none, Value.ref 277, Value.int 700 0, Value.int 347 0, Value.str (Str.ofString "/claim/cut.py") 701] }
noncomputable def ko279 (P : Params) : Obj := { cls := Value.type "function", data := Data.func { name := Str.ofString "law", qualname := Str.ofString "law", params := fdA (pst 43), body := .stmts (fdB (pst 43)), scope := fdS (pst 43), globals := 3, closure := [], defaults := Value.none, kwdefaults := Value.none, pyModule := Value.str (Str.ofString "law_nm0021_03") 588, code := Value.ref 278 } }
noncomputable def as0 : List Nat := [2, 3, 27, 28, 30, 31, 48, 49, 51, 52, 69, 70, 72, 73, 83, 84, 85, 86, 92, 93, 99, 100, 106, 107, 111, 112, 118, 119, 125, 126, 127, 128, 134, 135, 141, 142, 148, 149, 155, 156, 162, 163, 169, 170, 176, 177, 183, 184, 190, 191, 195, 196, 202, 203, 209, 210, 216, 217, 221, 222, 228, 229, 230, 231, 235, 236, 240, 241, 247, 248, 254, 255, 261, 262, 268, 269, 273, 274, 278, 279]
noncomputable def K0 (P : Params) : Frag := [(2, ko2 P), (3, ko3 P), (27, ko27 P), (28, ko28 P), (30, ko30 P), (31, ko31 P), (48, ko48 P), (49, ko49 P), (51, ko51 P), (52, ko52 P), (69, ko69 P), (70, ko70 P), (72, ko72 P), (73, ko73 P), (83, ko83 P), (84, ko84 P), (85, ko85 P), (86, ko86 P), (92, ko92 P), (93, ko93 P), (99, ko99 P), (100, ko100 P), (106, ko106 P), (107, ko107 P), (111, ko111 P), (112, ko112 P), (118, ko118 P), (119, ko119 P), (125, ko125 P), (126, ko126 P), (127, ko127 P), (128, ko128 P), (134, ko134 P), (135, ko135 P), (141, ko141 P), (142, ko142 P), (148, ko148 P), (149, ko149 P), (155, ko155 P), (156, ko156 P), (162, ko162 P), (163, ko163 P), (169, ko169 P), (170, ko170 P), (176, ko176 P), (177, ko177 P), (183, ko183 P), (184, ko184 P), (190, ko190 P), (191, ko191 P), (195, ko195 P), (196, ko196 P), (202, ko202 P), (203, ko203 P), (209, ko209 P), (210, ko210 P), (216, ko216 P), (217, ko217 P), (221, ko221 P), (222, ko222 P), (228, ko228 P), (229, ko229 P), (230, ko230 P), (231, ko231 P), (235, ko235 P), (236, ko236 P), (240, ko240 P), (241, ko241 P), (247, ko247 P), (248, ko248 P), (254, ko254 P), (255, ko255 P), (261, ko261 P), (262, ko262 P), (268, ko268 P), (269, ko269 P), (273, ko273 P), (274, ko274 P), (278, ko278 P), (279, ko279 P)]
theorem K0e : ∀ P, as0 = (K0 P).map (·.1) := fun P => by kernel_rfl
noncomputable abbrev pw := PySem.Challenge.pw_nm0021_03
noncomputable abbrev rw0 := PySem.Challenge.rw_nm0021_03
noncomputable def q0 : Program := { pw with main := { pw.main with body := pw.main.body.drop 43 } }
noncomputable def loose0 : List Str := [Str.ofString "__name__", Str.ofString "Step", Str.ofString "Block", Str.ofString "Func", Str.ofString "followers", Str.ofString "ROUND", Str.ofString "EFFECTS", Str.ofString "DIVISIONS", Str.ofString "has_effect", Str.ofString "can_fault", Str.ofString "is_plain", Str.ofString "preds", Str.ofString "postorder", Str.ofString "in_place_of", Str.ofString "CALLS", Str.ofString "SELDOM_FREE", Str.ofString "slot_steps", Str.ofString "times_set", Str.ofString "slot_registers", Str.ofString "is_free", Str.ofString "need_ahead", Str.ofString "need_behind", Str.ofString "needs_ahead", Str.ofString "without_register", Str.ofString "swept_steps", Str.ofString "sweep_steps", Str.ofString "is_plain_store", Str.ofString "taken_slots", Str.ofString "is_store_to", Str.ofString "sweep_stores", Str.ofString "sweep_func", Str.ofString "_law_TWO", Str.ofString "_law_ONE", Str.ofString "_law_swept", Str.ofString "_law_is_right", Str.ofString "_law_idle", Str.ofString "_law_idle_right", Str.ofString "_law_loop_right", Str.ofString "_law_use", Str.ofString "_law_stores_right"]
noncomputable def leftP (w : World) : Prop := (openEnds treeTable rw0.row.prog w 4250).map (fun s => (openSeen q0 loose0 (importedModules rw0.row.prog.main.body) (fun s => xlAt q0 [] s && recOk (RowW.records rw0.row.toRowW) s) true s, (kHook K0 as0 K0e).obs s)) = some (openGood q0 loose0, (kHook K0 as0 K0e).val w)
theorem left_f : ∀ w : World, leftP (w.withFollow "special-get-raises" false) := fun w => by unfold leftP; kernel_rfl
theorem left_t : ∀ w : World, leftP (w.withFollow "special-get-raises" true) := fun w => by unfold leftP; kernel_rfl
theorem left0 : LeftO rw0.row.prog q0 loose0 (fun s => xlAt q0 [] s && recOk (RowW.records rw0.row.toRowW) s) (kHook K0 as0 K0e).obs (kHook K0 as0 K0e).val 4250 := fun w => by
  have e := World.withFollow_self w "special-get-raises"
  show leftP w
  rw [← e]
  cases w.params.followText "special-get-raises"
  · exact left_f w
  · exact left_t w
end
noncomputable section
noncomputable abbrev sc_Step : Scope := ⟨.function, [("self", .local), ("op", .local), ("dst", .local), ("args", .local), ("more", .local)], false, false, []⟩
noncomputable abbrev a_Step : Addr := 28
noncomputable abbrev sc_Block : Scope := ⟨.function, [("self", .local), ("number", .local)], false, false, []⟩
noncomputable abbrev a_Block : Addr := 49
noncomputable abbrev sc_Func : Scope := ⟨.function, [("self", .local), ("name", .local)], false, false, []⟩
noncomputable abbrev a_Func : Addr := 70
noncomputable abbrev sc_followers : Scope := ⟨.function, [("block", .local), ("end", .local), ("list", .globalImplicit)], false, false, []⟩
noncomputable abbrev a_followers : Addr := 84
noncomputable abbrev sc_has_effect : Scope := ⟨.function, [("step", .local), ("EFFECTS", .globalImplicit)], false, false, []⟩
noncomputable abbrev a_has_effect : Addr := 93
noncomputable abbrev sc_can_fault : Scope := ⟨.function, [("step", .local), ("kind", .local), ("value", .local), ("DIVISIONS", .globalImplicit), ("ROUND", .globalImplicit)], false, false, []⟩
noncomputable abbrev a_can_fault : Addr := 100
noncomputable abbrev sc_is_plain : Scope := ⟨.function, [("step", .local), ("has_effect", .globalImplicit), ("can_fault", .globalImplicit)], false, false, []⟩
noncomputable abbrev a_is_plain : Addr := 107
noncomputable abbrev sc_preds : Scope := ⟨.function, [("func", .local), ("block", .local), ("found", .local), ("number", .local), ("followers", .globalImplicit)], false, false, [("fast", .str "func"), ("fast", .str "block"), ("fast", .str "found"), ("fast", .str "number")]⟩
noncomputable abbrev sc_preds_c1 : Scope := ⟨.function, [(".0", .local), ("block", .local)], false, false, []⟩
noncomputable abbrev a_preds : Addr := 112
noncomputable abbrev sc_postorder : Scope := ⟨.function, [("func", .local), ("found", .local), ("seen", .local), ("stack", .local), ("top", .local), ("number", .local), ("followers", .globalImplicit), ("len", .globalImplicit)], false, false, []⟩
noncomputable abbrev a_postorder : Addr := 119
noncomputable abbrev sc_in_place_of : Scope := ⟨.function, [("step", .local), ("op", .local), ("dst", .local), ("args", .local), ("more", .local), ("found", .local), ("Step", .globalImplicit)], false, false, []⟩
noncomputable abbrev a_in_place_of : Addr := 126
noncomputable abbrev sc_slot_steps : Scope := ⟨.function, [("func", .local), ("found", .local), ("block", .local), ("step", .local)], false, false, []⟩
noncomputable abbrev a_slot_steps : Addr := 135
noncomputable abbrev sc_times_set : Scope := ⟨.function, [("func", .local), ("registers", .local), ("found", .local), ("register", .local), ("block", .local), ("step", .local)], false, false, []⟩
noncomputable abbrev a_times_set : Addr := 142
noncomputable abbrev sc_slot_registers : Scope := ⟨.function, [("func", .local), ("slots", .local), ("taken", .local), ("steps", .local), ("step", .local), ("often", .local), ("set", .globalImplicit), ("slot_steps", .globalImplicit), ("times_set", .globalImplicit)], false, false, []⟩
noncomputable abbrev a_slot_registers : Addr := 149
noncomputable abbrev sc_is_free : Scope := ⟨.function, [("func", .local), ("addresses", .local), ("step", .local), ("kind", .local), ("value", .local), ("SELDOM_FREE", .globalImplicit), ("is_plain", .globalImplicit)], false, false, []⟩
noncomputable abbrev a_is_free : Addr := 156
noncomputable abbrev sc_need_ahead : Scope := ⟨.function, [("func", .local), ("addresses", .local), ("block", .local), ("here", .local), ("kind", .local), ("value", .local), ("step", .local), ("is_free", .globalImplicit)], false, false, []⟩
noncomputable abbrev a_need_ahead : Addr := 163
noncomputable abbrev sc_need_behind : Scope := ⟨.function, [("block", .local), ("ahead", .local), ("found", .local), ("follower", .local), ("set", .globalImplicit), ("followers", .globalImplicit)], false, false, []⟩
noncomputable abbrev a_need_behind : Addr := 170
noncomputable abbrev sc_needs_ahead : Scope := ⟨.function, [("func", .local), ("addresses", .local), ("waiting", .local), ("before", .local), ("ahead", .local), ("is_waiting", .local), ("number", .local), ("at", .local), ("block", .local), ("found", .local), ("other", .local), ("postorder", .globalImplicit), ("preds", .globalImplicit), ("set", .globalImplicit), ("len", .globalImplicit), ("need_ahead", .globalImplicit), ("need_behind", .globalImplicit)], false, false, []⟩
noncomputable abbrev a_needs_ahead : Addr := 177
noncomputable abbrev sc_without_register : Scope := ⟨.function, [("step", .local), ("in_place_of", .globalImplicit)], false, false, []⟩
noncomputable abbrev a_without_register : Addr := 184
noncomputable abbrev sc_swept_steps : Scope := ⟨.function, [("func", .local), ("addresses", .local), ("block", .local), ("here", .local), ("kind", .local), ("value", .local), ("kept", .local), ("step", .local), ("is_free", .globalImplicit), ("CALLS", .globalImplicit), ("without_register", .globalImplicit)], false, false, []⟩
noncomputable abbrev a_swept_steps : Addr := 191
noncomputable abbrev sc_sweep_steps : Scope := ⟨.function, [("func", .local), ("addresses", .local), ("ahead", .local), ("is_changed", .local), ("number", .local), ("block", .local), ("kept", .local), ("needs_ahead", .globalImplicit), ("sorted", .globalImplicit), ("swept_steps", .globalImplicit), ("need_behind", .globalImplicit), ("len", .globalImplicit), ("any", .globalImplicit), ("zip", .globalImplicit)], false, false, [("fast", .str "func"), ("fast", .str "addresses"), ("fast", .str "ahead"), ("fast", .str "is_changed"), ("fast", .str "number"), ("fast", .str "block"), ("fast", .str "kept"), ("fast", .str "one"), ("fast", .str "other")]⟩
noncomputable abbrev sc_sweep_steps_c1 : Scope := ⟨.function, [(".0", .local), ("one", .local), ("other", .local)], false, false, []⟩
noncomputable abbrev a_sweep_steps : Addr := 196
noncomputable abbrev sc_is_plain_store : Scope := ⟨.function, [("func", .local), ("step", .local), ("place", .local), ("slot", .local)], false, false, []⟩
noncomputable abbrev a_is_plain_store : Addr := 203
noncomputable abbrev sc_taken_slots : Scope := ⟨.function, [("func", .local), ("addresses", .local), ("taken", .local), ("found", .local), ("block", .local), ("step", .local), ("place", .local), ("operand", .local), ("slot", .local), ("kind", .local), ("value", .local), ("set", .globalImplicit), ("enumerate", .globalImplicit), ("is_plain_store", .globalImplicit)], false, false, []⟩
noncomputable abbrev a_taken_slots : Addr := 210
noncomputable abbrev sc_is_store_to : Scope := ⟨.function, [("step", .local), ("addresses", .local), ("taken", .local), ("kind", .local), ("value", .local)], false, false, []⟩
noncomputable abbrev a_is_store_to : Addr := 217
noncomputable abbrev sc_sweep_stores : Scope := ⟨.function, [("func", .local), ("addresses", .cell), ("taken", .cell), ("is_changed", .local), ("block", .local), ("kept", .local), ("taken_slots", .globalImplicit), ("len", .globalImplicit)], false, false, [("fast", .str "func"), ("fast", .str "addresses"), ("fast", .str "taken"), ("fast", .str "is_changed"), ("fast", .str "block"), ("fast", .str "step"), ("fast", .str "kept")]⟩
noncomputable abbrev sc_sweep_stores_c1 : Scope := ⟨.function, [(".0", .local), ("step", .local), ("is_store_to", .globalImplicit), ("addresses", .cell), ("taken", .cell)], false, false, []⟩
noncomputable abbrev a_sweep_stores : Addr := 222
noncomputable abbrev sc_sweep_func : Scope := ⟨.function, [("func", .local), ("addresses", .local), ("taken", .local), ("is_changed", .local), ("slot_registers", .globalImplicit), ("sweep_steps", .globalImplicit), ("sweep_stores", .globalImplicit)], false, false, []⟩
noncomputable abbrev a_sweep_func : Addr := 229
noncomputable abbrev sc_law_swept : Scope := ⟨.function, [("parts", .local), ("size", .local), ("drawn", .local), ("number", .local), ("rows", .local), ("end", .local), ("block", .local), ("op", .local), ("dst", .local), ("args", .local), ("more", .local), ("firm", .local), ("each", .local), ("says", .local), ("found", .local), ("Func", .globalImplicit), ("enumerate", .globalImplicit), ("Block", .globalImplicit), ("Step", .globalImplicit), ("list", .globalImplicit), ("sweep_func", .globalImplicit)], false, false, [("fast", .str "parts"), ("fast", .str "size"), ("fast", .str "drawn"), ("fast", .str "number"), ("fast", .str "rows"), ("fast", .str "end"), ("fast", .str "block"), ("fast", .str "op"), ("fast", .str "dst"), ("fast", .str "args"), ("fast", .str "more"), ("fast", .str "firm"), ("fast", .str "each"), ("fast", .str "says"), ("fast", .str "found")]⟩
noncomputable abbrev sc_law_swept_c1 : Scope := ⟨.function, [(".0", .local), ("each", .local), ("list", .globalImplicit)], false, false, []⟩
noncomputable abbrev a_law_swept : Addr := 236
noncomputable abbrev sc_law_is_right : Scope := ⟨.function, [("parts", .local), ("size", .local), ("due", .local), ("says", .local), ("found", .local), ("_law_swept", .globalImplicit)], false, false, [("fast", .str "parts"), ("fast", .str "size"), ("fast", .str "due"), ("fast", .str "says"), ("fast", .str "found"), ("fast", .str "rows"), ("fast", .str "end")]⟩
noncomputable abbrev sc_law_is_right_c1 : Scope := ⟨.function, [(".0", .local), ("rows", .local), ("end", .local)], false, false, []⟩
noncomputable abbrev a_law_is_right : Addr := 241
noncomputable abbrev sc_law_idle : Scope := ⟨.function, [("a", .local), ("b", .local), ("size", .local), ("pick", .local), ("operand", .local), ("row", .local), ("address", .local), ("width", .local), ("firm", .local), ("args", .local), ("op", .local), ("more", .local), ("others", .local), ("_law_TWO", .globalImplicit), ("_law_ONE", .globalImplicit)], false, false, []⟩
noncomputable abbrev a_law_idle : Addr := 248
noncomputable abbrev sc_law_idle_right : Scope := ⟨.function, [("a", .local), ("b", .local), ("c", .local), ("size", .local), ("row", .local), ("due", .local), ("ahead", .local), ("middle", .local), ("last", .local), ("chain", .local), ("parts", .local), ("_law_idle", .globalImplicit), ("_law_is_right", .globalImplicit)], false, false, []⟩
noncomputable abbrev a_law_idle_right : Addr := 255
noncomputable abbrev sc_law_loop_right : Scope := ⟨.function, [("a", .local), ("b", .local), ("ahead", .local), ("inner", .local), ("count", .local), ("given", .local), ("parts", .local), ("_law_is_right", .globalImplicit)], false, false, []⟩
noncomputable abbrev a_law_loop_right : Addr := 262
noncomputable abbrev sc_law_use : Scope := ⟨.function, [("kind", .local), ("a", .local), ("size", .local), ("width", .local), ("firm", .local), ("row", .local), ("stays", .local), ("rows", .local)], false, false, []⟩
noncomputable abbrev a_law_use : Addr := 269
noncomputable abbrev sc_law_stores_right : Scope := ⟨.function, [("a", .local), ("b", .local), ("c", .local), ("size", .local), ("kind", .local), ("way", .local), ("width", .local), ("ahead", .local), ("store", .local), ("rows", .local), ("left", .local), ("is_read", .local), ("end", .local), ("other", .local), ("tail", .local), ("due", .local), ("_law_use", .globalImplicit), ("_law_is_right", .globalImplicit)], false, false, [("fast", .str "a"), ("fast", .str "b"), ("fast", .str "c"), ("fast", .str "size"), ("fast", .str "kind"), ("fast", .str "way"), ("fast", .str "width"), ("fast", .str "ahead"), ("fast", .str "store"), ("fast", .str "rows"), ("fast", .str "left"), ("fast", .str "is_read"), ("fast", .str "end"), ("fast", .str "other"), ("fast", .str "tail"), ("fast", .str "due"), ("fast", .str "part")]⟩
noncomputable abbrev sc_law_stores_right_c1 : Scope := ⟨.function, [(".0", .local), ("part", .local)], false, false, []⟩
noncomputable abbrev a_law_stores_right : Addr := 274
noncomputable abbrev sc_law : Scope := ⟨.function, [("script", .local), ("numbers", .local), ("at", .local), ("kind", .local), ("a", .local), ("b", .local), ("c", .local), ("list", .globalImplicit), ("range", .globalImplicit), ("len", .globalImplicit), ("_law_idle_right", .globalImplicit), ("_law_loop_right", .globalImplicit), ("_law_stores_right", .globalImplicit)], false, false, [("fast", .str "script"), ("fast", .str "number"), ("fast", .str "numbers"), ("fast", .str "at"), ("fast", .str "kind"), ("fast", .str "a"), ("fast", .str "b"), ("fast", .str "c")]⟩
noncomputable abbrev sc_law_c1 : Scope := ⟨.function, [(".0", .local), ("number", .local)], false, false, []⟩
noncomputable abbrev a_law : Addr := 279
structure Tops (X : Cx) : Prop where
  cls : ClsOK X
  blt : BltOK X
  f_Step : ClsName X "Step" .step a_Step
  d_Step : DefAt X a_Step ["self", "op", "dst", "args", "more"] sc_Step (fdB (cst (pst 1)))
  f_Block : ClsName X "Block" .block a_Block
  d_Block : DefAt X a_Block ["self", "number"] sc_Block (fdB (cst (pst 2)))
  f_Func : ClsName X "Func" .func a_Func
  d_Func : DefAt X a_Func ["self", "name"] sc_Func (fdB (cst (pst 3)))
  f_followers : DefName X "followers" a_followers
  d_followers : DefAt X a_followers ["block"] sc_followers (fdB (pst 4))
  g_ROUND : GlobV X "ROUND" (.int 4294967296)
  g_EFFECTS : GlobD X "EFFECTS" ["store", "move", "call", "callreg"]
  g_DIVISIONS : GlobD X "DIVISIONS" ["div", "divu", "rem", "remu"]
  f_has_effect : DefName X "has_effect" a_has_effect
  d_has_effect : DefAt X a_has_effect ["step"] sc_has_effect (fdB (pst 9))
  f_can_fault : DefName X "can_fault" a_can_fault
  d_can_fault : DefAt X a_can_fault ["step"] sc_can_fault (fdB (pst 10))
  f_is_plain : DefName X "is_plain" a_is_plain
  d_is_plain : DefAt X a_is_plain ["step"] sc_is_plain (fdB (pst 11))
  f_preds : DefName X "preds" a_preds
  d_preds : DefAt X a_preds ["func"] sc_preds (fdB (pst 12))
  f_postorder : DefName X "postorder" a_postorder
  d_postorder : DefAt X a_postorder ["func"] sc_postorder (fdB (pst 13))
  f_in_place_of : DefName X "in_place_of" a_in_place_of
  d_in_place_of : DefAt X a_in_place_of ["step", "op", "dst", "args", "more"] sc_in_place_of (fdB (pst 14))
  g_CALLS : GlobD X "CALLS" ["call", "callreg"]
  g_SELDOM_FREE : GlobD X "SELDOM_FREE" ["load", "store", "move", "call", "callreg", "div", "divu", "rem", "remu"]
  f_slot_steps : DefName X "slot_steps" a_slot_steps
  d_slot_steps : DefAt X a_slot_steps ["func"] sc_slot_steps (fdB (pst 18))
  f_times_set : DefName X "times_set" a_times_set
  d_times_set : DefAt X a_times_set ["func", "registers"] sc_times_set (fdB (pst 19))
  f_slot_registers : DefName X "slot_registers" a_slot_registers
  d_slot_registers : DefAt X a_slot_registers ["func"] sc_slot_registers (fdB (pst 20))
  f_is_free : DefName X "is_free" a_is_free
  d_is_free : DefAt X a_is_free ["func", "addresses", "step"] sc_is_free (fdB (pst 21))
  f_need_ahead : DefName X "need_ahead" a_need_ahead
  d_need_ahead : DefAt X a_need_ahead ["func", "addresses", "block", "here"] sc_need_ahead (fdB (pst 22))
  f_need_behind : DefName X "need_behind" a_need_behind
  d_need_behind : DefAt X a_need_behind ["block", "ahead"] sc_need_behind (fdB (pst 23))
  f_needs_ahead : DefName X "needs_ahead" a_needs_ahead
  d_needs_ahead : DefAt X a_needs_ahead ["func", "addresses"] sc_needs_ahead (fdB (pst 24))
  f_without_register : DefName X "without_register" a_without_register
  d_without_register : DefAt X a_without_register ["step"] sc_without_register (fdB (pst 25))
  f_swept_steps : DefName X "swept_steps" a_swept_steps
  d_swept_steps : DefAt X a_swept_steps ["func", "addresses", "block", "here"] sc_swept_steps (fdB (pst 26))
  f_sweep_steps : DefName X "sweep_steps" a_sweep_steps
  d_sweep_steps : DefAt X a_sweep_steps ["func", "addresses"] sc_sweep_steps (fdB (pst 27))
  f_is_plain_store : DefName X "is_plain_store" a_is_plain_store
  d_is_plain_store : DefAt X a_is_plain_store ["func", "step", "place", "slot"] sc_is_plain_store (fdB (pst 28))
  f_taken_slots : DefName X "taken_slots" a_taken_slots
  d_taken_slots : DefAt X a_taken_slots ["func", "addresses", "taken"] sc_taken_slots (fdB (pst 29))
  f_is_store_to : DefName X "is_store_to" a_is_store_to
  d_is_store_to : DefAt X a_is_store_to ["step", "addresses", "taken"] sc_is_store_to (fdB (pst 30))
  f_sweep_stores : DefName X "sweep_stores" a_sweep_stores
  d_sweep_stores : DefAt X a_sweep_stores ["func", "addresses", "taken"] sc_sweep_stores (fdB (pst 31))
  f_sweep_func : DefName X "sweep_func" a_sweep_func
  d_sweep_func : DefAt X a_sweep_func ["func"] sc_sweep_func (fdB (pst 32))
  g_law_TWO : GlobV X "_law_TWO" (.tup [(.str "add"), (.str "sub"), (.str "mul"), (.str "and"), (.str "or"), (.str "xor"), (.str "shl"), (.str "shr"), (.str "sar"), (.str "lt"), (.str "ltu"), (.str "eq"), (.str "ne"), (.str "div"), (.str "divu"), (.str "rem"), (.str "remu")])
  g_law_ONE : GlobV X "_law_ONE" (.tup [(.str "neg"), (.str "not"), (.str "sx8"), (.str "sx16"), (.str "zx8"), (.str "zx16"), (.str "copy")])
  f_law_swept : DefName X "_law_swept" a_law_swept
  d_law_swept : DefAt X a_law_swept ["parts", "size"] sc_law_swept (fdB (pst 36))
  f_law_is_right : DefName X "_law_is_right" a_law_is_right
  d_law_is_right : DefAt X a_law_is_right ["parts", "size", "due"] sc_law_is_right (fdB (pst 37))
  f_law_idle : DefName X "_law_idle" a_law_idle
  d_law_idle : DefAt X a_law_idle ["a", "b", "size"] sc_law_idle (fdB (pst 38))
  f_law_idle_right : DefName X "_law_idle_right" a_law_idle_right
  d_law_idle_right : DefAt X a_law_idle_right ["a", "b", "c"] sc_law_idle_right (fdB (pst 39))
  f_law_loop_right : DefName X "_law_loop_right" a_law_loop_right
  d_law_loop_right : DefAt X a_law_loop_right ["a", "b"] sc_law_loop_right (fdB (pst 40))
  f_law_use : DefName X "_law_use" a_law_use
  d_law_use : DefAt X a_law_use ["kind", "a", "size"] sc_law_use (fdB (pst 41))
  f_law_stores_right : DefName X "_law_stores_right" a_law_stores_right
  d_law_stores_right : DefAt X a_law_stores_right ["a", "b", "c"] sc_law_stores_right (fdB (pst 42))
  f_law : DefName X "law" a_law
  d_law : DefAt X a_law ["script"] sc_law (fdB (pst 43))
end
noncomputable section
inductive Init : List (Str × NameKind) → List Str → List Val → List (Option Val) → Prop where
  | nil : Init [] [] [] []
  | cons {x : Str} {k : NameKind} {v : Val} {ns : List (Str × NameKind)} {ps : List Str} {vs : List Val} {os : List (Option Val)} : Init ns ps vs os → Init ((x, k) :: ns) (x :: ps) (v :: vs) (some v :: os)
  | none {p : Str × NameKind} {ns : List (Str × NameKind)} {os : List (Option Val)} : Init ns [] [] os → Init (p :: ns) [] [] (none :: os)
theorem Init.ok {ns : List (Str × NameKind)} {ps : List Str} {vs : List Val} {os : List (Option Val)} (h : Init ns ps vs os) : ps.length = vs.length ∧ ∀ x v, Loc ns os x v → (x, v) ∈ ps.zip vs := by
  induction h with
  | nil => exact ⟨rfl, fun x v h => by cases h⟩
  | cons _ ih => exact ⟨congrArg (· + 1) ih.1, fun x v h => by cases h with | z => exact .head _ | s h => exact .tail _ (ih.2 _ _ h)⟩
  | none _ ih => exact ⟨rfl, fun x v h => by cases h with | s h => exact ih.2 _ _ h⟩
theorem Cal.start {X : Cx} {n : Nat} {G : Gh} {Q : QE} {f : Addr} {ps : List Str} {scope : Scope} {body : List PySem.Stmt} {vs : List Val} {os : List (Option Val)} (D : DefAt X f ps scope body) (hi : Init scope.names ps vs os) (h : SnB X n scope body (L scope os) G (Back Q)) : Cal X (n + 1) f vs G Q :=
  .def_ D hi.ok.1 _ hi.ok.2 h
theorem mem_hd {α : Type} {a : α} {l : List α} : a ∈ a :: l := .head _
theorem mem_tl {α : Type} {a b : α} {l : List α} (h : a ∈ l) : a ∈ b :: l := .tail _ h
theorem GlobIn.mk {sc : Scope} {x : Str} (h : (x, NameKind.globalImplicit) ∈ sc.names) : GlobIn sc x := h
noncomputable def rk (b : Bool) : Str := if b then "r" else "k"
noncomputable abbrev Opd := Bool × Int
noncomputable def opdV (o : Opd) : Val := .tup [.str (rk o.1), .int o.2]
theorem Rd.opdC {X : Cx} {n : Nat} {sc : Scope} {m : M} {G : Gh} {x : Str} {e : PySem.Expr} {b : Bool} {i : Int} {k kk : Nat} {p1 pos : Pos} (h : x = rk b) (he : Rd X n sc e m G (.int i)) (hp : ∀ env, starEach [e] env = (false, eval e env) :: starEach [] env := by intro _; rfl) : Rd X n sc (.Tuple [.Constant (.str x) k p1, e] kk pos) m G (opdV (b, i)) :=
  Rd.tup (.cons (v := .str (rk b)) (h ▸ .str) (.cons he .nil hp))
end
local macro_rules | `(tactic| walk_at "r") => `(tactic| first
  | (with_reducible first | exact mem_hd | exact Rds.nil | exact Init.nil | exact Rd.int | exact Rd.str | exact Rd.tru | exact Rd.noneC)
  | ((with_reducible first | refine' Rd.var ?h | refine' mem_tl ?h | refine' Init.cons ?h | refine' Init.none ?h | refine' GlobIn.mk ?h | refine' Rd.neg ?h); case h => walk_at "r")
  | ((with_reducible first | apply Rd.attr | apply Rds.cons | apply Rd.tup | apply Rd.opdC | constructor) <;> first | rfl | (intro _; rfl) | (intro _ _; rfl) | walk_at "r" | assumption | exact Tops.cls (by assumption)))
noncomputable section
noncomputable def opL : List Str := (["load", "store", "move", "call", "callreg", "div", "divu", "rem", "remu", "slot", "copy", "const", "name", "add", "sub", "mul", "and", "or", "xor", "shl", "shr", "sar", "lt", "ltu", "eq", "ne", "neg", "not", "sx8", "sx16", "zx8", "zx16", "jump", "branch", "table", "give"] : List String).map Str.ofString
noncomputable def opS (k : Nat) : Str := opL.getD k Str.empty
noncomputable def isSeldom (k : Nat) : Bool := Nat.ble k 8
noncomputable def isEff (k : Nat) : Bool := Nat.ble 1 k && Nat.ble k 4
noncomputable def isDiv (k : Nat) : Bool := Nat.ble 5 k && Nat.ble k 8
noncomputable def isCall (k : Nat) : Bool := Nat.beq k 3 || Nat.beq k 4
theorem op_seldom : ∀ k < 36, (["load", "store", "move", "call", "callreg", "div", "divu", "rem", "remu"] : List Str).contains (opS k) = isSeldom k := by decide +kernel
theorem op_eff : ∀ k < 36, (["store", "move", "call", "callreg"] : List Str).contains (opS k) = isEff k := by decide +kernel
theorem op_div : ∀ k < 36, (["div", "divu", "rem", "remu"] : List Str).contains (opS k) = isDiv k := by decide +kernel
theorem op_call : ∀ k < 36, (["call", "callreg"] : List Str).contains (opS k) = isCall k := by decide +kernel
theorem op_load : ∀ k < 36, (opS k == Str.ofString "load") = Nat.beq k 0 := by decide +kernel
theorem op_store : ∀ k < 36, (opS k == Str.ofString "store") = Nat.beq k 1 := by decide +kernel
theorem op_slot : ∀ k < 36, (opS k == Str.ofString "slot") = Nat.beq k 9 := by decide +kernel
theorem op_copy : ∀ k < 36, (opS k == Str.ofString "copy") = Nat.beq k 10 := by decide +kernel
theorem op_jump : ∀ k < 36, (opS k == Str.ofString "jump") = Nat.beq k 32 := by decide +kernel
theorem op_branch : ∀ k < 36, (opS k == Str.ofString "branch") = Nat.beq k 33 := by decide +kernel
theorem op_table : ∀ k < 36, (opS k == Str.ofString "table") = Nat.beq k 34 := by decide +kernel
theorem rk_r : ∀ b, (rk b == Str.ofString "r") = b := by decide +kernel
theorem rk_k : ∀ b, (rk b == Str.ofString "k") = !b := by decide +kernel
structure PS where
  op : Nat
  dst : Int
  args : List (Bool × Int)
  more : Val
  vol : Bool
structure StepIs (fs : Fld → Option Val) (p : PS) (la : Addr) : Prop where
  op : fs .op = some (.str (opS p.op))
  dst : fs .dst = some (.int p.dst)
  args : fs .args = some (.ref la)
  more : fs .more = some p.more
  vol : fs .is_volatile = some (.bool p.vol)
  line : ∃ i, fs .line = some (.int i)
inductive StepO (G : Gh) (a : Addr) (p : PS) : Prop where
  | mk (fs : Fld → Option Val) (la : Addr) (h1 : G a = some (.inst .step fs)) (h2 : StepIs fs p la) (h3 : G la = some (.list (p.args.map opdV)))
structure StepAt (G : Gh) (a : Addr) (p : PS) : Prop where
  ok : StepO G a p
  op : p.op < 36
noncomputable def canFaultP (p : PS) : Bool := if Nat.beq p.op 0 || p.vol then true else if !isDiv p.op then false else match p.args[1]? with
  | some o => o.1 || Int.fmod o.2 4294967296 == 0
  | none => true
noncomputable def isPlainP (p : PS) : Bool := !(isEff p.op || p.vol) && !canFaultP p
variable {X : Cx} {n : Nat} {G : Gh}
theorem sp_has_effect {a : Addr} {p : PS} {Q : QE} (T : Tops X) (h : StepAt G a p) (k : Q (.bool (isEff p.op || p.vol)) G) : Cal X (n + 1) a_has_effect [.ref a] G Q := by
  obtain ⟨⟨fs, la, h1, ⟨f1, f2, f3, f4, f5, _⟩, h2⟩, ho⟩ := h
  refine' Cal.start (os := ?os) T.d_has_effect ?q ?b; case q => walk_at "r"
  case b =>
  refine SnB.retB (Rd.to (v := .bool (isEff p.op || p.vol)) ?_ k)
  rw [← op_eff p.op ho]
  refine Rd.or (Rd.inG T.g_EFFECTS ?_ ?_) fun _ => Rd.or1 ?_ <;> walk_at "r"
noncomputable def moreI : Val → Int
  | .int i => i
  | _ => 0
noncomputable def more0 : Val → Int
  | .tup (.int i :: _) => i
  | _ => 0
structure StepWf (p : PS) : Prop where
  div : isDiv p.op = true → 2 ≤ p.args.length
  load : p.op = 0 → 1 ≤ p.args.length ∧ ∃ w b, p.more = .tup [.int w, b]
  copy : p.op = 10 → 1 ≤ p.args.length
  store : p.op = 1 → 1 ≤ p.args.length ∧ ∃ w, p.more = .int w
  few : p.args.length ≤ 8
  regs : ∀ o ∈ p.args, o.1 = true → 0 ≤ o.2 ∧ o.2 < 32
theorem sp_can_fault {a : Addr} {p : PS} {Q : QE} (T : Tops X) (h : StepAt G a p) (w : StepWf p) (k : Q (.bool (canFaultP p)) G) : Cal X (n + 1) a_can_fault [.ref a] G Q := by
  obtain ⟨⟨fs, la, h1, ⟨f1, f2, f3, f4, f5, _⟩, h2⟩, ho⟩ := h
  refine' Cal.start (os := ?os) T.d_can_fault ?q ?b; case q => walk_at "r"
  case b =>
  have e0 := op_load p.op ho
  refine SnB.ifs (r := Nat.beq p.op 0 || p.vol) ?_ (fun e => .retT (Rd.to Rd.tru ?_)) fun e => .nilT ?_
  · rw [← e0]
    refine RdT.or (RdT.cmp ?_ ?_ (.eqS ⟨rfl, rfl⟩)) fun _ => RdT.or1 (RdT.val ?_ (.bool _)) <;> walk_at "r"
  · have : canFaultP p = true := if_pos e
    rw [← this]; exact k
  refine SnB.ifs (r := !isDiv p.op) ?_ (fun e' => .retT (Rd.to Rd.tru ?_)) fun e' => .nilT ?_
  · rw [← op_div p.op ho]
    refine RdT.notinG T.g_DIVISIONS ?_ ?_ <;> walk_at "r"
  · have : canFaultP p = false := (if_neg (by rw [e]; decide)).trans (if_pos e')
    rw [← this]; exact k
  have hd : isDiv p.op = true := by rw [← Bool.not_eq_false']; exact e'
  obtain ⟨o, h3⟩ : ∃ o, p.args[1]? = some o := ⟨_, List.getElem?_eq_getElem (w.div hd)⟩
  refine' SnB.assign2 (v := .str (rk o.1)) (w := .int o.2) (Rd.idxL ?h1 h2 .int (by decide) ?h2) ?h3 ?h4 ?h5
  case h1 => walk_at "r"
  case h2 => unfold seqAt; rw [if_pos (by decide)]; show (p.args.map opdV)[1]? = _; rw [List.getElem?_map, h3]; rfl
  case h3 => walk_at "r"
  case h4 => walk_at "r"
  have hc : canFaultP p = (!(rk o.1 == Str.ofString "k") || Int.fmod o.2 4294967296 == 0) := by rw [rk_k, Bool.not_not]; unfold canFaultP; rw [if_neg (by rw [e]; decide), if_neg (by rw [e']; decide), h3]
  refine SnB.retB (Rd.to ?_ (hc ▸ k))
  refine Rd.or (Rd.cmp ?_ ?_ (.neS ⟨rfl, rfl⟩)) fun _ => Rd.or1 (Rd.cmp (Rd.bin ?_ (Rd.glob T.g_ROUND ?_) (.mod (by decide) ⟨rfl, rfl⟩)) ?_ (.eqI ⟨rfl, rfl⟩)) <;> walk_at "r"
theorem sp_is_plain {a : Addr} {p : PS} {Q : QE} (T : Tops X) (h : StepAt G a p) (w : StepWf p) (k : Q (.bool (isPlainP p)) G) : Cal X (n + 2) a_is_plain [.ref a] G Q := by
  refine' Cal.start (os := ?os) T.d_is_plain ?q ?b; case q => walk_at "r"
  case b =>
  refine SnB.retB (Rd.to (v := .bool (isPlainP p)) ?_ k)
  refine Rd.and (Rd.not (v := .bool (isEff p.op || p.vol)) (.ref T.f_has_effect ?_ ?_ (vs := [.ref a]) ?_ (sp_has_effect T h ⟨rfl, rfl⟩)) (.bool _)) fun _ => Rd.and1 (Rd.not (v := .bool (canFaultP p)) (.ref T.f_can_fault ?_ ?_ (vs := [.ref a]) ?_ (sp_can_fault T h w ⟨rfl, rfl⟩)) (.bool _))
  all_goals first | (intro _ _; rfl) | walk_at "r" | walk_at "r"
noncomputable abbrev Slots := List (Int × Int)
noncomputable def slotV (s : Int × Int) : Val := .tup [.int s.1, .int s.2]
noncomputable def slotSize (sl : Slots) (k : Int) : Int := ((sl[k.toNat]?).map (·.1)).getD 0
noncomputable abbrev AddrM := List (Int × Int)
noncomputable def lookI (ad : AddrM) (k : Int) : Option Int := (ad.find? fun e => decide (e.1 = k)).map (·.2)
noncomputable def adE (ad : AddrM) : List (Int × Val) := ad.map fun e => (e.1, .int e.2)
theorem lookE_adE (ad : AddrM) (k : Int) : lookE (adE ad) k = (lookI ad k).map .int := by
  unfold lookE lookI adE
  rw [List.find?_map, Option.map_map, Option.map_map]; rfl
structure AdOK (ad : AddrM) (sl : Slots) : Prop where
  lo : ∀ k s, lookI ad k = some s → 0 ≤ s ∧ s.toNat < sl.length
  few : sl.length ≤ 16
structure FuncIs (fs : Fld → Option Val) (p s b : Addr) : Prop where
  params : fs .params = some (.ref p)
  slots : fs .slots = some (.ref s)
  blocks : fs .blocks = some (.ref b)
inductive FuncAt (G : Gh) (f : Addr) (ps : List Int) (sl : Slots) (bls : List Addr) : Prop where
  | mk (fs : Fld → Option Val) (p s b : Addr) (h1 : G f = some (.inst .func fs)) (h2 : FuncIs fs p s b) (h3 : G p = some (.list (ps.map .int))) (h4 : G s = some (.list (sl.map slotV))) (h5 : G b = some (.list (bls.map .ref)))
noncomputable def isFreeP (sl : Slots) (ad : AddrM) (p : PS) : Bool := if !isSeldom p.op then true else if !(Nat.beq p.op 0) || p.vol then isPlainP p else match p.args[0]? with
  | some o => o.1 && (match lookI ad o.2 with | some s => decide (more0 p.more ≤ slotSize sl s) | none => false)
  | none => false
theorem seqAt_map {α : Type} {f : α → Val} {l : List α} {i : Nat} {x : α} (h : l[i]? = some x) : seqAt (l.map f) (i : Int) = some (f x) := by
  unfold seqAt; rw [if_pos (Int.natCast_nonneg i), Int.toNat_natCast, List.getElem?_map, h]; rfl
theorem and_none (b : Bool) (o : Option Int) (f : Int → Bool) : (b && (o.isSome && (match o with | some s => f s | none => false))) = (b && (match o with | some s => f s | none => false)) := by cases o <;> simp
theorem sp_is_free {f ad a : Addr} {ps : List Int} {sl : Slots} {bls : List Addr} {am : AddrM} {p : PS} {Q : QE} (T : Tops X) (hf : FuncAt G f ps sl bls) (ha : G ad = some (.dict (adE am))) (hok : AdOK am sl) (h : StepAt G a p) (w : StepWf p)
    (k : Q (.bool (isFreeP sl am p)) G) : Cal X (n + 3) a_is_free [.ref f, .ref ad, .ref a] G Q := by
  obtain ⟨⟨fs, la, h1, ⟨f1, f2, f3, f4, f5, _⟩, h2⟩, ho⟩ := id h
  obtain ⟨ff, pa, sa, ba, h3, ⟨g1, g2, g3⟩, h4, h5, h6⟩ := hf
  refine' Cal.start (os := ?os) T.d_is_free ?q ?b; case q => walk_at "r"
  case b =>
  refine SnB.ifs (r := !isSeldom p.op) ?_ (fun e => .retT (Rd.to Rd.tru ?_)) fun e => .nilT ?_
  · rw [← op_seldom p.op ho]
    refine RdT.notinG T.g_SELDOM_FREE ?_ ?_ <;> walk_at "r"
  · have : isFreeP sl am p = true := if_pos e
    rw [← this]; exact k
  refine SnB.ifs (r := !(Nat.beq p.op 0) || p.vol) ?_ (fun e' => .retT (.ref T.f_is_plain ?_ ?_ (vs := [.ref a]) ?_ (sp_is_plain T h w ?_))) fun e' => .nilT ?_
  · rw [← op_load p.op ho]
    refine RdT.or (RdT.cmp ?_ ?_ (.neS ⟨rfl, rfl⟩)) fun _ => RdT.or1 (RdT.val ?_ (.bool _)) <;> walk_at "r"
  · walk_at "r"
  · intro _ _; rfl
  · walk_at "r"
  · have : isFreeP sl am p = isPlainP p := (if_neg (by rw [e]; decide)).trans (if_pos e')
    rw [← this]; exact k
  have hl : p.op = 0 := by
    have := (Bool.or_eq_false_iff.mp e').1
    rw [Bool.not_eq_false'] at this
    exact Nat.eq_of_beq_eq_true this
  obtain ⟨hlen, wd, bb, hm⟩ := w.load hl
  obtain ⟨o, ho'⟩ : ∃ o, p.args[0]? = some o := ⟨_, List.getElem?_eq_getElem hlen⟩
  rw [hm] at f4
  refine' SnB.assign2 (v := .str (rk o.1)) (w := .int o.2) (Rd.idxL ?h1 h2 .int (by decide) (seqAt_map ho')) ?h3 ?h4 ?h5
  case h1 => walk_at "r"
  case h3 => walk_at "r"
  case h4 => walk_at "r"
  have hc : isFreeP sl am p = (rk o.1 == Str.ofString "r" && ((lookE (adE am) o.2).isSome && (match lookI am o.2 with | some s => decide (wd ≤ slotSize sl s) | none => false))) := by
    unfold isFreeP
    rw [if_neg (by rw [e]; decide), if_neg (by rw [e']; decide), ho', rk_r, hm, lookE_adE, Option.isSome_map, and_none]; rfl
  refine SnB.retB (Rd.to ?_ (hc ▸ k))
  refine Rd.and (Rd.cmp ?_ ?_ (.eqS ⟨rfl, rfl⟩)) fun _ => Rd.and (Rd.cmp ?_ ?_ (.inDict ha ⟨rfl, rfl⟩)) fun hs => Rd.and1 ?_
  · walk_at "r"
  · walk_at "r"
  · walk_at "r"
  · walk_at "r"
  rw [lookE_adE, Option.isSome_map] at hs
  obtain ⟨sv, hsv⟩ := Option.isSome_iff_exists.mp hs
  obtain ⟨s0, s1⟩ := hok.lo _ _ hsv
  have hslt := hok.few
  obtain ⟨sz, hsz⟩ : ∃ z, sl[sv.toNat]? = some z := ⟨_, List.getElem?_eq_getElem s1⟩
  rw [hsv]
  show Rd _ _ _ _ _ _ (.bool (decide (wd ≤ slotSize sl sv)))
  have hss : slotSize sl sv = sz.1 := by unfold slotSize; rw [hsz]; rfl
  rw [hss]
  have hsv' : ((sv.toNat : Nat) : Int) = sv := Int.toNat_of_nonneg s0
  refine Rd.cmp (Rd.idxT (vs := [.int wd, bb]) ?_ .int (by decide) rfl) (Rd.idxT (vs := [.int sz.1, .int sz.2]) (Rd.idxL (j := sv) ?_ h5 (Rd.idxD ?_ ha ?_ ((lookE_adE am o.2).trans (by rw [hsv]; rfl))) (by unfold cap; omega) (by rw [← hsv']; exact seqAt_map hsz)) .int (by decide) rfl) (.le ⟨rfl, rfl⟩) <;> walk_at "r"
end
noncomputable section
noncomputable def maskS (m : Nat) : Int → Bool := fun j => decide (0 ≤ j) && m.testBit j.toNat
noncomputable def setb (m : Nat) (k : Int) : Nat := m ||| 2 ^ k.toNat
noncomputable def clrb (m : Nat) (k : Int) : Nat := m ^^^ 2 ^ k.toNat
theorem maskS_set {m : Nat} {k : Int} (hk : 0 ≤ k) : (fun j => maskS m j || decide (j = k)) = maskS (setb m k) := by
  funext j
  unfold maskS setb
  rw [Nat.testBit_or, Nat.testBit_two_pow]
  by_cases h : 0 ≤ j
  · have : (k.toNat = j.toNat) ↔ j = k := ⟨fun e => by rw [← Int.toNat_of_nonneg h, ← e, Int.toNat_of_nonneg hk], fun e => by rw [e]⟩
    simp [h, this]
  · have : j ≠ k := fun e => h (e ▸ hk)
    simp [h, this]
theorem maskS_clr {m : Nat} {k : Int} (hk : 0 ≤ k) (hb : maskS m k = true) : (fun j => maskS m j && !decide (j = k)) = maskS (clrb m k) := by
  funext j
  unfold maskS at hb
  unfold maskS clrb
  rw [Nat.testBit_xor, Nat.testBit_two_pow]
  simp only [Bool.and_eq_true, decide_eq_true_eq] at hb
  by_cases h : 0 ≤ j
  · by_cases q : j = k
    · subst q; simp [h, hb.2]
    · have : k.toNat ≠ j.toNat := fun e => q (by rw [← Int.toNat_of_nonneg h, ← e, Int.toNat_of_nonneg hk])
      simp [h, q, this]
  · simp [h]
noncomputable def SetAt (G : Gh) (a : Addr) (m : Nat) : Prop := ∃ f, G a = some (.set (maskS m) f)
noncomputable def Ext (G G' : Gh) : Prop := ∀ x o, G x = some o → G' x = some o
theorem Ext.refl {G : Gh} : Ext G G := fun _ _ e => e
theorem Ext.trans {G G' G'' : Gh} (a : Ext G G') (b : Ext G' G'') : Ext G G'' := fun x o e => b x o (a x o e)
theorem Ext.new {G : Gh} {a : Addr} {o : GObj} (h : G a = none) : Ext G (G.upd a o) := fun x q e => (Gh.upd_ne _ _ fun z => by rw [z, h] at e; cases e).trans e
noncomputable def Ext1 (h : Addr) (G G' : Gh) : Prop := ∀ x o, x ≠ h → G x = some o → G' x = some o
theorem Ext1.refl {h : Addr} {G : Gh} : Ext1 h G G := fun _ _ _ e => e
theorem Ext1.trans {h : Addr} {G G' G'' : Gh} (a : Ext1 h G G') (b : Ext1 h G' G'') : Ext1 h G G'' := fun x o n e => b x o n (a x o n e)
theorem Ext1.upd {h : Addr} {G : Gh} {o : GObj} : Ext1 h G (G.upd h o) := fun x q n e => (Gh.upd_ne _ _ n).trans e
theorem Ext.one {h : Addr} {G G' : Gh} (a : Ext G G') : Ext1 h G G' := fun x o _ e => a x o e
noncomputable def GObj.isSet : GObj → Bool | .set .. => true | _ => false
theorem keep1 {G G' : Gh} {h a : Addr} {k : Nat} {o : GObj} (hs : SetAt G h k) (x : Ext1 h G G') (e : G a = some o) (n : o.isSet = false) : G' a = some o := x a o (fun q => by obtain ⟨f, hs⟩ := hs; rw [q, hs] at e; cases e; cases n) e
theorem StepAt.ext {G G' : Gh} {a : Addr} {p : PS} (h : StepAt G a p) (x : Ext G G') : StepAt G' a p := by
  obtain ⟨⟨fs, la, h1, h2, h3⟩, o⟩ := h
  exact ⟨⟨fs, la, x _ _ h1, h2, x _ _ h3⟩, o⟩
theorem StepAt.k1 {G G' : Gh} {a s : Addr} {p : PS} {k : Nat} (h : StepAt G a p) (hs : SetAt G s k) (x : Ext1 s G G') : StepAt G' a p := by
  obtain ⟨⟨fs, la, h1, h2, h3⟩, o⟩ := h
  exact ⟨⟨fs, la, keep1 hs x h1 rfl, h2, keep1 hs x h3 rfl⟩, o⟩
theorem FuncAt.ext {G G' : Gh} {f : Addr} {ps : List Int} {sl : Slots} {bls : List Addr} (h : FuncAt G f ps sl bls) (x : Ext G G') : FuncAt G' f ps sl bls := by
  obtain ⟨fs, p, s, b, h1, h2, h3, h4, h5⟩ := h
  exact ⟨fs, p, s, b, x _ _ h1, h2, x _ _ h3, x _ _ h4, x _ _ h5⟩
theorem FuncAt.k1 {G G' : Gh} {f z : Addr} {ps : List Int} {sl : Slots} {bls : List Addr} {k : Nat} (h : FuncAt G f ps sl bls) (hs : SetAt G z k) (x : Ext1 z G G') : FuncAt G' f ps sl bls := by
  obtain ⟨fs, p, s, b, h1, h2, h3, h4, h5⟩ := h
  exact ⟨fs, p, s, b, keep1 hs x h1 rfl, h2, keep1 hs x h3 rfl, keep1 hs x h4 rfl, keep1 hs x h5 rfl⟩
inductive StepsAt (G : Gh) : List Addr → List PS → Prop where
  | nil : StepsAt G [] []
  | cons {a : Addr} {p : PS} {as : List Addr} {ps : List PS} : StepAt G a p → StepsAt G as ps → StepsAt G (a :: as) (p :: ps)
theorem StepsAt.map {G G' : Gh} (f : ∀ a p, StepAt G a p → StepAt G' a p) {as : List Addr} {ps : List PS} (h : StepsAt G as ps) : StepsAt G' as ps := by
  induction h with
  | nil => exact .nil
  | cons a _ ih => exact .cons (f _ _ a) ih
theorem StepsAt.ext {G G' : Gh} (x : Ext G G') {as : List Addr} {ps : List PS} (h : StepsAt G as ps) : StepsAt G' as ps := h.map fun a p s => s.ext x
theorem StepsAt.length {G : Gh} {as : List Addr} {ps : List PS} (h : StepsAt G as ps) : as.length = ps.length := by
  induction h with
  | nil => rfl
  | cons _ _ ih => exact congrArg (· + 1) ih
theorem StepsAt.append {G : Gh} {as bs : List Addr} {ps qs : List PS} (h : StepsAt G as ps) (h' : StepsAt G bs qs) : StepsAt G (as ++ bs) (ps ++ qs) := by
  induction h with
  | nil => exact h'
  | cons a _ ih => exact .cons a ih
theorem StepsAt.reverse {G : Gh} {as : List Addr} {ps : List PS} (h : StepsAt G as ps) : StepsAt G as.reverse ps.reverse := by
  induction h with
  | nil => exact .nil
  | cons a _ ih => rw [List.reverse_cons, List.reverse_cons]; exact ih.append (.cons a .nil)
variable {X : Cx} {n : Nat} {G : Gh} {sc : Scope} {os : List (Option Val)}
theorem SnB.forL {Q : QS} {m : M} {e tgt : PySem.Expr} {body sts : List PySem.Stmt} {pos : Pos} {a : Addr} {xs : List Val} (h : Rd X n sc e m G (.ref a)) (e1 : G a = some (.list xs)) (I : List Val → M → Gh → Prop) (ok : LoopOK X n sc tgt body (fun G => G a = some (.list xs)) (Then X n sc sts Q) I) (h0 : I xs m G)
    (hs : ∀ env x, foldedSetIterable e env x = pure x := by intro _ _; rfl) : SnB X n sc (.For tgt e body [] pos :: sts) m G Q := .cons (.fors (.seq (h.to ⟨xs, _, .list e1, I, ok, h0⟩)) hs)
noncomputable def addA (m : Nat) (args : List Opd) : Nat := args.foldl (fun m o => if o.1 then setb m o.2 else m) m
noncomputable def OpOK (args : List Opd) : Prop := ∀ o ∈ args, o.1 = true → 0 ≤ o.2 ∧ o.2 < 32
theorem add_loop {Q : QS} {e : PySem.Expr} {k1 k2 : Nat} {p1 p2 p3 p4 p5 p6 p7 p8 p9 p10 p11 p12 p13 : Pos} {sts : List PySem.Stmt} {G : Gh} {la h : Addr} {args : List Opd} {k : Nat} (F : Option Val → Option Val → List (Option Val)) {a b : Option Val}
    (hl : (p8.endLine == p10.line) = true) (u1 : ∀ a b v, Upd false sc.names (F a b) "kind" v (F (some v) b)) (u2 : ∀ a b v, Upd false sc.names (F a b) "value" v (F a (some v))) (l1 : ∀ v b, Loc sc.names (F (some v) b) "kind" v) (l2 : ∀ a v, Loc sc.names (F a (some v)) "value" v) (l3 : ∀ a b, Loc sc.names (F a b) "here" (.ref h))
    (he : Rd X n sc e (L sc (F a b)) G (.ref la)) (hla : G la = some (.list (args.map opdV))) (hs : SetAt G h k) (ho : OpOK args)
    (kk : ∀ a b G', SetAt G' h (addA k args) → Ext1 h G G' → SnB X n sc sts (L sc (F a b)) G' Q) (hfs : ∀ env x, foldedSetIterable e env x = pure x := by intro _ _; rfl) :
    SnB X n sc (.For (.Tuple [.Name "kind" p1, .Name "value" p2] k1 p3) e [.If (.Compare (.Name "kind" p4) [.Eq] [.Constant (.str "r") k2 p5] p6) [.Expr (.Call (.Attribute (.Name "here" p7) "add" p8) [.Name "value" p9] [] p10) p11] [] p12] [] p13 :: sts) (L sc (F a b)) G Q := by
  refine SnB.forL he hla (fun xs m G' => ∃ a b r k', xs = r.map opdV ∧ m = L sc (F a b) ∧ SetAt G' h k' ∧ Ext1 h G G' ∧ OpOK r ∧ addA k' r = addA k args) ⟨?_, ?_⟩ ⟨a, b, args, k, rfl, rfl, hs, .refl, ho, rfl⟩ hfs
  · rintro x xs m G' ⟨a, b, r, k', hx, rfl, hs', x1, ho', ha⟩
    cases r with
    | nil => cases hx
    | cons o r =>
      obtain ⟨rfl, rfl⟩ := List.cons.inj hx
      refine ⟨keep1 hs x1 hla rfl, _, .tup (.two (u1 a b _) (u2 _ b _)), ?_⟩
      refine SnB.ifs (r := o.1) ?_ (fun e1 => ?_) fun e1 => .nil (.next (.nil (.next ⟨_, _, r, k', rfl, rfl, hs', x1, fun o ho => ho' o (.tail _ ho), ?_⟩)))
      · have := RdT.cmp (X := X) (n := n) (sc := sc) (m := L sc (F (some (.str (rk o.1))) (some (.int o.2)))) (G := G') (op := .Eq) (pos := p6) (.var (pos := p4) (l1 _ _)) (.str (x := "r") (k := k2) (pos := p5)) (.eqS ⟨rfl, rfl⟩)
        rw [rk_r] at this; exact this
      · obtain ⟨f, hs'⟩ := hs'
        obtain ⟨q1, q2⟩ := ho' o (.head _) e1
        refine SnB.expr (Sn.meth .add (fun _ _ => rfl) (Rd.to (.var (l3 _ _)) ⟨.set hs', (Rds.cons (.var (l2 _ _)) .nil).to (Meth.add hs' ⟨q1, q2⟩ ?_)⟩) (hline := hl))
        refine .nil (.next (.nil (.next ⟨_, _, r, setb k' o.2, rfl, rfl, ⟨false, ?_⟩, x1.trans .upd, fun o ho => ho' o (.tail _ ho), ?_⟩)))
        · rw [Gh.upd_same, maskS_set q1]
        · rw [← ha]; unfold addA; rw [List.foldl_cons, if_pos e1]
      · rw [← ha]; unfold addA; rw [List.foldl_cons, if_neg (by rw [e1]; decide)]
  · rintro m G' ⟨a, b, r, k', hx, rfl, hs', x1, ho', ha⟩
    cases r with
    | nil => exact ⟨keep1 hs x1 hla rfl, .next (kk a b G' (by rw [← ha]; exact hs') x1)⟩
    | cons o r => cases hx
end
noncomputable section
variable {X : Cx} {n : Nat} {G : Gh} {sc : Scope} {os : List (Option Val)}
theorem SnB.forQ {Q : QS} {m : M} {e tgt : PySem.Expr} {body sts : List PySem.Stmt} {pos : Pos} (h : Sn X n sc e m G fun v G' => ∃ a xs I, v = .ref a ∧ G' a = some (.list xs) ∧ LoopOK X n sc tgt body (fun G => G a = some (.list xs)) (Then X n sc sts Q) I ∧ I xs m G')
    (hs : ∀ env x, foldedSetIterable e env x = pure x := by intro _ _; rfl) : SnB X n sc (.For tgt e body [] pos :: sts) m G Q := .cons (.fors (.seq (h.mono fun v G' q => by obtain ⟨a, xs, I, rfl, e1, ok, h0⟩ := q; exact ⟨xs, _, .list e1, I, ok, h0⟩)) hs)
theorem OutS.mono {env : Env} {b : Bs} {s : Shared} {Q Q' : QS} {fl : Flow} {s' : Shared} (o : OutS X env b s Q fl s') (k : ∀ fl m G, Q fl m G → Q' fl m G) : OutS X env b s Q' fl s' := by
  cases o with | mk mf m' G' b' h1 h2 h3 h4 h5 h6 h7 => exact .mk mf m' G' b' h1 h2 h3 h4 h5 h6 (k _ _ _ h7)
theorem SnB.mono {Q Q' : QS} {m : M} {sts : List PySem.Stmt} (h : SnB X n sc sts m G Q) (k : ∀ fl m G, Q fl m G → Q' fl m G) : SnB X n sc sts m G Q' := ⟨fun hs => wpAny_trans (h.go hs) fun _ _ o => o.mono k⟩
inductive Join (P : Gh → Prop) (Q : QS) (m : M) : Fl → M → Gh → Prop where
  | next {G : Gh} (h : P G) : Join P Q m .next m G
  | cont {m' : M} {G : Gh} (h : Q .cont m' G) : Join P Q m .cont m' G
  | ret {v : Val} {m' : M} {G : Gh} (h : Q (.ret v) m' G) : Join P Q m (.ret v) m' G
theorem SnB.ifsJ {Q : QS} {m : M} {t : PySem.Expr} {a c sts : List PySem.Stmt} {pos : Pos} {r : Bool} (P : Gh → Prop) (h : RdT X n sc t m G r) (ha : r = true → SnB X n sc a m G (Join P Q m)) (hb : r = false → SnB X n sc c m G (Join P Q m)) (hr : ∀ G', P G' → SnB X n sc sts m G' Q) : SnB X n sc (.If t a c pos :: sts) m G Q := by
  have key : ∀ fl m' G', Join P Q m fl m' G' → Then X n sc sts Q fl m' G' := fun fl m' G' q => by
    cases q with
    | next h => exact .next (hr _ h)
    | cont h => exact .cont h
    | ret h => exact .ret h
  exact .ifs h (fun e => (ha e).mono key) fun e => (hb e).mono key
structure BlockIs (fs : Fld → Option Val) (num : Int) (st eo : Addr) : Prop where
  number : fs .number = some (.int num)
  steps : fs .steps = some (.ref st)
  end_ : fs .end_ = some (.ref eo)
inductive BlockAt (G : Gh) (b : Addr) (num : Int) (sts : List Addr) (eo : Addr) : Prop where
  | mk (fs : Fld → Option Val) (st : Addr) (h1 : G b = some (.inst .block fs)) (h2 : BlockIs fs num st eo) (h3 : G st = some (.list (sts.map .ref)))
theorem BlockAt.ext {G G' : Gh} {b : Addr} {num : Int} {sts : List Addr} {eo : Addr} (h : BlockAt G b num sts eo) (x : Ext G G') : BlockAt G' b num sts eo := by
  obtain ⟨fs, st, h1, h2, h3⟩ := h
  exact ⟨fs, st, x _ _ h1, h2, x _ _ h3⟩
noncomputable def needStep (sl : Slots) (ad : AddrM) (m : Nat) (p : PS) : Nat := if maskS m p.dst then addA (clrb m p.dst) p.args else if isFreeP sl ad p then m else addA m p.args
noncomputable def needP (sl : Slots) (ad : AddrM) (steps : List PS) (ends : List Opd) (m : Nat) : Nat := steps.reverse.foldl (needStep sl ad) (addA m ends)
theorem mask_nonneg {m : Nat} {k : Int} (h : maskS m k = true) : 0 ≤ k := of_decide_eq_true (Bool.and_eq_true_iff.mp h).1
noncomputable abbrev naL (f ad b h : Addr) (x y z : Option Val) : M := L sc_need_ahead [some (.ref f), some (.ref ad), some (.ref b), some (.ref h), x, y, z, none]
inductive NeedI (G : Gh) (f ad b h c : Addr) (sl : Slots) (am : AddrM) (rs : List Val) (goal : Nat) : List Val → M → Gh → Prop where
  | mk {x y z : Option Val} {as : List Addr} {qs : List PS} {k : Nat} {G' : Gh} (hs : StepsAt G as qs) (hw : ∀ p ∈ qs, StepWf p) (hh : SetAt G' h k) (x1 : Ext1 h G G') (hc : G' c = some (.list rs)) (hk : qs.foldl (needStep sl am) k = goal) : NeedI G f ad b h c sl am rs goal (as.map .ref) (naL f ad b h x y z) G'
theorem sp_need_ahead {f ad b h eo : Addr} {pr : List Int} {sl : Slots} {bls : List Addr} {am : AddrM} {num : Int} {sts : List Addr} {ps : List PS} {pe : PS} {k : Nat} {Q : QE} (T : Tops X) (hf : FuncAt G f pr sl bls) (ha : G ad = some (.dict (adE am))) (hok : AdOK am sl)
    (hb : BlockAt G b num sts eo) (hst : StepsAt G sts ps) (hwf : ∀ p ∈ ps, StepWf p) (hend : StepAt G eo pe) (hew : OpOK pe.args) (hs : SetAt G h k)
    (kk : ∀ G', SetAt G' h (needP sl am ps pe.args k) → Ext1 h G G' → Q (.ref h) G') : Cal X (n + 4) a_need_ahead [.ref f, .ref ad, .ref b, .ref h] G Q := by
  obtain ⟨fs, st, h1, ⟨b1, b2, b3⟩, h2⟩ := id hb
  obtain ⟨⟨es, la, h3, ⟨e1, e2, e3, e4, e5, _⟩, h4⟩, ho⟩ := id hend
  refine' Cal.start (os := ?os) T.d_need_ahead ?q ?b; case q => walk_at "r"
  case b =>
  refine add_loop (fun x y => [some (.ref f), some (.ref ad), some (.ref b), some (.ref h), x, y, none, none]) rfl (fun _ _ _ => by walk_at "r") (fun _ _ _ => by walk_at "r") (fun _ _ => by walk_at "r") (fun _ _ => by walk_at "r") (fun _ _ => by walk_at "r") (by walk_at "r") h4 hs hew fun x y G1 hs1 x1 => ?_
  have h1' := keep1 hs x1 h1 rfl
  have h2' := keep1 hs x1 h2 rfl
  refine SnB.forQ (Sn.rev (Rd.to (v := .ref st) (by walk_at "r") ⟨st, sts.map .ref, rfl, h2', fun c hc => ?_⟩))
  have hs2 : SetAt (G1.upd c (.list (sts.map .ref).reverse)) h (addA k pe.args) := by obtain ⟨f, q⟩ := hs1; exact ⟨f, Ext.new hc _ _ q⟩
  have hch : c ≠ h := fun q => by obtain ⟨f, e⟩ := hs1; rw [← q, hc] at e; cases e
  have x2 := x1.trans (Ext.new (o := .list (sts.map .ref).reverse) hc).one
  generalize hrs : (sts.map Val.ref).reverse = rs at *
  have hrs' : rs = sts.reverse.map .ref := by rw [← hrs, List.map_reverse]
  refine ⟨c, rs, NeedI G f ad b h c sl am rs (needP sl am ps pe.args k), rfl, Gh.upd_same .., ⟨?_, ?_⟩, ?_⟩
  · intro v xs m G' hI
    generalize hvx : v :: xs = vx at hI
    cases hI with | @mk x y z as qs k' _ hsa hw hs' x' hc' hk =>
    cases hsa with
    | nil => cases hvx
    | @cons a p as qs hp hsa =>
    obtain ⟨rfl, rfl⟩ := List.cons.inj hvx
    refine ⟨hc', _, .name (Upd.put (os' := [some (.ref f), some (.ref ad), some (.ref b), some (.ref h), x, y, some (.ref a), none]) (by walk_at "r")), ?_⟩
    have hp' := hp.k1 hs x'
    obtain ⟨⟨fp, lp, p1, ⟨q1, q2, q3, q4, q5, _⟩, p2⟩, po⟩ := id hp'
    have hwp := hw p (.head _)
    obtain ⟨fl, hs''⟩ := id hs'
    refine SnB.ifsJ (r := maskS k' p.dst) (fun Gb => ∃ kb, SetAt Gb h kb ∧ Ext1 h G' Gb ∧ needStep sl am k' p = addA kb p.args) (.cmp (by walk_at "r") (by walk_at "r") (.inSet hs'' ⟨rfl, rfl⟩)) (fun e => ?_) (fun e => ?_) fun Gb ⟨kb, s1, s2, s3⟩ => ?_
    · refine SnB.expr (Sn.meth .discard (fun _ _ => rfl) (Rd.to (v := .ref h) (by walk_at "r") ⟨.set hs'', Rds.to (vs := [.int p.dst]) (by walk_at "r") (Meth.discard hs'' ?_)⟩))
      exact .nil (.next ⟨clrb k' p.dst, ⟨false, by rw [Gh.upd_same, maskS_clr (mask_nonneg e) e]⟩, .upd, if_pos e⟩)
    · refine SnB.ifs (r := isFreeP sl am p) (.val (.ref T.f_is_free ?_ ?_ (vs := [.ref f, .ref ad, .ref a]) ?_ (sp_is_free T (hf.k1 hs x') (keep1 hs x' ha rfl) hok hp' hwp ⟨rfl, rfl⟩)) (.bool _)) (fun e' => SnB.cont (.cont (.cont (.cont (.mk hsa (fun p hp => hw p (.tail _ hp)) hs' x' hc' ?_))))) fun e' => .nil (.next (.nil (.next ⟨k', hs', .refl, ?_⟩)))
      · walk_at "r"
      · intro _ _; rfl
      · walk_at "r"
      · rw [← hk, List.foldl_cons, needStep, if_neg (by rw [e]; decide), if_pos e']
      · rw [needStep, if_neg (by rw [e]; decide), if_neg (by rw [e']; decide)]
    · have p1' := keep1 hs' s2 p1 rfl
      have p2' := keep1 hs' s2 p2 rfl
      refine add_loop (fun x y => [some (.ref f), some (.ref ad), some (.ref b), some (.ref h), x, y, some (.ref a), none]) rfl (fun _ _ _ => by walk_at "r") (fun _ _ _ => by walk_at "r") (fun _ _ => by walk_at "r") (fun _ _ => by walk_at "r") (fun _ _ => by walk_at "r") (by walk_at "r") p2' s1 hwp.regs fun x y G2 hs3 x3 => ?_
      exact .nil (.next (.mk hsa (fun p hp => hw p (.tail _ hp)) hs3 ((x'.trans s2).trans x3) (x3 _ _ hch (s2 _ _ hch hc')) (by rw [← s3]; exact hk)))
  · intro m G' hI
    generalize hvx : ([] : List Val) = vx at hI
    cases hI with | @mk x y z as qs k' _ hsa hw hs' x' hc' hk =>
    cases hsa with
    | cons _ _ => cases hvx
    | nil => exact ⟨hc', .next (SnB.retB (Rd.to (v := .ref h) (by walk_at "r") (kk G' (by rw [← hk]; exact hs') x')))⟩
  · subst hrs'
    exact .mk hst.reverse (fun p hp => hwf p (List.mem_reverse.mp hp)) hs2 x2 (Gh.upd_same ..) rfl
end
noncomputable section
variable {X : Cx} {n : Nat} {G : Gh} {sc : Scope} {os : List (Option Val)} {m : M}
theorem Gh.upd_upd {a : Addr} {x y : GObj} : (G.upd a x).upd a y = G.upd a y := by
  funext z
  by_cases q : z = a
  · rw [q, Gh.upd_same, Gh.upd_same]
  · rw [Gh.upd_ne _ _ q, Gh.upd_ne _ _ q, Gh.upd_ne _ _ q]
noncomputable def fput (fs : Fld → Option Val) (f : Fld) (v : Val) : Fld → Option Val := fun g => if g = f then some v else fs g
theorem SnB.setA {Q : QS} {o e : PySem.Expr} {attr : Str} {f : Fld} {p pos : Pos} {sts : List PySem.Stmt} {c : Cls} {fs : Fld → Option Val} {a : Addr} {v : Val} (hc : ClsOK X) (ha : FldIs attr f) (h : Rd X n sc e m (G.upd a (.inst c fs)) v) (ho : Rd X n sc o m (G.upd a (.inst c fs)) (.ref a))
    (k : SnB X n sc sts m (G.upd a (.inst c (fput fs f v))) Q) (hsw : ∀ env, swapsWith e (some (.Attribute o attr p)) pos.line env = pure false := by intro _; rfl) : SnB X n sc (.Assign [.Attribute o attr p] e pos :: sts) m (G.upd a (.inst c fs)) Q :=
  .cons (.setAttr hc f ha.eq (h.to (ho.to ⟨a, c, fs, rfl, Gh.upd_same .., .next (by rw [Gh.upd_upd]; exact k)⟩)) hsw)
theorem sp_Step {a la : Addr} {p : PS} {Q : QE} (T : Tops X) (k : ∀ fs, StepIs fs ⟨p.op, p.dst, p.args, p.more, false⟩ la → Q .none (G.upd a (.inst .step fs))) : Cal X (n + 1) a_Step [.ref a, .str (opS p.op), .int p.dst, .ref la, p.more] (G.upd a (.inst .step fun _ => none)) Q := by
  refine' Cal.start (os := ?os) T.d_Step ?q ?b; case q => walk_at "r"
  case b =>
  refine SnB.setA (f := .op) T.cls (by walk_at "r") (by walk_at "r") (by walk_at "r") ?_
  refine SnB.setA (f := .dst) T.cls (by walk_at "r") (by walk_at "r") (by walk_at "r") ?_
  refine SnB.setA (f := .args) T.cls (by walk_at "r") (by walk_at "r") (by walk_at "r") ?_
  refine SnB.setA (f := .more) T.cls (by walk_at "r") (by walk_at "r") (by walk_at "r") ?_
  refine SnB.setA (f := .is_volatile) (v := .bool false) T.cls (by walk_at "r") (by walk_at "r") (by walk_at "r") ?_
  refine SnB.setA (f := .line) (v := .int 0) T.cls (by walk_at "r") (by walk_at "r") (by walk_at "r") ?_
  exact .nil (.next (k _ ⟨rfl, rfl, rfl, rfl, rfl, _, rfl⟩))
theorem Sn.newStep {Q : QE} {es : List PySem.Expr} {p pos : Pos} {s : PS} {la : Addr} (T : Tops X) (hk : GlobIn sc "Step") (hn : NoStar es) (h : Rds X (n + 1) sc es m G [.str (opS s.op), .int s.dst, .ref la, s.more]) (k : ∀ a fs, G a = Option.none → StepIs fs ⟨s.op, s.dst, s.args, s.more, false⟩ la → Q (.ref a) (G.upd a (.inst .step fs))) :
    Sn X (n + 1) sc (.Call (.Name "Step" p) es [] pos) m G Q := Sn.new T.f_Step T.cls hk hn (h.to fun a ha => sp_Step T fun fs hfs => ⟨rfl, k a fs ha hfs⟩)
theorem StepIs.line_ {fs : Fld → Option Val} {p : PS} {la : Addr} {i : Int} (h : StepIs fs p la) : StepIs (fput fs .line (.int i)) p la := ⟨h.op, h.dst, h.args, h.more, h.vol, i, rfl⟩
theorem sp_in_place {a la : Addr} {p s : PS} {Q : QE} (T : Tops X) (h : StepAt G a p)
    (kk : ∀ c fs, G c = none → StepIs fs ⟨s.op, s.dst, s.args, s.more, false⟩ la → Q (.ref c) (G.upd c (.inst .step fs))) : Cal X (n + 2) a_in_place_of [.ref a, .str (opS s.op), .int s.dst, .ref la, s.more] G Q := by
  obtain ⟨⟨fs, lg, h1, ⟨f1, f2, f3, f4, f5, li, f6⟩, h2⟩, ho⟩ := id h
  refine' Cal.start (os := ?os) T.d_in_place_of ?q ?b; case q => walk_at "r"
  case b =>
  refine SnB.assignQ (Sn.newStep (s := s) (la := la) T (by walk_at "r") (fun _ _ => rfl) (by walk_at "r") fun c gs hc hg => ⟨_, by walk_at "r", ?_⟩)
  have h1' : (G.upd c (.inst .step gs)) a = some (.inst .step fs) := Ext.new hc _ _ h1
  refine SnB.setA (f := .line) (v := .int li) T.cls (by walk_at "r") (by walk_at "r") (by walk_at "r") ?_
  exact SnB.retB (Rd.to (v := .ref c) (by walk_at "r") (kk c _ hc hg.line_))
theorem sp_without {a la : Addr} {p : PS} {fs : Fld → Option Val} {Q : QE} (T : Tops X) (h1 : G a = some (.inst .step fs)) (h2 : StepIs fs p la) (h3 : G la = some (.list (p.args.map opdV))) (ho : p.op < 36)
    (kk : ∀ c fs, G c = none → StepIs fs ⟨p.op, -1, p.args, p.more, false⟩ la → Q (.ref c) (G.upd c (.inst .step fs))) : Cal X (n + 3) a_without_register [.ref a] G Q := by
  obtain ⟨f1, f2, f3, f4, f5, li, f6⟩ := id h2
  refine' Cal.start (os := ?os) T.d_without_register ?q ?b; case q => walk_at "r"
  case b =>
  refine SnB.retB (Sn.ref T.f_in_place_of (by walk_at "r") (fun _ _ => rfl) (vs := [.ref a, .str (opS p.op), .int (-1), .ref la, p.more]) (by walk_at "r") (sp_in_place (s := ⟨p.op, -1, p.args, p.more, false⟩) T ⟨⟨fs, la, h1, h2, h3⟩, ho⟩ kk))
inductive EndAt (G : Gh) (p : PS) : List Int → Prop where
  | jump {i : Int} (h : Nat.beq p.op 32 = true) (e : p.more = .int i) : EndAt G p [i]
  | branch {i j : Int} (h : Nat.beq p.op 33 = true) (e : p.more = .tup [.int i, .int j]) : EndAt G p [i, j]
  | table {v : Val} {l : Addr} {js : List Int} {d : Int} (h : Nat.beq p.op 34 = true) (e : p.more = .tup [v, .ref l, .int d]) (hl : G l = some (.list (js.map .int))) (hj : js.length < 1000) : EndAt G p (js ++ [d])
  | other (h1 : Nat.beq p.op 32 = false) (h2 : Nat.beq p.op 33 = false) (h3 : Nat.beq p.op 34 = false) : EndAt G p []
theorem EndAt.ext {G' : Gh} {p : PS} {js : List Int} (h : EndAt G p js) (x : Ext G G') : EndAt G' p js := by
  cases h with
  | jump h e => exact .jump h e
  | branch h e => exact .branch h e
  | table h e hl hj => exact .table h e (x _ _ hl) hj
  | other a b c => exact .other a b c
theorem sp_followers {b eo : Addr} {num : Int} {sts : List Addr} {pe : PS} {js : List Int} {Q : QE} (T : Tops X) (hb : BlockAt G b num sts eo) (he : StepAt G eo pe) (hj : EndAt G pe js)
    (k : ∀ c G', G c = none → Ext G G' → G' c = some (.list (js.map .int)) → Q (.ref c) G') : Cal X (n + 1) a_followers [.ref b] G Q := by
  obtain ⟨fs, st, h1, ⟨b1, b2, b3⟩, h2⟩ := id hb
  obtain ⟨⟨es, la, h3, ⟨e1, e2, e3, e4, e5, _⟩, h4⟩, ho⟩ := id he
  refine' Cal.start (os := ?os) T.d_followers ?q ?b; case q => walk_at "r"
  case b =>
  refine SnB.assign (v := .ref eo) (by walk_at "r") (by walk_at "r") ?_
  have fin : ∀ vs, vs = js.map Val.int → newList vs G Q := fun vs e c hc => k c _ hc (Ext.new hc) (by rw [Gh.upd_same, e])
  refine SnB.ifs (r := Nat.beq pe.op 32) ?_ (fun e => ?_) fun e => .nilT ?_
  · rw [← op_jump pe.op ho]; exact .cmp (by walk_at "r") (by walk_at "r") (.eqS ⟨rfl, rfl⟩)
  · cases hj with
    | @jump i _ e' =>
      rw [e'] at e4
      exact SnB.retT (Sn.listR (vs := [.int i]) (by walk_at "r") (fin _ rfl))
    | branch h _ => rw [Nat.eq_of_beq_eq_true e] at h; cases h
    | table h _ _ _ => rw [Nat.eq_of_beq_eq_true e] at h; cases h
    | other h _ _ => rw [e] at h; cases h
  refine SnB.ifs (r := Nat.beq pe.op 33) ?_ (fun e' => ?_) fun e' => .nilT ?_
  · rw [← op_branch pe.op ho]; exact .cmp (by walk_at "r") (by walk_at "r") (.eqS ⟨rfl, rfl⟩)
  · cases hj with
    | jump h _ => rw [e] at h; cases h
    | @branch i j _ e0 =>
      rw [e0] at e4
      exact SnB.retT (Sn.listR (vs := [.int i, .int j]) (.cons (.idxT (vs := [.int i, .int j]) (by walk_at "r") .int (by decide) rfl) (.cons (.idxT (vs := [.int i, .int j]) (by walk_at "r") .int (by decide) rfl) .nil)) (fin _ rfl))
    | table h _ _ _ => rw [Nat.eq_of_beq_eq_true e'] at h; cases h
    | other _ h _ => rw [e'] at h; cases h
  refine SnB.ifs (r := Nat.beq pe.op 34) ?_ (fun e'' => ?_) fun e'' => .nilT ?_
  · rw [← op_table pe.op ho]; exact .cmp (by walk_at "r") (by walk_at "r") (.eqS ⟨rfl, rfl⟩)
  · cases hj with
    | jump h _ => rw [e] at h; cases h
    | branch h _ => rw [e'] at h; cases h
    | @table v l js d _ e0 hl hlen =>
      rw [e0] at e4
      refine SnB.retT (Sn.bin (Sn.ty (id := "list") T.blt (by decide) (by decide) (by walk_at "r") (fun _ _ => rfl) (Rds.to (vs := [.ref l]) (.cons (.idxT (vs := [v, .ref l, .int d]) (by walk_at "r") .int (by decide) rfl) .nil) (Blt.listL hl (by rw [List.length_map]; unfold cap; omega) fun c hc => ?_))))
      have x1 := Ext.new (o := .list (js.map .int)) hc
      have e4' := x1 _ _ h1
      have e5' := x1 _ _ h3
      refine Sn.listR (vs := [.int d]) (.cons (.idxT (vs := [v, .ref l, .int d]) (by walk_at "r") .int (by decide) rfl) .nil) fun c2 hc2 => ?_
      have x2 := Ext.new (o := .list [.int d]) hc2
      refine Op2.addL (x2 _ _ (Gh.upd_same ..)) (Gh.upd_same ..) (by rw [List.length_map]; show js.length + 1 < cap; unfold cap; omega) fun c3 hc3 => ?_
      have x3 := (x1.trans x2).trans (Ext.new (o := .list (js.map .int ++ [.int d])) hc3)
      refine k c3 _ ?_ x3 ?_
      · cases q : G c3 with
        | none => rfl
        | some o => rw [(x1.trans x2) _ _ q] at hc3; cases hc3
      · rw [Gh.upd_same, List.map_append]; rfl
    | other _ _ h => rw [e''] at h; cases h
  cases hj with
  | jump h _ => rw [e] at h; cases h
  | branch h _ => rw [e'] at h; cases h
  | table h _ _ _ => rw [e''] at h; cases h
  | other _ _ _ => exact SnB.retB (Sn.listR .nil (fin _ rfl))
end
noncomputable section
variable {X : Cx} {n : Nat} {G : Gh} {sc : Scope} {os : List (Option Val)} {m : M}
theorem SnB.aug {Q : QS} {x : Str} {v w : Val} {e : PySem.Expr} {op : Operator} {p pos : Pos} {sts : List PySem.Stmt} (hx : Loc sc.names os x v) (h : Rd X n sc e (L sc os) G w) (k : Op2 X n (inplaceOp op) v w G fun u G2 => ∃ os', Upd false sc.names os x u os' ∧ SnB X n sc sts (L sc os') G2 Q) : SnB X n sc (.AugAssign (.Name x p) op e pos :: sts) (L sc os) G Q :=
  .cons (.aug hx (h.to ⟨fun a b c d e => wpAny_trans (k.go a b c d e) fun x s o => o.elim fun v' G' hv hr f q => by obtain ⟨os', u, q⟩ := q; exact .mk _ _ hv hr f ⟨_, u.put, .next q⟩⟩))
theorem maskS_or (a b : Nat) : (fun j => maskS a j || maskS b j) = maskS (a ||| b) := by
  funext j
  unfold maskS
  rw [Nat.testBit_or]
  cases decide (0 ≤ j) <;> simp
theorem maskS_zero : (fun _ : Int => false) = maskS 0 := by
  funext j
  unfold maskS
  rw [Nat.zero_testBit, Bool.and_false]
theorem SetAt.new {c : Addr} {f : Bool} : SetAt (G.upd c (.set (fun _ => false) f)) c 0 := ⟨f, by rw [Gh.upd_same, maskS_zero]⟩
noncomputable abbrev AhL := List (Int × Addr × Nat)
noncomputable def ahE (l : AhL) : List (Int × Val) := l.map fun e => (e.1, .ref e.2.1)
noncomputable def ahM (l : AhL) : List (Int × Nat) := l.map fun e => (e.1, e.2.2)
noncomputable def lookN (l : List (Int × Nat)) (k : Int) : Nat := ((l.find? fun e => decide (e.1 = k)).map (·.2)).getD 0
structure AhAt (G : Gh) (d : Addr) (l : AhL) : Prop where
  d : G d = some (.dict (ahE l))
  s : ∀ e ∈ l, SetAt G e.2.1 e.2.2
theorem AhAt.look {d : Addr} {l : AhL} (h : AhAt G d l) {k : Int} (hk : k ∈ (ahM l).map (·.1)) : ∃ a, lookE (ahE l) k = some (.ref a) ∧ SetAt G a (lookN (ahM l) k) := by
  unfold lookE lookN
  unfold ahM ahE at *
  rw [List.find?_map, List.find?_map]
  cases q : l.find? ((fun e : Int × Val => decide (e.1 = k)) ∘ fun e => (e.1, Val.ref e.2.1)) with
  | none =>
    exfalso
    rw [List.find?_eq_none] at q
    rw [List.map_map] at hk
    obtain ⟨e, he, rfl⟩ := List.mem_map.mp hk
    exact q e he (decide_eq_true rfl)
  | some e =>
    have hm := List.mem_of_find?_eq_some q
    have q' : l.find? ((fun e : Int × Nat => decide (e.1 = k)) ∘ fun e => (e.1, e.2.2)) = some e := q
    rw [q']
    exact ⟨e.2.1, rfl, h.s e hm⟩
noncomputable def behindP (l : List (Int × Nat)) (js : List Int) : Nat := js.foldl (fun m j => m ||| lookN l j) 0
noncomputable abbrev nbL (b d c : Addr) (x : Option Val) : M := L sc_need_behind [some (.ref b), some (.ref d), some (.ref c), x, none, none]
inductive BehI (G0 G1 : Gh) (b d c la : Addr) (l : AhL) (rs : List Val) (goal : Nat) : List Val → M → Gh → Prop where
  | mk {x : Option Val} {js : List Int} {k : Nat} {f : Bool} {G' : Gh} (hj : ∀ j ∈ js, j ∈ (ahM l).map (·.1)) (hc : G' c = some (.set (maskS k) f)) (hf : f = true ∨ ∃ i, maskS k i = true) (x1 : Ext1 c G1 G') (hl : G' la = some (.list rs)) (hk : js.foldl (fun m j => m ||| lookN (ahM l) j) k = goal) : BehI G0 G1 b d c la l rs goal (js.map .int) (nbL b d c x) G'
theorem sp_need_behind {b eo d : Addr} {num : Int} {sts : List Addr} {pe : PS} {js : List Int} {l : AhL} {Q : QE} (T : Tops X) (hb : BlockAt G b num sts eo) (he : StepAt G eo pe) (hj : EndAt G pe js) (hd : AhAt G d l) (hin : ∀ j ∈ js, j ∈ (ahM l).map (·.1))
    (k : ∀ c G', G c = none → Ext G G' → SetAt G' c (behindP (ahM l) js) → Q (.ref c) G') : Cal X (n + 2) a_need_behind [.ref b, .ref d] G Q := by
  refine' Cal.start (os := ?os) T.d_need_behind ?q ?b; case q => walk_at "r"
  case b =>
  refine SnB.assignQ (Sn.ty (id := "set") T.blt (by decide) (by decide) (by walk_at "r") (fun _ _ => rfl) (Rds.nil.to (Blt.set0 fun c hc => ⟨_, by walk_at "r", ?_⟩)))
  have x0 := Ext.new (o := .set (fun _ => false) true) hc
  generalize hG1 : G.upd c (.set (fun _ => false) true) = G1 at x0
  have hc1 : G1 c = some (.set (maskS 0) true) := by rw [← hG1, Gh.upd_same, maskS_zero]
  refine SnB.forQ (Sn.ref T.f_followers (by walk_at "r") (fun _ _ => rfl) (vs := [.ref b]) (by walk_at "r") (sp_followers T (hb.ext x0) (he.ext x0) (hj.ext x0) fun la G2 hla x1 h2 => ?_))
  have hlc : la ≠ c := fun q => by rw [q, hc1] at hla; cases hla
  refine ⟨la, _, BehI G G2 b d c la l (js.map .int) (behindP (ahM l) js), rfl, h2, ⟨?_, ?_⟩, .mk hin (x1 _ _ hc1) (.inl rfl) .refl h2 rfl⟩
  · intro v xs m G' hI
    generalize hvx : v :: xs = vx at hI
    cases hI with | @mk x js' k' f _ hj' hc' hf' x' hl' hk =>
    cases js' with
    | nil => cases hvx
    | cons j js' =>
    obtain ⟨rfl, rfl⟩ := List.cons.inj hvx
    refine ⟨hl', _, .name (Upd.put (os' := [some (.ref b), some (.ref d), some (.ref c), some (.int j), none, none]) (by walk_at "r")), ?_⟩
    obtain ⟨a, ha, hs0⟩ := hd.look (hj' j (.head _))
    have ne : ∀ {z : Addr} {o : GObj}, G z = some o → z ≠ c := fun e q => by rw [q, hc] at e; cases e
    obtain ⟨fa, hs0⟩ := hs0
    have hs1 := x' _ _ (ne hs0) (x1 _ _ (x0 _ _ hs0))
    have hd1 := x' _ _ (ne hd.d) (x1 _ _ (x0 _ _ hd.d))
    refine SnB.aug (v := .ref c) (w := .ref a) (by walk_at "r") (.idxD (by walk_at "r") hd1 (by walk_at "r") ha) (Op2.ior hc' hs1 (Ne.symm (ne hs0)) hf' fun f' hf2 => ⟨_, by walk_at "r", .nil (.next ?_)⟩)
    refine .mk (fun j h => hj' j (.tail _ h)) (by rw [Gh.upd_same, maskS_or]) (hf2.imp id fun ⟨i, hi⟩ => ⟨i, ?_⟩) (x'.trans .upd) ((Gh.upd_ne _ _ hlc).trans hl') hk
    rw [← maskS_or]
    exact Bool.or_eq_true_iff.mpr hi
  · intro m G' hI
    generalize hvx : ([] : List Val) = vx at hI
    cases hI with | @mk x js' k' f _ hj' hc' hf' x' hl' hk =>
    cases js' with
    | cons _ _ => cases hvx
    | nil =>
      refine ⟨hl', .next (SnB.retB (Rd.to (v := .ref c) (by walk_at "r") (k c G' hc (fun z o e => x' _ _ (fun q => by rw [q, hc] at e; cases e) (x1 _ _ (x0 _ _ e))) ⟨f, ?_⟩)))⟩
      rw [← hk]; exact hc'
end
noncomputable section
variable {X : Cx} {n : Nat} {G : Gh} {sc : Scope} {os : List (Option Val)} {m : M}
inductive JoinM (P : M → Gh → Prop) (Q : QS) : Fl → M → Gh → Prop where
  | next {m : M} {G : Gh} (h : P m G) : JoinM P Q .next m G
  | cont {m : M} {G : Gh} (h : Q .cont m G) : JoinM P Q .cont m G
theorem SnB.ifsM {Q : QS} {t : PySem.Expr} {a c sts : List PySem.Stmt} {pos : Pos} {r : Bool} (P : M → Gh → Prop) (h : RdT X n sc t m G r) (ha : r = true → SnB X n sc a m G (JoinM P Q)) (hb : r = false → SnB X n sc c m G (JoinM P Q)) (hr : ∀ m' G', P m' G' → SnB X n sc sts m' G' Q) : SnB X n sc (.If t a c pos :: sts) m G Q := by
  have key : ∀ fl m' G', JoinM P Q fl m' G' → Then X n sc sts Q fl m' G' := fun fl m' G' q => by
    cases q with
    | next h => exact .next (hr _ _ h)
    | cont h => exact .cont h
  exact .ifs h (fun e => (ha e).mono key) fun e => (hb e).mono key
noncomputable def isSelfCopy (p : PS) : Bool := Nat.beq p.op 10 && (match p.args[0]? with | some o => o.1 && (o.2 == p.dst) | none => false)
noncomputable def sweptStep (sl : Slots) (ad : AddrM) (s : Nat × List (PS × Bool)) (p : PS) : Nat × List (PS × Bool) :=
  if maskS s.1 p.dst then (if isSelfCopy p then s else (addA (clrb s.1 p.dst) p.args, (p, false) :: s.2))
  else if isFreeP sl ad p then s
  else if decide (p.dst ≥ 0) && isCall p.op then (addA s.1 p.args, (⟨p.op, -1, p.args, p.more, false⟩, true) :: s.2)
  else (addA s.1 p.args, (p, false) :: s.2)
noncomputable def sweptP (sl : Slots) (ad : AddrM) (steps : List PS) (ends : List Opd) (m : Nat) : List (PS × Bool) := (steps.reverse.foldl (sweptStep sl ad) (addA m ends, [])).2
inductive RelK (G0 : Gh) : List Addr → List Addr → List (PS × Bool) → Prop where
  | nil : RelK G0 [] [] []
  | skip {a : Addr} {as ks : List Addr} {qs : List (PS × Bool)} : RelK G0 as ks qs → RelK G0 (a :: as) ks qs
  | same {a : Addr} {as ks : List Addr} {p : PS} {qs : List (PS × Bool)} : RelK G0 as ks qs → RelK G0 (a :: as) (a :: ks) ((p, false) :: qs)
  | new {a c : Addr} {as ks : List Addr} {p : PS} {qs : List (PS × Bool)} : G0 c = none → RelK G0 as ks qs → RelK G0 (a :: as) (c :: ks) ((p, true) :: qs)
inductive KO (G0 G : Gh) (a : Addr) (p : PS) : Prop where
  | mk (fs : Fld → Option Val) (la : Addr) (h1 : G a = some (.inst .step fs)) (h2 : StepIs fs p la) (h3 : G0 la = some (.list (p.args.map opdV)))
structure KAt (G0 G : Gh) (a : Addr) (p : PS) : Prop where
  ok : KO G0 G a p
  op : p.op < 36
inductive KsAt (G0 G : Gh) : List Addr → List (PS × Bool) → Prop where
  | nil : KsAt G0 G [] []
  | cons {a : Addr} {q : PS × Bool} {as : List Addr} {qs : List (PS × Bool)} : KAt G0 G a q.1 → KsAt G0 G as qs → KsAt G0 G (a :: as) (q :: qs)
noncomputable def InstK (G G' : Gh) : Prop := ∀ x c fs, G x = some (.inst c fs) → G' x = some (.inst c fs)
theorem InstK.trans {G' G'' : Gh} (a : InstK G G') (b : InstK G' G'') : InstK G G'' := fun x c fs e => b x c fs (a x c fs e)
theorem Ext.inst {G' : Gh} (x : Ext G G') : InstK G G' := fun a c fs e => x _ _ e
theorem InstK.upd {h : Addr} {o o' : GObj} (e : G h = some o) (n : o.isInst = false) : InstK G (G.upd h o') := fun a c fs e' => (Gh.upd_ne _ _ fun q => by rw [q, e] at e'; cases e'; cases n).trans e'
theorem Ext1.inst {h : Addr} {G' : Gh} {k : Nat} (hs : SetAt G h k) (x : Ext1 h G G') : InstK G G' := fun a c fs e => keep1 hs x e rfl
theorem KsAt.keep {G0 G' : Gh} {as : List Addr} {qs : List (PS × Bool)} (h : KsAt G0 G as qs) (x : InstK G G') : KsAt G0 G' as qs := by
  induction h with
  | nil => exact .nil
  | cons a _ ih =>
    obtain ⟨⟨fs, la, h1, h2, h3⟩, o⟩ := a
    exact .cons ⟨⟨fs, la, x _ _ _ h1, h2, h3⟩, o⟩ ih
noncomputable abbrev ssL (f ad b h ko : Addr) (x y z : Option Val) : M := L sc_swept_steps [some (.ref f), some (.ref ad), some (.ref b), some (.ref h), x, y, some (.ref ko), z, none, none, none]
inductive SwI (G0 : Gh) (f ad b h ko c : Addr) (sl : Slots) (am : AddrM) (sts : List Addr) (rs : List Val) (goal : List (PS × Bool)) : List Val → M → Gh → Prop where
  | mk {x y z : Option Val} {as done ks : List Addr} {qs : List PS} {k : Nat} {kq : List (PS × Bool)} {G' : Gh} (hs : StepsAt G0 as qs) (hw : ∀ p ∈ qs, StepWf p) (hh : SetAt G' h k) (x1 : Ext1 h G0 G') (hc : G' c = some (.list rs)) (hd : as.reverse ++ done = sts)
      (hko : G' ko = some (.list (ks.reverse.map .ref))) (hr : RelK G0 done ks kq) (hk : KsAt G0 G' ks kq) (hl : ks.length ≤ done.length) (hg : (qs.foldl (sweptStep sl am) (k, kq)).2 = goal) : SwI G0 f ad b h ko c sl am sts rs goal (as.map .ref) (ssL f ad b h ko x y z) G'
inductive SwJ (G0 G' : Gh) (f ad b h ko c a : Addr) (sl : Slots) (am : AddrM) (x y : Option Val) (p : PS) (rs : List Val) (done ks : List Addr) (k : Nat) (kq : List (PS × Bool)) : M → Gh → Prop where
  | mk {a' : Addr} {p' : PS} {nw : Bool} {kb : Nat} {Gb : Gh} (hk : KAt G0 Gb a' p') (hp : p'.args = p.args) (hs : SetAt Gb h kb) (x1 : Ext1 h G' Gb) (ik : InstK G' Gb) (hr : RelK G0 (a :: done) (a' :: ks) ((p', nw) :: kq)) (hg : sweptStep sl am (k, kq) p = (addA kb p.args, (p', nw) :: kq)) : SwJ G0 G' f ad b h ko c a sl am x y p rs done ks k kq (ssL f ad b h ko x y (some (.ref a'))) Gb
theorem sp_swept_steps {f ad b h eo : Addr} {pr : List Int} {sl : Slots} {bls : List Addr} {am : AddrM} {num : Int} {sts : List Addr} {ps : List PS} {pe : PS} {k : Nat} {Q : QE} (T : Tops X) (hf : FuncAt G f pr sl bls) (ha : G ad = some (.dict (adE am))) (hok : AdOK am sl)
    (hb : BlockAt G b num sts eo) (hst : StepsAt G sts ps) (hwf : ∀ p ∈ ps, StepWf p) (hlen : sts.length < 1000) (hend : StepAt G eo pe) (hew : OpOK pe.args) (hs : SetAt G h k)
    (kk : ∀ c ks G', G c = none → Ext1 h G G' → G' c = some (.list (ks.map .ref)) → RelK G sts ks (sweptP sl am ps pe.args k) → KsAt G G' ks (sweptP sl am ps pe.args k) → ks.length ≤ sts.length → Q (.ref c) G') : Cal X (n + 4) a_swept_steps [.ref f, .ref ad, .ref b, .ref h] G Q := by
  obtain ⟨fs, st, h1, ⟨b1, b2, b3⟩, h2⟩ := id hb
  obtain ⟨⟨es, la, h3, ⟨e1, e2, e3, e4, e5, _⟩, h4⟩, ho⟩ := id hend
  refine' Cal.start (os := ?os) T.d_swept_steps ?q ?b; case q => walk_at "r"
  case b =>
  refine add_loop (fun x y => [some (.ref f), some (.ref ad), some (.ref b), some (.ref h), x, y, none, none, none, none, none]) rfl (fun _ _ _ => by walk_at "r") (fun _ _ _ => by walk_at "r") (fun _ _ => by walk_at "r") (fun _ _ => by walk_at "r") (fun _ _ => by walk_at "r") (by walk_at "r") h4 hs hew fun x y G1 hs1 x1 => ?_
  refine SnB.assignQ (Sn.listR .nil fun ko hko => ⟨_, by walk_at "r", ?_⟩)
  have y1 := Ext.new (o := .list []) hko
  have nk : ∀ {z : Addr} {o : GObj}, G1 z = some o → z ≠ ko := fun e q => by rw [q, hko] at e; cases e
  have nh : ∀ {z : Addr}, G1 z = none → z ≠ h := fun e q => by obtain ⟨_, q'⟩ := hs1; rw [q, q'] at e; cases e
  have kh := nh hko
  have hk2 := Gh.upd_same G1 ko (.list [])
  generalize G1.upd ko (.list []) = G2 at *
  have h1' := y1 _ _ (keep1 hs x1 h1 rfl)
  have h2' := y1 _ _ (keep1 hs x1 h2 rfl)
  refine SnB.forQ (Sn.rev (Rd.to (v := .ref st) (by walk_at "r") ⟨st, sts.map .ref, rfl, h2', fun c hc => ?_⟩))
  have y2 := Ext.new (o := .list (sts.map .ref).reverse) hc
  have hcc := Gh.upd_same G2 c (.list (sts.map .ref).reverse)
  generalize hrs : (sts.map Val.ref).reverse = rs at *
  have hrs' : rs = sts.reverse.map .ref := by rw [← hrs, List.map_reverse]
  have ckn : c ≠ ko := fun q => by rw [← q, hc] at hk2; cases hk2
  have ch : c ≠ h := fun q => by obtain ⟨_, q'⟩ := hs1; rw [q, y1 _ _ q'] at hc; cases hc
  have hko' := y2 _ _ hk2
  generalize G2.upd c (.list rs) = G3 at *
  have x3 : Ext1 h G G3 := x1.trans (y1.trans y2).one
  have hs3 : SetAt G3 h (addA k pe.args) := by obtain ⟨f, q⟩ := hs1; exact ⟨f, y2 _ _ (y1 _ _ q)⟩
  have gk : ∀ {z : Addr} {o : GObj}, G z = some o → z ≠ ko := fun {z o} e q => by
    by_cases zh : z = h
    · exact kh (q.symm.trans zh)
    · exact nk (x1 _ _ zh e) q
  refine ⟨c, rs, SwI G f ad b h ko c sl am sts rs (sweptP sl am ps pe.args k), rfl, hcc, ⟨?_, ?_⟩, ?_⟩
  · intro v xs m G' hI
    generalize hvx : v :: xs = vx at hI
    cases hI with | @mk x y z as done ks qs k' kq _ hsa hw hs' x' hc' hd hko' hrel hka hlk hg =>
    cases hsa with
    | nil => cases hvx
    | @cons a p as qs hp hsa =>
    obtain ⟨rfl, rfl⟩ := List.cons.inj hvx
    refine ⟨hc', _, .name (Upd.put (os' := [some (.ref f), some (.ref ad), some (.ref b), some (.ref h), x, y, some (.ref ko), some (.ref a), none, none, none]) (by walk_at "r")), ?_⟩
    have hp' := hp.k1 hs x'
    obtain ⟨⟨fp, lp, p1, pis, p2⟩, po⟩ := id hp'
    obtain ⟨⟨fp0, lp0, p10, pis0, p20⟩, _⟩ := id hp
    obtain ⟨q1, q2, q3, q4, q5, _⟩ := id pis
    have hwp := hw p (.head _)
    have hw' : ∀ p ∈ qs, StepWf p := fun p hp => hw p (.tail _ hp)
    have hd' : as.reverse ++ (a :: done) = sts := by rw [← hd, List.reverse_cons, List.append_assoc]; rfl
    obtain ⟨fl, hs''⟩ := id hs'
    have skip : sweptStep sl am (k', kq) p = (k', kq) → SwI G f ad b h ko c sl am sts rs (sweptP sl am ps pe.args k) (as.map .ref) (ssL f ad b h ko x y (some (.ref a))) G' := fun e =>
      .mk hsa hw' hs' x' hc' hd' hko' (.skip hrel) hka (Nat.le_succ_of_le hlk) (by rw [← hg, List.foldl_cons, e])
    have same : ∀ {Gb : Gh} {kb : Nat}, SetAt Gb h kb → Ext1 h G' Gb → sweptStep sl am (k', kq) p = (addA kb p.args, (p, false) :: kq) → SwJ G G' f ad b h ko c a sl am x y p rs done ks k' kq (ssL f ad b h ko x y (some (.ref a))) Gb := fun s1 s2 s3 =>
      .mk ⟨⟨fp0, lp0, keep1 hs (x'.trans s2) p10 rfl, pis0, p20⟩, po⟩ rfl s1 s2 (s2.inst hs') (.same hrel) s3
    refine SnB.ifsM (r := maskS k' p.dst) (SwJ G G' f ad b h ko c a sl am x y p rs done ks k' kq) (.cmp (by walk_at "r") (by walk_at "r") (.inSet hs'' ⟨rfl, rfl⟩)) (fun e => ?_) (fun e => ?_) fun mb Gb hJ => ?_
    · -- it is needed
      have disc : isSelfCopy p = false → SwJ G G' f ad b h ko c a sl am x y p rs done ks k' kq (ssL f ad b h ko x y (some (.ref a))) (G'.upd h (.set (fun j => maskS k' j && !decide (j = p.dst)) false)) := fun e2 =>
        same ⟨false, by rw [Gh.upd_same, maskS_clr (mask_nonneg e) e]⟩ .upd ((if_pos e).trans (if_neg (by rw [e2]; decide)))
      refine SnB.ifs (r := isSelfCopy p) ?_ (fun e2 => SnB.cont (.cont (.cont (.cont (skip ((if_pos e).trans (if_pos e2))))))) fun e2 => .nil (.next ?_)
      · cases hop : Nat.beq p.op 10 with
        | false =>
          have e0 : isSelfCopy p = (Nat.beq p.op 10 && false) := by unfold isSelfCopy; rw [hop]; rfl
          rw [e0, ← op_copy p.op po]
          exact .and (.cmp (by walk_at "r") (by walk_at "r") (.eqS ⟨rfl, rfl⟩)) fun q => by rw [op_copy p.op po, hop] at q; cases q
        | true =>
          obtain ⟨o, ho'⟩ : ∃ o, p.args[0]? = some o := ⟨_, List.getElem?_eq_getElem (hwp.copy (Nat.eq_of_beq_eq_true hop))⟩
          have e0 : isSelfCopy p = (Nat.beq p.op 10 && (rk o.1 == Str.ofString "r" && (o.2 == p.dst && true))) := by unfold isSelfCopy; rw [ho', rk_r, Bool.and_true]
          rw [e0, ← op_copy p.op po]
          refine .and (.cmp (by walk_at "r") (by walk_at "r") (.eqS ⟨rfl, rfl⟩)) fun q => .and1 (.cmp (v := opdV o) (w := .tup [.str "r", .int p.dst]) (.idxL (by walk_at "r") p2 .int (by decide) (seqAt_map ho')) (by walk_at "r") (Op2.eq (.tup' (.cons (.str (by cases o.1 <;> decide +kernel)) (.cons (.int _) .nil))) (.tup' (.cons (.str (by decide +kernel)) (.cons (.int _) .nil))) ⟨rfl, rfl⟩))
      · exact SnB.expr (Sn.meth .discard (fun _ _ => rfl) (Rd.to (v := .ref h) (by walk_at "r") ⟨.set hs'', Rds.to (vs := [.int p.dst]) (by walk_at "r") (Meth.discard hs'' (.nil (.next (disc e2))))⟩))
    · have eN : sweptStep sl am (k', kq) p = if isFreeP sl am p then (k', kq) else if decide (p.dst ≥ 0) && isCall p.op then (addA k' p.args, (⟨p.op, -1, p.args, p.more, false⟩, true) :: kq) else (addA k' p.args, (p, false) :: kq) := if_neg (by rw [e]; decide)
      refine SnB.ifs (r := isFreeP sl am p) (.val (.ref T.f_is_free ?_ ?_ (vs := [.ref f, .ref ad, .ref a]) ?_ (sp_is_free T (hf.k1 hs x') (keep1 hs x' ha rfl) hok hp' hwp ⟨rfl, rfl⟩)) (.bool _)) (fun e' => SnB.cont (.cont (.cont (.cont (skip (eN.trans (if_pos e'))))))) fun e' => ?_
      · walk_at "r"
      · intro _ _; rfl
      · walk_at "r"
      refine SnB.ifs (r := decide (p.dst ≥ 0) && isCall p.op) ?_ (fun e2 => ?_) fun e2 => .nil (.next (.nil (.next (.nil (.next (same hs' .refl (by rw [eN, if_neg (by rw [e']; decide), if_neg (by rw [e2]; decide)])))))))
      · rw [← op_call p.op po]
        exact .and (.cmp (by walk_at "r") (by walk_at "r") (.ge ⟨rfl, rfl⟩)) fun _ => .and1 (.inG T.g_CALLS (by walk_at "r") (by walk_at "r"))
      · refine SnB.assignQ (Sn.ref T.f_without_register (by walk_at "r") (fun _ _ => rfl) (vs := [.ref a]) (by walk_at "r") (sp_without T p1 pis p2 po fun c' gs hc' hg' => ⟨_, by walk_at "r", .nil (.next (.nil (.next (.nil (.next ?_)))))⟩))
        have hG0 : G c' = none := by
          cases q : G c' with
          | none => rfl
          | some o =>
            have ne : c' ≠ h := fun z => by rw [z, hs''] at hc'; cases hc'
            rw [x' _ _ ne q] at hc'; cases hc'
        have lpe : lp = lp0 := by
          have := keep1 hs x' p10 rfl
          rw [p1] at this; cases this
          have q := pis0.args; rw [q3] at q; cases q; rfl
        subst lpe
        exact .mk ⟨⟨gs, lp, Gh.upd_same .., hg', p20⟩, po⟩ rfl (by obtain ⟨f, q⟩ := hs'; exact ⟨f, Ext.new hc' _ _ q⟩) (Ext.new hc').one (Ext.new hc').inst (.new hG0 hrel) (by rw [eN, if_neg (by rw [e']; decide), if_pos e2])
    · cases hJ with | @mk a' p' nw kb _ hk1 hp1 s1 s2 s3 s4 s5 =>
      obtain ⟨⟨fk, lk, k1, ⟨m1, m2, m3, m4, m5, _⟩, k2⟩, k3⟩ := id hk1
      rw [hp1] at k2
      have k2' := keep1 hs (x'.trans s2) k2 rfl
      refine add_loop (fun x y => [some (.ref f), some (.ref ad), some (.ref b), some (.ref h), x, y, some (.ref ko), some (.ref a'), none, none, none]) rfl (fun _ _ _ => by walk_at "r") (fun _ _ _ => by walk_at "r") (fun _ _ => by walk_at "r") (fun _ _ => by walk_at "r") (fun _ _ => by walk_at "r") (by walk_at "r") k2' s1 hwp.regs fun x y G4 hs4 x4 => ?_
      have hko4 := x4 _ _ kh (s2 _ _ kh hko')
      have hc4 := x4 _ _ ch (s2 _ _ ch hc')
      have lens := congrArg List.length hd
      rw [List.length_append, List.length_reverse, List.length_cons] at lens
      refine SnB.expr (Sn.meth .append (fun _ _ => rfl) (Rd.to (v := .ref ko) (by walk_at "r") ⟨.list hko4, Rds.to (vs := [.ref a']) (by walk_at "r") (Meth.append hko4 (by rw [List.length_map, List.length_reverse]; unfold cap; omega) (.nil (.next ?_)))⟩))
      have iu : InstK G4 (G4.upd ko (.list (ks.reverse.map .ref ++ [.ref a']))) := .upd hko4 rfl
      have i4 := x4.inst s1
      have hall : KsAt G (G4.upd ko (.list (ks.reverse.map .ref ++ [.ref a']))) (a' :: ks) ((p', nw) :: kq) := KsAt.keep (.cons hk1 (hka.keep s3)) (i4.trans iu)
      refine .mk hsa hw' (by obtain ⟨f, q⟩ := hs4; exact ⟨f, (Gh.upd_ne _ _ (Ne.symm kh)).trans q⟩) (fun z o zh e => (Gh.upd_ne _ _ (gk e)).trans (x4 _ _ zh (s2 _ _ zh (x' _ _ zh e)))) ((Gh.upd_ne _ _ ckn).trans hc4) hd' (by rw [Gh.upd_same, List.reverse_cons, List.map_append]; rfl) s4 hall (Nat.succ_le_succ hlk) ?_
      rw [← hg, List.foldl_cons, s5]
  · intro m G' hI
    generalize hvx : ([] : List Val) = vx at hI
    cases hI with | @mk x y z as done ks qs k' kq _ hsa hw hs' x' hc' hd hko' hrel hka hlk hg =>
    cases hsa with
    | cons _ _ => cases hvx
    | nil =>
      refine ⟨hc', .next (SnB.retB (Sn.rev (Rd.to (v := .ref ko) (by walk_at "r") ⟨ko, ks.reverse.map .ref, rfl, hko', fun c' hc'' => ?_⟩)))⟩
      have hd2 : done = sts := hd
      subst hd2
      have hg2 : kq = sweptP sl am ps pe.args k := hg
      subst hg2
      have hn : G c' = none := by
        cases q : G c' with
        | none => rfl
        | some o =>
          have ne : c' ≠ h := fun z => by obtain ⟨_, e⟩ := hs'; rw [z, e] at hc''; cases hc''
          rw [x' _ _ ne q] at hc''; cases hc''
      have y := Ext.new (o := .list (ks.reverse.map Val.ref).reverse) hc''
      refine kk c' ks _ hn (x'.trans y.one) ?_ hrel (hka.keep y.inst) hlk
      rw [Gh.upd_same, List.map_reverse, List.reverse_reverse]
  · subst hrs'
    exact .mk (done := []) (ks := []) hst.reverse (fun p hp => hwf p (List.mem_reverse.mp hp)) hs3 x3 hcc (by rw [List.reverse_reverse, List.append_nil]) hko' .nil .nil (Nat.le_refl _) rfl
end
noncomputable section
variable {X : Cx} {n : Nat} {G : Gh} {sc : Scope} {os : List (Option Val)} {m : M}
theorem Bnd.weak {loc : Bool} {tgt : PySem.Expr} {v : Val} {m1 m2 m' : M} (h : Bnd X loc sc tgt v m1 m') (k : ∀ x v, m1 x v → m2 x v) : Bnd X loc sc tgt v m2 m' := ⟨fun he hh hl hr hf hv => h.go he hh hl hr (hf.weak k) hv⟩
theorem CompW.cap {sc' scope : Scope} {tgt elt : PySem.Expr} {ifs : List PySem.Expr} {gd : Gh → Prop} {Q : QE} {I : List Val → List Val → Gh → Prop} (os0 : List (Option Val)) (h : CompW X n sc' tgt elt ifs (L sc' os0) gd Q I) (hm : ∀ y w, Loc sc'.names os0 y w → capM sc scope m y w) (e : relS sc scope = sc' := by rfl) : CompW X n (relS sc scope) tgt elt ifs (capM sc scope m) gd Q I :=
  ⟨fun x xs acc G hI => by
    obtain ⟨h1, m', h2, h3⟩ := h.turn x xs acc G hI
    rw [e]
    exact ⟨h1, m', h2.weak hm, h3⟩, h.stop⟩
structure PB where
  steps : List PS
  fin : PS
  ways : List Int
inductive BlksAt (G : Gh) : Int → List Addr → List PB → Prop where
  | nil {n : Int} : BlksAt G n [] []
  | cons {n : Int} {b eo : Addr} {sts bs : List Addr} {B : PB} {Bs : List PB} : BlockAt G b n sts eo → StepsAt G sts B.steps → StepAt G eo B.fin → EndAt G B.fin B.ways → BlksAt G (n + 1) bs Bs → BlksAt G n (b :: bs) (B :: Bs)
theorem BlksAt.ext {G' : Gh} (x : Ext G G') {n : Int} {bs : List Addr} {Bs : List PB} (h : BlksAt G n bs Bs) : BlksAt G' n bs Bs := by
  induction h with
  | nil => exact .nil
  | cons a b c d _ ih => exact .cons (a.ext x) (b.ext x) (c.ext x) (d.ext x) ih
theorem BlksAt.length {n : Int} {bs : List Addr} {Bs : List PB} (h : BlksAt G n bs Bs) : bs.length = Bs.length := by
  induction h with
  | nil => rfl
  | cons _ _ _ _ _ ih => exact congrArg (· + 1) ih
inductive BlkAt (G : Gh) (b : Addr) (i : Int) (B : PB) : Prop where
  | mk (sts : List Addr) (eo : Addr) (h1 : BlockAt G b i sts eo) (h2 : StepsAt G sts B.steps) (h3 : StepAt G eo B.fin) (h4 : EndAt G B.fin B.ways)
theorem BlksAt.get {n : Int} {bs : List Addr} {Bs : List PB} (h : BlksAt G n bs Bs) : ∀ {j : Nat} {B : PB}, Bs[j]? = some B → ∃ b, bs[j]? = some b ∧ BlkAt G b (n + j) B := by
  induction h with
  | nil => intro j B e; cases e
  | @cons n _ _ _ _ _ _ a b c d _ ih =>
    intro j B e
    cases j with
    | zero => cases e; exact ⟨_, rfl, ⟨_, _, (Int.add_zero n).symm ▸ a, b, c, d⟩⟩
    | succ j =>
      obtain ⟨x, h1, h2⟩ := ih (j := j) e
      exact ⟨x, h1, by rw [show n + ((j + 1 : Nat) : Int) = n + 1 + (j : Int) by omega]; exact h2⟩
structure BOK (N : Nat) (B : PB) : Prop where
  len : B.steps.length ≤ 900
  wf : ∀ p ∈ B.steps, StepWf p
  ends : OpOK B.fin.args
  ways : B.ways.length ≤ 4
  goals : ∀ j ∈ B.ways, 0 ≤ j ∧ j.toNat < N
structure FnOK (Bs : List PB) : Prop where
  one : 0 < Bs.length
  few : Bs.length ≤ 16
  blks : ∀ B ∈ Bs, BOK Bs.length B
inductive LsAt (G0 G : Gh) : List Addr → List (List Int) → Prop where
  | nil : LsAt G0 G [] []
  | cons {a : Addr} {l : List Int} {as : List Addr} {L : List (List Int)} : a ∉ as → G0 a = none → G a = some (.list (l.map .int)) → LsAt G0 G as L → LsAt G0 G (a :: as) (l :: L)
section
variable {G0 G' : Gh} {as : List Addr} {L : List (List Int)}
theorem LsAt.ext (h : LsAt G0 G as L) (x : Ext G G') : LsAt G0 G' as L := by
  induction h with
  | nil => exact .nil
  | cons a b c _ ih => exact .cons a b (x _ _ c) ih
theorem LsAt.off {z : Addr} (h : LsAt G0 G as L) (x : Ext1 z G G') : z ∉ as → LsAt G0 G' as L := by
  induction h with
  | nil => exact fun _ => .nil
  | cons a b c _ ih => exact fun hz => .cons a b (x _ _ (fun q => hz (q ▸ .head _)) c) (ih fun q => hz (.tail _ q))
theorem LsAt.length (h : LsAt G0 G as L) : as.length = L.length := by
  induction h with
  | nil => rfl
  | cons _ _ _ _ ih => exact congrArg (· + 1) ih
theorem LsAt.get (h : LsAt G0 G as L) : ∀ {j : Nat} {l : List Int}, L[j]? = some l → ∃ a, as[j]? = some a ∧ G a = some (.list (l.map .int)) ∧ a ∈ as := by
  induction h with
  | nil => intro j l e; cases e
  | cons a b c _ ih =>
    intro j l e
    cases j with
    | zero => cases e; exact ⟨_, rfl, c, .head _⟩
    | succ j =>
      obtain ⟨x, h1, h2, h3⟩ := ih (j := j) e
      exact ⟨x, h1, h2, .tail _ h3⟩
theorem LsAt.set {a : Addr} {l : List Int} (h : LsAt G0 G as L) : ∀ {j : Nat}, as[j]? = some a → LsAt G0 (G.upd a (.list (l.map .int))) as (L.set j l) := by
  induction h with
  | nil => intro j e; cases e
  | cons n b c r ih =>
    intro j e
    cases j with
    | zero => cases e; exact .cons n b (Gh.upd_same ..) (r.off .upd n)
    | succ j =>
      have e' := List.mem_of_getElem? (show _ = some a from e)
      exact .cons n b ((Gh.upd_ne _ _ fun q => n (by rw [q]; exact List.mem_of_getElem? (i := j) e)).trans c) (ih (j := j) e)
theorem LsAt.mem (h : LsAt G0 G as L) {a : Addr} (m : a ∈ as) : (G a).isSome = true ∧ G0 a = none := by
  induction h with
  | nil => cases m
  | cons n b c _ ih =>
    rcases List.mem_cons.mp m with q | q
    · rw [q, c]; exact ⟨rfl, b⟩
    · exact ih q
theorem LsAt.new {a : Addr} (h : LsAt G0 G as L) (e : G a = none) : a ∉ as := fun q => by have := (h.mem q).1; rw [e] at this; cases this
theorem LsAt.snoc {c : Addr} {l : List Int} (h : LsAt G0 G as L) (h0 : G0 c = none) (hc : G c = some (.list (l.map .int))) : c ∉ as → LsAt G0 G (as ++ [c]) (L ++ [l]) := by
  induction h with
  | nil => exact fun _ => .cons (by intro q; cases q) h0 hc .nil
  | cons n a b _ ih => exact fun hn => .cons (fun q => by
      rcases List.mem_append.mp q with q | q
      · exact n q
      · rw [List.mem_singleton] at q; exact hn (q ▸ .head _)) a b (ih fun q => hn (.tail _ q))
end
theorem rd_int (k : Nat) (i : Int) : RD G k (.int i) (.int i) := .int i
theorem any_ints (i : Int) (ns : List Int) : ((ns.map PyData.int).any fun e => e.eqv (.int i)) = ns.any (· == i) := by rw [List.any_map]; rfl
theorem Op2.notinL {a : Addr} {ns : List Int} {i : Int} (h : G a = some (.list (ns.map .int))) : O2 X n (compareOp .NotIn) (.int i) (.ref a) G (.bool (!ns.any (· == i))) :=
  any_ints i ns ▸ Op2.notinD (rd_int _ _) (.inr (.list' h (.map _ _ _ fun x _ => rd_int _ x))) ⟨rfl, rfl⟩
noncomputable def predStep (i : Int) (L : List (List Int)) (j : Int) : List (List Int) := if (L.getD j.toNat []).any (· == i) then L else L.set j.toNat (L.getD j.toNat [] ++ [i])
noncomputable def predsFrom (i : Int) : List PB → List (List Int) → List (List Int)
  | [], L => L
  | B :: Bs, L => predsFrom (i + 1) Bs (B.ways.foldl (predStep i) L)
noncomputable def predsP (Bs : List PB) : List (List Int) := predsFrom 0 Bs (Bs.map fun _ => [])
theorem predStep_each {i j : Int} {L : List (List Int)} {n : Nat} (h : ∀ l ∈ L, l.length ≤ n) : ∀ l ∈ predStep i L j, l.length ≤ n + 1 := by
  intro l hl
  unfold predStep at hl
  split at hl
  · have := h l hl; omega
  · rcases List.mem_or_eq_of_mem_set hl with q | q
    · have := h l q; omega
    · rw [q, List.length_append, List.length_cons, List.length_nil]
      rw [List.getD_eq_getElem?_getD]
      cases e : L[j.toNat]? with
      | none => exact Nat.succ_le_succ (Nat.zero_le _)
      | some y => exact Nat.succ_le_succ (h y (List.mem_of_getElem? e))
noncomputable abbrev prL (f pr : Addr) (b i : Option Val) : M := L sc_preds [some (.ref f), b, some (.ref pr), i, none]
inductive Pr1 (G0 : Gh) (f pr b la : Addr) (las : List Addr) (i : Int) (rs : List Val) (K : Nat) (goal : List (List Int)) : List Val → M → Gh → Prop where
  | mk {x : Option Val} {js : List Int} {L : List (List Int)} {G' : Gh} (hL : LsAt G0 G' las L) (hp : G' pr = some (.list (las.map .ref))) (hl : G' la = some (.list rs)) (x0 : Ext G0 G') (hj : ∀ j ∈ js, 0 ≤ j ∧ j.toNat < las.length) (hc : ∀ l ∈ L, l.length + js.length ≤ K) (hg : js.foldl (predStep i) L = goal) : Pr1 G0 f pr b la las i rs K goal (js.map .int) (prL f pr (some (.ref b)) x) G'
inductive Pr2 (G0 : Gh) (f pr : Addr) (las : List Addr) (N : Nat) (goal : List (List Int)) : List Val → M → Gh → Prop where
  | mk {x y : Option Val} {i : Int} {bs : List Addr} {Bs : List PB} {L : List (List Int)} {G' : Gh} (hB : BlksAt G0 i bs Bs) (hw : ∀ B ∈ Bs, BOK N B) (hL : LsAt G0 G' las L) (hp : G' pr = some (.list (las.map .ref))) (x0 : Ext G0 G') (hc : ∀ l ∈ L, l.length + 4 * Bs.length ≤ 100) (hg : predsFrom i Bs L = goal) : Pr2 G0 f pr las N goal (bs.map .ref) (prL f pr x y) G'
inductive Pr3 (G0 : Gh) (N : Nat) : List Val → List Val → Gh → Prop where
  | mk {bs las : List Addr} {k : Nat} {G' : Gh} (hL : LsAt G0 G' las (List.replicate k [])) (x0 : Ext G0 G') (hk : k + bs.length = N) : Pr3 G0 N (bs.map .ref) (las.map .ref) G'
theorem nils_eq {α : Type} (l : List α) : (l.map fun _ => ([] : List Int)) = List.replicate l.length [] := List.map_const' ..
theorem natAbs_of {j : Int} {k : Nat} (h : 0 ≤ j) (h' : j.toNat < k) : j.natAbs < k := by obtain ⟨n, rfl⟩ := Int.eq_ofNat_of_zero_le h; exact h'
theorem sp_preds {f : Addr} {pa : List Int} {sl : Slots} {bls : List Addr} {Bs : List PB} {Q : QE} (T : Tops X) (hf : FuncAt G f pa sl bls) (hB : BlksAt G 0 bls Bs) (ok : FnOK Bs)
    (kk : ∀ r las G', Ext G G' → LsAt G G' las (predsP Bs) → G' r = some (.list (las.map .ref)) → r ∉ las → G r = none → Q (.ref r) G') : Cal X (n + 2) a_preds [.ref f] G Q := by
  obtain ⟨ff, p, s, b, h1, ⟨g1, g2, g3⟩, h2, h3, h4⟩ := id hf
  have hlen := hB.length
  have hfew := ok.few
  refine' Cal.start (os := ?os) T.d_preds ?q ?b; case q => walk_at "r"
  case b =>
  refine .cons (SnS.assignComp (by decide +kernel) (.seq (Rd.to (v := .ref b) (by walk_at "r") ⟨_, _, .list h4, by rw [List.length_map]; unfold cap; omega, Pr3 G Bs.length, .cap (sc' := sc_preds_c1) [none, none] ⟨?_, ?_⟩ (fun y w h => by cases h with | s h => cases h with | s h => cases h), .mk (las := []) (k := 0) .nil .refl (by omega)⟩)))
  · intro v xs acc G' hI
    generalize hvx : v :: xs = vx at hI
    cases hI with | @mk bs las k _ hL x0 hk =>
    cases bs with
    | nil => cases hvx
    | cons b' bs =>
    obtain ⟨rfl, rfl⟩ := List.cons.inj hvx
    refine ⟨x0 _ _ h4, _, Upd.bnd (os := [none, none]) (os' := [none, some (.ref b')]) (by walk_at "r"), .nil ⟨fun _ => ?_, fun q => nomatch q⟩⟩
    refine Sn.listR .nil fun c hc => ?_
    have y := Ext.new (o := .list []) hc
    have e2 : las.map Val.ref ++ [.ref c] = (las ++ [c]).map .ref := by rw [List.map_append]; rfl
    have h0 : G c = none := by
      cases q : G c with
      | none => rfl
      | some o => rw [x0 _ _ q] at hc; cases hc
    rw [e2]
    refine .mk (k := k + 1) (by rw [List.replicate_succ']; exact (hL.ext y).snoc h0 (Gh.upd_same ..) (hL.new hc)) (x0.trans y) (by rw [← hk, List.length_cons]; omega)
  · intro acc G' hI
    generalize hvx : ([] : List Val) = vx at hI
    cases hI with | @mk bs las k _ hL x0 hk =>
    cases bs with
    | cons _ _ => cases hvx
    | nil =>
    refine ⟨x0 _ _ h4, fun pr hpr => ⟨_, Upd.put (os' := [some (.ref f), none, some (.ref pr), none, none]) (by walk_at "r"), .next ?_⟩⟩
    have y := Ext.new (o := .list (las.map .ref)) hpr
    have hp := Gh.upd_same G' pr (.list (las.map .ref))
    have hpl := hL.new hpr
    have hL' := hL.ext y
    have h0 : G pr = none := by
      cases q : G pr with
      | none => rfl
      | some o => rw [x0 _ _ q] at hpr; cases hpr
    have x1 := x0.trans y
    generalize G'.upd pr (.list (las.map .ref)) = G1 at *
    have hll := hL'.length
    rw [List.length_replicate] at hll
    have hk' : k = Bs.length := hk
    subst hk'
    have h1' := x1 _ _ h1
    refine SnB.forL (a := b) (xs := bls.map .ref) (by walk_at "r") (x1 _ _ h4) (Pr2 G f pr las Bs.length (predsP Bs)) ⟨?_, ?_⟩ (.mk hB ok.blks hL' hp x1 (fun l hl => by rw [List.eq_of_mem_replicate hl]; show 0 + _ ≤ _; omega) (by rw [← nils_eq]; rfl))
    · intro v xs m G2 hI
      generalize hvx : v :: xs = vx at hI
      cases hI with | @mk x y i bs Bs' L _ hB hw hL2 hp x2 hc hg =>
      cases hB with
      | nil => cases hvx
      | @cons _ b' eo sts bs B Bs' ha hs he hj hB =>
      obtain ⟨rfl, rfl⟩ := List.cons.inj hvx
      refine ⟨x2 _ _ h4, _, .name (Upd.put (os' := [some (.ref f), some (.ref b'), some (.ref pr), y, none]) (by walk_at "r")), ?_⟩
      have hwB := hw B (.head _)
      refine SnB.forQ (Sn.ref T.f_followers (by walk_at "r") (fun _ _ => rfl) (vs := [.ref b']) (by walk_at "r") (sp_followers T (ha.ext x2) (he.ext x2) (hj.ext x2) fun la G3 hla x3 h5 => ?_))
      have hln := hL2.new hla
      refine ⟨la, _, Pr1 G f pr b' la las i (B.ways.map .int) (100 - 4 * Bs'.length) (B.ways.foldl (predStep i) L), rfl, h5, ⟨?_, ?_⟩, .mk (hL2.ext x3) (x3 _ _ hp) h5 (x2.trans x3) (by rw [hll]; exact hwB.goals) (fun l hl => by have h8 := hc l hl; have h9 := hwB.ways; rw [List.length_cons] at h8; omega) rfl⟩
      · intro v xs m G4 hI
        generalize hvx : v :: xs = vx at hI
        cases hI with | @mk x js L' _ hL4 hp4 hl4 x4 hj4 hc4 hg4 =>
        cases js with
        | nil => cases hvx
        | cons j js =>
        obtain ⟨rfl, rfl⟩ := List.cons.inj hvx
        refine ⟨hl4, _, .name (Upd.put (os' := [some (.ref f), some (.ref b'), some (.ref pr), some (.int j), none]) (by walk_at "r")), ?_⟩
        obtain ⟨j0, j1⟩ := hj4 j (.head _)
        have j1' := j1
        rw [hL4.length] at j1'
        have gd : L'[j.toNat]? = some (L'.getD j.toNat []) := by rw [List.getD_eq_getElem?_getD, List.getElem?_eq_getElem j1']; rfl
        obtain ⟨a, a1, a2, a3⟩ := hL4.get gd
        have hsq : seqAt (las.map Val.ref) j = some (.ref a) := by unfold seqAt; rw [if_pos j0, List.getElem?_map, a1]; rfl
        have hjc : j.natAbs < cap := natAbs_of j0 (Nat.lt_of_lt_of_le j1 (by rw [hll]; exact Nat.le_trans hfew (by decide)))
        have hlj := hc4 _ (List.mem_of_getElem? gd)
        obtain ⟨fb, st, b1, ⟨b2, b3, b4⟩, b5⟩ := (ha.ext x4)
        have hcc : ∀ l ∈ predStep i L' j, l.length + js.length ≤ 100 - 4 * Bs'.length := fun l hl => by
          have := predStep_each (n := 100 - 4 * Bs'.length - (js.length + 1)) (fun l hl => by have := hc4 l hl; rw [List.length_cons] at this; omega) l hl
          rw [List.length_cons] at hlj
          omega
        refine SnB.ifs (r := !(L'.getD j.toNat []).any (· == i)) (.cmp (by walk_at "r") (.idxL (by walk_at "r") hp4 (by walk_at "r") hjc hsq) (.notinL a2)) (fun e => ?_) fun e => .nil (.next (.nil (.next (.mk hL4 hp4 hl4 x4 (fun k hk => hj4 k (.tail _ hk)) ?_ ?_))))
        · refine SnB.expr (Sn.meth .append (fun _ _ => rfl) (Rd.to (v := .ref a) (.idxL (by walk_at "r") hp4 (by walk_at "r") hjc hsq) ⟨.list a2, Rds.to (vs := [.int i]) (by walk_at "r") (Meth.append a2 (by rw [List.length_map]; unfold cap; omega) (.nil (.next (.nil (.next ?_)))))⟩))
          have eu : predStep i L' j = L'.set j.toNat (L'.getD j.toNat [] ++ [i]) := if_neg (by rw [Bool.not_eq_true'] at e; rw [e]; decide)
          have hnew := hL4.mem a3
          refine .mk (L := predStep i L' j) (by rw [eu, show (L'.getD j.toNat []).map Val.int ++ [Val.int i] = (L'.getD j.toNat [] ++ [i]).map .int by rw [List.map_append]; rfl]; exact hL4.set a1) ((Gh.upd_ne _ _ fun q => hpl (by rw [q]; exact a3)).trans hp4) ((Gh.upd_ne _ _ fun q => hln (by rw [q]; exact a3)).trans hl4) (fun z o e => (Gh.upd_ne _ _ fun q => by rw [q, hnew.2] at e; cases e).trans (x4 _ _ e)) (fun k hk => hj4 k (.tail _ hk)) hcc hg4
        · have eu : predStep i L' j = L' := if_pos (by rw [Bool.not_eq_false'] at e; exact e)
          rw [eu] at hcc; exact hcc
        · have eu : predStep i L' j = L' := if_pos (by rw [Bool.not_eq_false'] at e; exact e)
          rw [List.foldl_cons, eu] at hg4; exact hg4
      · intro m G4 hI
        generalize hvx : ([] : List Val) = vx at hI
        cases hI with | @mk x js L' _ hL4 hp4 hl4 x4 hj4 hc4 hg4 =>
        cases js with
        | cons _ _ => cases hvx
        | nil =>
          have h9 : L = [] ∨ 4 * Bs'.length ≤ 96 := by
            cases hnl : L with
            | nil => exact .inl rfl
            | cons l0 _ => have := hc l0 (by rw [hnl]; exact .head _); rw [List.length_cons] at this; exact .inr (by omega)
          have h9' : 4 * Bs'.length ≤ 96 := by
            rcases h9 with q | q
            · rw [q] at hL2; have := hL2.length; rw [hll] at this; have hz := ok.one; rw [this] at hz; cases hz
            · exact q
          have hg4' : B.ways.foldl (predStep i) L = L' := hg4.symm
          exact ⟨hl4, .next (.nil (.next (.mk hB (fun B h => hw B (.tail _ h)) hL4 hp4 x4 (fun l hl => by have h8 := hc4 l hl; rw [List.length_nil] at h8; omega) (by rw [← hg, ← hg4']; rfl))))⟩
    · intro m G2 hI
      generalize hvx : ([] : List Val) = vx at hI
      cases hI with | @mk x y i bs Bs' L _ hB hw hL2 hp x2 hc hg =>
      cases hB with
      | cons _ _ _ _ _ => cases hvx
      | nil => exact ⟨x2 _ _ h4, .next (SnB.retB (Rd.to (v := .ref pr) (by walk_at "r") (kk pr las G2 x2 (by rw [← hg]; exact hL2) hp hpl h0)))⟩
end
noncomputable section
variable {X : Cx} {n : Nat} {G : Gh} {sc : Scope} {os : List (Option Val)} {m : M}
noncomputable abbrev NewL (vs : List Val) (G : Gh) (Q : QE) : Prop := ∀ c G', G c = none → Ext G G' → G' c = some (.list vs) → Q (.ref c) G'
theorem NewL.nl {vs : List Val} {Q : QE} (h : NewL vs G Q) : newList vs G Q := fun c hc => h c _ hc (.new hc) (Gh.upd_same ..)
theorem Sn.listN {es : List PySem.Expr} {vs : List Val} {Q : QE} {pos : Pos} (h : Rds X n sc es m G vs) (q : NewL vs G Q) (hl : Nat.ble vs.length 1000 = true := by rfl) : Sn X n sc (.List es pos) m G Q := Sn.listR h q.nl hl
theorem Sn.listE {es : List PySem.Expr} {Q : QE} {pos : Pos} (h : SnEs X n sc es m G fun vs G' => Nat.ble vs.length 1000 = true ∧ NewL vs G' Q) : Sn X n sc (.List es pos) m G Q := Sn.list ⟨fun hy => h.use hy fun ys s₁ vs G₁ hv hy₁ f₁ h₁ => .mk vs G₁ hv hy₁.hr f₁ ⟨lt_cap h₁.1, h₁.2.nl⟩⟩
theorem Sn.set1N {Q : QE} {i : Int} {k : Nat} {p pos : Pos} (hi : 0 ≤ i ∧ i < 32) (h : ∀ a G', G a = none → Ext G G' → SetAt G' a (setb 0 i) → Q (.ref a) G') : Sn X n sc (.Set [.Constant (.int i) k p] 0 pos) m G Q :=
  Sn.set1 hi fun a ha => h a _ ha (.new ha) ⟨false, by
    rw [Gh.upd_same]
    have := maskS_set (m := 0) hi.1
    rw [← maskS_zero] at this
    simp only [Bool.false_or] at this
    rw [this]⟩
theorem Meth.appN {a : Addr} {xs : List Val} {v : Val} {Q : QE} (e : G a = some (.list xs)) (hc : xs.length ≤ 2000) (q : ∀ G', Ext1 a G G' → G' a = some (.list (xs ++ [v])) → Q .none G') : Blt X n (.builtin "list.append") [.ref a, v] G Q :=
  Meth.append e (by unfold cap; omega) (q _ .upd (Gh.upd_same ..))
theorem Meth.popN {a : Addr} {xs : List Val} {v : Val} {Q : QE} (e : G a = some (.list (xs ++ [v]))) (hc : xs.length ≤ 2000) (q : ∀ G', Ext1 a G G' → G' a = some (.list xs) → Q v G') : Blt X n (.builtin "list.pop") [.ref a] G Q :=
  Meth.pop e (by unfold cap; omega) (q _ .upd (Gh.upd_same ..))
theorem Meth.addN {a : Addr} {k : Nat} {j : Int} {Q : QE} (e : SetAt G a k) (hj : 0 ≤ j ∧ j < 32) (q : ∀ G', Ext1 a G G' → SetAt G' a (setb k j) → Q .none G') : Blt X n (.builtin "set.add") [.ref a, .int j] G Q := by
  obtain ⟨f, e⟩ := e
  exact Meth.add e hj (q _ .upd ⟨false, by rw [Gh.upd_same, maskS_set hj.1]⟩)
theorem SetAt.has {a : Addr} {k : Nat} (h : SetAt G a k) : HasT G (.ref a) "set" := by obtain ⟨f, e⟩ := h; exact .set e
theorem SetAt.ext {G' : Gh} {a : Addr} {k : Nat} (h : SetAt G a k) (x : Ext G G') : SetAt G' a k := by obtain ⟨f, e⟩ := h; exact ⟨f, x _ _ e⟩
theorem SetAt.off {G' : Gh} {a z : Addr} {k : Nat} (h : SetAt G a k) (x : Ext1 z G G') (ne : a ≠ z) : SetAt G' a k := by obtain ⟨f, e⟩ := h; exact ⟨f, x _ _ ne e⟩
theorem SetAt.offL {G' : Gh} {a z : Addr} {k : Nat} {xs : List Val} (h : SetAt G a k) (x : Ext1 z G G') (e : G z = some (.list xs)) : SetAt G' a k := h.off x fun q => by obtain ⟨f, h⟩ := h; rw [q, e] at h; cases h
theorem ne_new {a c : Addr} {o : GObj} (e : G a = some o) (h : G c = none) : a ≠ c := fun q => by rw [q, h] at e; cases e
theorem SetAt.ne_new {a c : Addr} {k : Nat} (e : SetAt G a k) (h : G c = none) : a ≠ c := by obtain ⟨f, e⟩ := e; exact Mine.ne_new e h
theorem SetAt.neL {a c : Addr} {k : Nat} {xs : List Val} (e : SetAt G a k) (h : G c = some (.list xs)) : c ≠ a := fun q => by obtain ⟨f, e⟩ := e; rw [← q, h] at e; cases e
theorem Ext.fresh {G0 G' : Gh} {z : Addr} (x : Ext G0 G) (h : G0 z = none) (y : Ext1 z G G') : Ext G0 G' := fun w o e => y w o (fun q => by rw [q, h] at e; cases e) (x w o e)
theorem Ext.none {G' : Gh} (x : Ext G G') {z : Addr} (h : G' z = none) : G z = none := by
  cases e : G z with
  | none => rfl
  | some o => rw [x _ _ e] at h; cases h
theorem Op2.notinM {a : Addr} {k : Nat} {j : Int} (e : SetAt G a k) : O2 X n (compareOp .NotIn) (.int j) (.ref a) G (.bool (!maskS k j)) := by obtain ⟨f, e⟩ := e; exact .notinSet e ⟨rfl, rfl⟩
theorem SnB.augIdxN {Q : QS} {o i e : PySem.Expr} {p pos : Pos} {sts : List PySem.Stmt} {a : Addr} {xs : List Val} {k j d : Int} (h1 : Rd X n sc o m G (.ref a)) (h2 : Rd X n sc i m G (.int k)) (e1 : G a = some (.list xs)) (hk : 0 ≤ k ∧ k < 2000) (hj : xs[k.toNat]? = some (.int j)) (h3 : Rd X n sc e m G (.int d))
    (q : ∀ G', Ext1 a G G' → G' a = some (.list (xs.set k.toNat (.int (j + d)))) → SnB X n sc sts m G' Q) (ha : ∀ ov iv new, augStore i ov iv new = (do holding [new, ov, iv] (setItem ov iv new); release [new, ov, iv] []; pure .next) := by intro _ _ _; rfl) : SnB X n sc (.AugAssign (.Subscript o i p) .Add e pos :: sts) m G Q :=
  .cons (.augIdx (h1.to (h2.to ⟨a, xs, k, j, rfl, rfl, e1, ⟨hk.1, by have := hk.2; unfold cap; omega⟩, hj, h3.to ⟨d, rfl, e1, .next (q _ .upd (Gh.upd_same ..))⟩⟩)) ha)
structure Fr where
  num : Int
  fols : List Int
  idx : Nat
theorem all_cons {α : Type} {P : α → Prop} {a : α} {l : List α} (h : P a) (k : ∀ z ∈ l, P z) : ∀ z ∈ a :: l, P z := fun z q => by
  rcases List.mem_cons.mp q with q | q
  · exact q ▸ h
  · exact k z q
theorem all_nil {α : Type} {P : α → Prop} : ∀ z ∈ ([] : List α), P z := fun z q => nomatch q
theorem all_tl {α : Type} {P : α → Prop} {a : α} {l : List α} (h : ∀ z ∈ a :: l, P z) : ∀ z ∈ l, P z := fun z q => h z (.tail _ q)
theorem nm_cons {α : Type} {x a : α} {l : List α} (h : x ≠ a) (k : x ∉ l) : x ∉ a :: l := fun q => (List.mem_cons.mp q).elim h k
theorem nm_hd {α : Type} {x a : α} {l : List α} (h : x ∉ a :: l) : x ≠ a := fun q => h (q ▸ .head _)
theorem nm_tl {α : Type} {x a : α} {l : List α} (h : x ∉ a :: l) : x ∉ l := fun q => h (.tail _ q)
theorem nm_nil {α : Type} {x : α} : x ∉ ([] : List α) := fun q => nomatch q
theorem nd_cons {α : Type} {a : α} {l : List α} (h : a ∉ l) (k : l.Nodup) : (a :: l).Nodup := List.nodup_cons.mpr ⟨h, k⟩
inductive StkAt (G : Gh) : List (Addr × Addr) → List Fr → Prop where
  | nil : StkAt G [] []
  | cons {a l : Addr} {r : Fr} {as : List (Addr × Addr)} {rs : List Fr} : G a = some (.list [.int r.num, .ref l, .int r.idx]) → G l = some (.list (r.fols.map .int)) → StkAt G as rs → StkAt G ((a, l) :: as) (r :: rs)
noncomputable def flatA (l : List (Addr × Addr)) : List Addr := l.flatMap fun x => [x.1, x.2]
theorem flatA_cons (x : Addr × Addr) (l : List (Addr × Addr)) : flatA (x :: l) = x.1 :: x.2 :: flatA l := rfl
theorem StkAt.keep {G' : Gh} {as : List (Addr × Addr)} {rs : List Fr} (h : StkAt G as rs) : (∀ a ∈ flatA as, ∀ xs, G a = some (.list xs) → G' a = some (.list xs)) → StkAt G' as rs := by
  induction h with
  | nil => exact fun _ => .nil
  | cons a b _ ih => exact fun k => .cons (k _ (.head _) _ a) (k _ (.tail _ (.head _)) _ b) (ih fun a h => k a (.tail _ (.tail _ h)))
theorem StkAt.ext {G' : Gh} {as : List (Addr × Addr)} {rs : List Fr} (h : StkAt G as rs) (x : Ext G G') : StkAt G' as rs := h.keep fun _ _ _ e => x _ _ e
theorem StkAt.off {G' : Gh} {z : Addr} {as : List (Addr × Addr)} {rs : List Fr} (h : StkAt G as rs) (x : Ext1 z G G') (hz : z ∉ flatA as) : StkAt G' as rs := h.keep fun a ha _ e => x _ _ (fun q => hz (q ▸ ha)) e
theorem StkAt.mem {as : List (Addr × Addr)} {rs : List Fr} (h : StkAt G as rs) : ∀ a ∈ flatA as, ∃ xs, G a = some (.list xs) := by
  induction h with
  | nil => intro a h; cases h
  | cons a b _ ih =>
    intro z h
    rcases List.mem_cons.mp h with q | h
    · subst q; exact ⟨_, a⟩
    · rcases List.mem_cons.mp h with q | h
      · subst q; exact ⟨_, b⟩
      · exact ih z h
noncomputable def folN (Bs : List PB) (j : Int) : List Int := match Bs[j.toNat]? with | some B => B.ways | none => []
noncomputable def postGo (Bs : List PB) (k : Nat) : List Int → Nat → List Fr → Option (List Int) :=
  Nat.rec (motive := fun _ => List Int → Nat → List Fr → Option (List Int)) (fun _ _ _ => none) (fun _ go found seen stk => match stk with
    | [] => some found
    | r :: rest => match r.fols[r.idx]? with
      | none => go (found ++ [r.num]) seen rest
      | some j => if maskS seen j then go found seen (⟨r.num, r.fols, r.idx + 1⟩ :: rest) else go found (setb seen j) (⟨j, folN Bs j, 0⟩ :: ⟨r.num, r.fols, r.idx + 1⟩ :: rest)) k
noncomputable def postP (Bs : List PB) : Option (List Int) := postGo Bs 100 [] 1 [⟨0, folN Bs 0, 0⟩]
theorem nd_two {l : List Addr} {a b : Addr} (h : (a :: b :: l).Nodup) : a ≠ b ∧ a ∉ l ∧ b ∉ l ∧ l.Nodup := by
  obtain ⟨h1, h2⟩ := List.nodup_cons.mp h
  obtain ⟨h3, h4⟩ := List.nodup_cons.mp h2
  exact ⟨fun q => h1 (q ▸ .head _), fun q => h1 (.tail _ q), h3, h4⟩
theorem seqAt_last {α : Type} {xs : List α} {x : α} : seqAt (xs ++ [x]) (-1) = some x := by
  unfold seqAt
  rw [if_neg (by decide), List.length_append]
  have e : (-1 : Int) + ((xs.length + [x].length : Nat) : Int) = xs.length := by rw [List.length_singleton]; omega
  rw [e, if_pos (Int.natCast_nonneg _), Int.toNat_natCast, List.getElem?_append_right (Nat.le_refl _), Nat.sub_self]; rfl
theorem SnB.while_ {Q : QS} {t : PySem.Expr} {body sts : List PySem.Stmt} {pos : Pos} (I : Nat → M → Gh → Prop) (k : Nat) (h0 : I k m G)
    (h : ∀ k m G, I k m G → SnT X n sc t m G fun r G' => Two (SnB X n sc body m G' (Turn (fun m G => ∃ j, j < k ∧ I j m G) (Then X n sc sts Q))) (SnB X n sc sts m G' Q) r) : SnB X n sc (.While t body [] pos :: sts) m G Q :=
  .cons (.whil I k h0 fun k m G i => (h k m G i).mono fun r G' q => ⟨q.1, fun e => .next (q.2 e)⟩)
noncomputable abbrev poL (f fo se st : Addr) (x y : Option Val) : M := L sc_postorder [some (.ref f), some (.ref fo), some (.ref se), some (.ref st), x, y, none, none]
structure PoS (G0 : Gh) (f fo se st : Addr) (Bs : List PB) (r : List Int) (k : Nat) (G : Gh) (found : List Int) (seen : Nat) (as : List (Addr × Addr)) (stk : List Fr) : Prop where
  ho : G fo = some (.list (found.map .int))
  hs : SetAt G se seen
  ht : G st = some (.list ((as.reverse.map (·.1)).map .ref))
  hk : StkAt G as stk
  n1 : fo ≠ st
  n2 : fo ∉ flatA as
  n3 : st ∉ flatA as
  nd : (flatA as).Nodup
  q1 : G0 fo = none
  q2 : G0 se = none
  q3 : G0 st = none
  q4 : ∀ a ∈ flatA as, G0 a = none
  x : Ext G0 G
  js : ∀ r ∈ stk, (∀ j ∈ r.fols, 0 ≤ j ∧ j.toNat < Bs.length) ∧ r.fols.length ≤ 4 ∧ r.idx ≤ r.fols.length
  l1 : found.length + k ≤ 1000
  l2 : as.length + k ≤ 1000
  go : postGo Bs k found seen stk = some r
inductive PoI (G0 : Gh) (f fo se st : Addr) (Bs : List PB) (r : List Int) (k : Nat) : M → Gh → Prop where
  | mk {x y : Option Val} {G : Gh} {found : List Int} {seen : Nat} {as : List (Addr × Addr)} {stk : List Fr} (h : PoS G0 f fo se st Bs r k G found seen as stk) : PoI G0 f fo se st Bs r k (poL f fo se st x y) G
theorem sp_postorder {f : Addr} {pr : List Int} {sl : Slots} {bls : List Addr} {Bs : List PB} {r : List Int} {Q : QE} (T : Tops X) (hf : FuncAt G f pr sl bls) (hB : BlksAt G 0 bls Bs) (ok : FnOK Bs) (hp : postP Bs = some r)
    (kk : ∀ c G', G' c = some (.list (r.map .int)) → Ext G G' → G c = none → Q (.ref c) G') : Cal X (n + 2) a_postorder [.ref f] G Q := by
  refine' Cal.start (os := ?os) T.d_postorder ?q ?b; case q => walk_at "r"
  case b =>
  refine SnB.assignQ (Sn.listN .nil fun fo G1 hfo x1 o1 => ⟨_, by walk_at "r", ?_⟩)
  refine SnB.assignQ (Sn.set1N ⟨by decide, by decide⟩ fun se G2 hse x2 s2 => ⟨_, by walk_at "r", ?_⟩)
  have o2 := x2 _ _ o1
  have x02 := x1.trans x2
  obtain ⟨B, hB0⟩ : ∃ B, Bs[0]? = some B := ⟨_, List.getElem?_eq_getElem ok.one⟩
  obtain ⟨b, hb0, ⟨sts, eo, hb1, hb2, hb3, hb4⟩⟩ := hB.get hB0
  obtain ⟨ff, fp, fl, fb, f1, ⟨g1, g2, g3⟩, f2, f3, f4⟩ := hf.ext x02
  have hBm := ok.blks B (List.mem_of_getElem? hB0)
  have eF : folN Bs 0 = B.ways := by unfold folN; rw [show (0 : Int).toNat = 0 from rfl, hB0]
  refine SnB.assignQ (Sn.listE (SnEs.cons (Sn.listE (SnEs.cons (Rd.int.to (SnEs.cons (Sn.ref T.f_followers (by walk_at "r") (fun _ _ => rfl) (vs := [.ref b]) (.cons (.idxL (by walk_at "r") f4 .int (by decide) (seqAt_map hb0)) .nil) (sp_followers T (hb1.ext x02) (hb3.ext x02) (hb4.ext x02) fun d G3 hd x3 d3 => SnEs.cons (Rd.int.to (SnEs.nil ⟨rfl, fun a G4 ha x4 a4 => SnEs.nil ⟨rfl, fun st G5 hst x5 t5 => ⟨_, by walk_at "r", ?_⟩⟩⟩))))))))))
  have x25 := (x3.trans x4).trans x5
  have fst := ne_new ((x3.trans x4) _ _ o2) hst
  have dst := ne_new (x4 _ _ d3) hst
  have ast := ne_new a4 hst
  have da := ne_new d3 ha
  have fa := ne_new (x3 _ _ o2) ha
  have fd := ne_new o2 hd
  refine SnB.while_ (PoI G f fo se st Bs r) 100 (.mk (found := []) (seen := 1) (as := [(a, d)]) (stk := [⟨0, folN Bs 0, 0⟩]) ⟨x25 _ _ o2, s2.ext x25, t5, .cons (x5 _ _ a4) ((x4.trans x5) _ _ (by rw [eF]; exact d3)) .nil, fst, nm_cons fa (nm_cons fd nm_nil), nm_cons (Ne.symm ast) (nm_cons (Ne.symm dst) nm_nil), nd_cons (nm_cons (Ne.symm da) nm_nil) (nd_cons nm_nil .nil), hfo, x1.none hse, x02.none ((x3.trans x4).none hst), all_cons (x02.none (x3.none ha)) (all_cons (x02.none hd) all_nil), x02.trans x25, all_cons ⟨by rw [eF]; exact hBm.goals, by rw [eF]; exact hBm.ways, Nat.zero_le _⟩ all_nil, by decide, by show 1 + 100 ≤ 1000; decide, hp⟩) fun k m G5' hI => ?_
  · cases hI with | @mk x y _ found seen as stk hI =>
    obtain ⟨ho, hs, ht, hk, n1, n2, n3, nd, q1, q2, q3, q4, xx, js, l1, l2, go⟩ := hI
    refine SnT.mono (RdT.val (v := .ref st) (by walk_at "r") (.list ht)) fun t G6 ⟨e, e'⟩ => ?_
    subst e; subst e'
    cases k with
    | zero => cases go
    | succ k =>
    cases hk with
    | nil =>
      cases go
      exact ⟨fun e => Bool.noConfusion e, fun _ => SnB.retB (Rd.to (v := .ref fo) (by walk_at "r") (kk fo _ ho xx hfo))⟩
    | @cons a l r0 as rs ha hl hk =>
    have et : (((a, l) :: as).reverse.map (·.1)).map Val.ref = (as.reverse.map (·.1)).map Val.ref ++ [.ref a] := by rw [List.reverse_cons, List.map_append, List.map_append]; rfl
    rw [et] at ht ⊢
    refine ⟨fun _ => ?_, fun e => by cases h : (as.reverse.map (·.1)).map Val.ref <;> rw [h] at e <;> cases e⟩
    have l2' : as.length + 1 + (k + 1) ≤ 1000 := l2
    have n5 := nd
    rw [flatA_cons] at n2 n3 n5 q4
    obtain ⟨n6, n7, n8, n9⟩ := nd_two n5
    obtain ⟨sh1, sh2, sh3⟩ := js r0 (.head _)
    refine SnB.assign (v := .ref a) (.idxL (by walk_at "r") ht (.neg .int) (by decide) seqAt_last) (by walk_at "r") ?_
    have hl2 := List.length_map (f := Val.int) (as := r0.fols)
    refine SnB.ifs (r := (r0.idx : Int) == (r0.fols.length : Int)) (.cmp (.idxL (by walk_at "r") ha .int (by decide) rfl) (.fn (id := "len") T.blt (by decide) (by decide) (by walk_at "r") (fun _ _ => rfl) (.cons (.idxL (by walk_at "r") ha .int (by decide) rfl) .nil) (Blt.lenL hl (by rw [hl2]; unfold cap; omega) ⟨rfl, rfl⟩)) (.eqI ⟨by rw [hl2], rfl⟩)) (fun e => ?_) fun e => .nilT ?_
    · have hi : r0.fols[r0.idx]? = none := List.getElem?_eq_none (by have := eq_of_beq e; omega)
      have go' : postGo Bs k (found ++ [r0.num]) seen rs = some r := by
        have : postGo Bs (k + 1) found seen (r0 :: rs) = postGo Bs k (found ++ [r0.num]) seen rs := by show (match r0.fols[r0.idx]? with | none => _ | some j => _) = _; rw [hi]; rfl
        rw [← this]; exact go
      refine SnB.expr (Sn.meth .append (fun _ _ => rfl) (Rd.to (v := .ref fo) (by walk_at "r") ⟨.list ho, Rds.to (vs := [.int r0.num]) (.cons (.idxL (by walk_at "r") ha .int (by decide) rfl) .nil) (Meth.appN ho (by rw [List.length_map]; omega) fun G7 x1 ho' => ?_)⟩))
      have ht7 := x1 _ _ (Ne.symm n1) ht
      refine SnB.expr (Sn.meth .pop (fun _ _ => rfl) (Rd.to (v := .ref st) (by walk_at "r") ⟨.list ht7, Rds.nil.to (Meth.popN ht7 (by rw [List.length_map, List.length_map, List.length_reverse]; omega) fun G8 x2 ht8 => ?_)⟩))
      refine SnB.cont (.cont (.cont ⟨k, Nat.lt_succ_self _, .mk (found := found ++ [r0.num]) (seen := seen) (as := as) (stk := rs) ⟨?_, (hs.offL x1 ho).offL x2 ht7, ht8, (hk.off x1 (nm_tl (nm_tl n2))).off x2 (nm_tl (nm_tl n3)), n1, nm_tl (nm_tl n2), nm_tl (nm_tl n3), n9, q1, q2, q3, all_tl (all_tl q4), (xx.fresh q1 x1).fresh q3 x2, all_tl js, ?_, by omega, go'⟩⟩))
      · rw [x2 _ _ n1 ho', List.map_append]; rfl
      · rw [List.length_append, List.length_singleton]; omega
    · have hi : r0.idx < r0.fols.length := by have := beq_eq_false_iff_ne.mp e; omega
      obtain ⟨j, q⟩ : ∃ j, r0.fols[r0.idx]? = some j := ⟨_, List.getElem?_eq_getElem hi⟩
      obtain ⟨j0, j1⟩ := sh1 j (List.mem_of_getElem? q)
      have hfew := ok.few
      refine SnB.assign (v := .int j) (.idxL (.idxL (by walk_at "r") ha .int (by decide) rfl) hl (.idxL (by walk_at "r") ha .int (by decide) rfl) (by unfold cap; omega) (seqAt_map q)) (by walk_at "r") ?_
      refine SnB.augIdxN (by walk_at "r") .int ha (by decide) rfl .int fun G7 x1 a1 => ?_
      have l1' := x1 _ _ (Ne.symm n6) hl
      have o1 := x1 _ _ (nm_hd n2) ho
      have t1 := x1 _ _ (nm_hd n3) ht
      have s1 := hs.offL x1 ha
      have xa := xx.fresh (q4 a (.head _)) x1
      have k1 : StkAt G7 ((a, l) :: as) (⟨r0.num, r0.fols, r0.idx + 1⟩ :: rs) := .cons a1 l1' (hk.off x1 n7)
      have ej : postGo Bs (k + 1) found seen (r0 :: rs) = if maskS seen j then postGo Bs k found seen (⟨r0.num, r0.fols, r0.idx + 1⟩ :: rs) else postGo Bs k found (setb seen j) (⟨j, folN Bs j, 0⟩ :: ⟨r0.num, r0.fols, r0.idx + 1⟩ :: rs) := by
        show (match r0.fols[r0.idx]? with | none => _ | some j => _) = _; rw [q]; rfl
      have js' : ∀ r ∈ (⟨r0.num, r0.fols, r0.idx + 1⟩ :: rs : List Fr), (∀ j ∈ r.fols, 0 ≤ j ∧ j.toNat < Bs.length) ∧ r.fols.length ≤ 4 ∧ r.idx ≤ r.fols.length := all_cons ⟨sh1, sh2, hi⟩ (all_tl js)
      refine SnB.ifs (r := !maskS seen j) (.cmp (by walk_at "r") (by walk_at "r") (.notinM s1)) (fun e => ?_) fun e => .nil (.next (.nil (.next ⟨k, Nat.lt_succ_self _, .mk (found := found) (seen := seen) (as := (a, l) :: as) ⟨o1, s1, t1.trans (by rw [← et]), k1, n1, n2, n3, nd, q1, q2, q3, q4, xa, js', by omega, by omega, ?_⟩⟩)))
      · have em : maskS seen j = false := by rw [← Bool.not_eq_true']; exact e
        refine SnB.expr (Sn.meth .add (fun _ _ => rfl) (Rd.to (v := .ref se) (by walk_at "r") ⟨s1.has, Rds.to (vs := [.int j]) (by walk_at "r") (Meth.addN s1 ⟨j0, by omega⟩ fun G8 x2 s2 => ?_)⟩))
        have seF : se ∉ flatA ((a, l) :: as) := fun z => by obtain ⟨xs, h⟩ := k1.mem _ z; exact s1.neL h rfl
        have k2 := k1.off x2 seF
        have o2 := x2 _ _ (s1.neL o1) o1
        have t2 := x2 _ _ (s1.neL t1) t1
        have xb := xa.fresh q2 x2
        obtain ⟨B, hBj⟩ : ∃ B, Bs[j.toNat]? = some B := ⟨_, List.getElem?_eq_getElem j1⟩
        obtain ⟨b, hb0, ⟨sts, eo, hb1, hb2, hb3, hb4⟩⟩ := hB.get hBj
        have eF : folN Bs j = B.ways := by unfold folN; rw [hBj]
        have hBm := ok.blks B (List.mem_of_getElem? hBj)
        obtain ⟨ff, fp, fl, fb, f1, ⟨g1, g2, g3⟩, f2, f3, f4⟩ := hf.ext xb
        have hsb : seqAt (bls.map Val.ref) j = some (.ref b) := by have := seqAt_map (f := Val.ref) hb0; rw [Int.toNat_of_nonneg j0] at this; exact this
        refine SnB.expr (Sn.meth .append (fun _ _ => rfl) (Rd.to (v := .ref st) (by walk_at "r") ⟨.list t2, SnEs.cons (Sn.listE (SnEs.cons (Rd.to (v := .int j) (by walk_at "r") (SnEs.cons (Sn.ref T.f_followers (by walk_at "r") (fun _ _ => rfl) (vs := [.ref b]) (.cons (.idxL (by walk_at "r") f4 (by walk_at "r") (by unfold cap; omega) hsb) .nil)
          (sp_followers T (hb1.ext xb) (hb3.ext xb) (hb4.ext xb) fun d G9 hd x3 d3 => SnEs.cons (Rd.int.to (SnEs.nil ⟨rfl, fun c G10 hc x4 c4 => SnEs.nil (Meth.appN ((x3.trans x4) _ _ t2) (by rw [List.length_append, List.length_map, List.length_map, List.length_reverse, List.length_singleton]; omega) fun G11 x5 t5 => ?_)⟩))))))))⟩))
        have x34 := x3.trans x4
        have k4 := k2.ext x34
        have cd := ne_new d3 hc
        have mc : ∀ z ∈ flatA ((a, l) :: as), z ≠ c ∧ z ≠ d := fun z hz => by obtain ⟨xs, h⟩ := k2.mem z hz; exact ⟨ne_new (x3 _ _ h) hc, ne_new h hd⟩
        refine .nil (.next (.nil (.next ⟨k, Nat.lt_succ_self _, .mk (found := found) (seen := setb seen j) (as := (c, d) :: (a, l) :: as) (stk := ⟨j, folN Bs j, 0⟩ :: ⟨r0.num, r0.fols, r0.idx + 1⟩ :: rs) ⟨x5 _ _ n1 (x34 _ _ o2), (s2.ext x34).offL x5 (x34 _ _ t2), ?_, StkAt.off (.cons c4 (by rw [eF]; exact x4 _ _ d3) k4) x5 ?_, n1, ?_, ?_, ?_, q1, q2, q3, ?_, (xb.trans x34).fresh q3 x5, all_cons ⟨by rw [eF]; exact hBm.goals, by rw [eF]; exact hBm.ways, Nat.zero_le _⟩ js', by omega, ?_, ?_⟩⟩)))
        · rw [t5, ← et, List.reverse_cons (a := (c, d)), List.map_append, List.map_append]; rfl
        · exact nm_cons (ne_new (x3 _ _ t2) hc) (nm_cons (ne_new t2 hd) n3)
        · exact nm_cons (ne_new (x3 _ _ o2) hc) (nm_cons (ne_new o2 hd) n2)
        · exact nm_cons (ne_new (x3 _ _ t2) hc) (nm_cons (ne_new t2 hd) n3)
        · exact nd_cons (nm_cons (Ne.symm cd) fun z => (mc _ z).1 rfl) (nd_cons (fun z => (mc _ z).2 rfl) nd)
        · exact all_cons ((xb.trans x3).none hc) (all_cons (xb.none hd) q4)
        · show as.length + 1 + 1 + k ≤ 1000; omega
        · rw [← go, ej, em]; rfl
      · have em : maskS seen j = true := by rw [← Bool.not_eq_false']; exact e
        rw [← go, ej, em]; rfl
end
noncomputable section
variable {X : Cx} {n : Nat} {G : Gh} {sc : Scope} {os : List (Option Val)} {m : M}
section
variable {β γ : Type}
noncomputable def st (l : List (Int × β)) (k : Int) (v : β) : List (Int × β) := if l.any (fun e => decide (e.1 = k)) then l.map (fun e => if e.1 = k then (e.1, v) else e) else l ++ [(k, v)]
noncomputable def lk (l : List (Int × β)) (k : Int) : Option β := (l.find? fun e => decide (e.1 = k)).map (·.2)
theorem st_map (f : β → γ) (l : List (Int × β)) (k : Int) (v : β) : (st l k v).map (fun e => (e.1, f e.2)) = st (l.map fun e => (e.1, f e.2)) k (f v) := by
  unfold st
  rw [List.any_map]
  show _ = if l.any (fun e => decide (e.1 = k)) = true then _ else _
  split
  · rw [List.map_map, List.map_map]
    refine List.map_congr_left fun e _ => ?_
    show (fun e : Int × β => (e.1, f e.2)) (if e.1 = k then (e.1, v) else e) = if e.1 = k then (e.1, f v) else (e.1, f e.2)
    split <;> rfl
  · rw [List.map_append]; rfl
theorem lk_map (f : β → γ) (l : List (Int × β)) (k : Int) : lk (l.map fun e => (e.1, f e.2)) k = (lk l k).map f := by
  unfold lk
  rw [List.find?_map, Option.map_map, Option.map_map]; rfl
theorem mem_st {l : List (Int × β)} {k : Int} {v : β} {e : Int × β} (h : e ∈ st l k v) : e ∈ l ∨ e.2 = v := by
  unfold st at h
  split at h
  · obtain ⟨x, hx, q⟩ := List.mem_map.mp h
    split at q
    · exact .inr (by rw [← q])
    · exact .inl (q ▸ hx)
  · rcases List.mem_append.mp h with q | q
    · exact .inl q
    · exact .inr (by rw [List.mem_singleton.mp q])
theorem st_len (l : List (Int × β)) (k : Int) (v : β) : (st l k v).length ≤ l.length + 1 := by
  unfold st
  split
  · rw [List.length_map]; exact Nat.le_succ _
  · rw [List.length_append]; exact Nat.le_refl _
theorem any_key (l : List (Int × β)) (k : Int) : l.any (fun e => decide (e.1 = k)) = true ↔ k ∈ l.map (·.1) := by
  rw [List.any_eq_true, List.mem_map]
  exact ⟨fun ⟨e, h, q⟩ => ⟨e, h, of_decide_eq_true q⟩, fun ⟨e, h, q⟩ => ⟨e, h, decide_eq_true q⟩⟩
theorem lk_isSome (l : List (Int × β)) (k : Int) : (lk l k).isSome = true ↔ k ∈ l.map (·.1) := by
  rw [← any_key]
  unfold lk
  rw [Option.isSome_map, List.find?_isSome, List.any_eq_true]
theorem st_keys {l : List (Int × β)} {k : Int} {v : β} (j : Int) : j ∈ (st l k v).map (·.1) ↔ j ∈ l.map (·.1) ∨ j = k := by
  unfold st
  by_cases h : l.any (fun e => decide (e.1 = k)) = true
  · rw [if_pos h, List.map_map]
    have e : ((fun e : Int × β => e.1) ∘ fun e => if e.1 = k then (e.1, v) else e) = (·.1) := by funext e; show (if e.1 = k then (e.1, v) else e).1 = e.1; split <;> rfl
    rw [e]
    exact ⟨.inl, fun q => q.elim id fun q => q ▸ (any_key l k).mp h⟩
  · rw [if_neg h, List.map_append, List.mem_append]
    show _ ∨ j ∈ [k] ↔ _
    rw [List.mem_singleton]
theorem st_keys' {l : List (Int × β)} {k : Int} {v : β} (h : k ∈ l.map (·.1)) : (st l k v).length = l.length ∧ ∀ j, j ∈ (st l k v).map (·.1) ↔ j ∈ l.map (·.1) :=
  ⟨by unfold st; rw [if_pos ((any_key l k).mpr h), List.length_map], fun j => (st_keys j).trans ⟨fun q => q.elim id fun q => q ▸ h, .inl⟩⟩
end
theorem lookE_lk (es : List (Int × Val)) (k : Int) : lookE es k = lk es k := rfl
noncomputable def GObj.kind : GObj → Nat | .list .. => 0 | .dict .. => 1 | .set .. => 2 | .inst .. => 3
theorem ne_kind {y z : Addr} {o o' : GObj} (ey : G y = some o') (e : G z = some o) (h : Nat.beq o.kind o'.kind = false := by rfl) : z ≠ y := fun q => by rw [q, ey] at e; cases e; rw [Nat.beq_refl] at h; cases h
theorem Ext1.kind {G' : Gh} {y z : Addr} {o o' : GObj} (x : Ext1 y G G') (ey : G y = some o') (e : G z = some o) (h : Nat.beq o.kind o'.kind = false := by rfl) : G' z = some o := x _ _ (ne_kind ey e h) e
theorem SetAt.offD {G' : Gh} {a z : Addr} {k : Nat} {xs : List (Int × Val)} (h : SetAt G a k) (x : Ext1 z G G') (e : G z = some (.dict xs)) : SetAt G' a k := h.off x fun q => by obtain ⟨f, h⟩ := h; rw [q, e] at h; cases h
theorem SetAt.kind {G' : Gh} {a z : Addr} {k : Nat} {o : GObj} (h : SetAt G a k) (x : Ext1 a G G') (e : G z = some o) (hk : Nat.beq o.kind 2 = false := by rfl) : G' z = some o := by obtain ⟨f, h⟩ := h; exact x.kind h e hk
theorem SnB.setIdxQ {Q : QS} {e o i : PySem.Expr} {p pos : Pos} {sts : List PySem.Stmt} (h : Sn X n sc e m G fun v G₁ => ∃ a es k, Rd X n sc o m G₁ (.ref a) ∧ Rd X n sc i m G₁ (.int k) ∧ G₁ a = some (.dict es) ∧ es.length ≤ 2000 ∧ ∀ G', Ext1 a G₁ G' → G' a = some (.dict (st es k v)) → SnB X n sc sts m G' Q)
    (hsw : ∀ env, swapsWith e (some (.Subscript o i p)) pos.line env = pure false := by intro _; rfl) : SnB X n sc (.Assign [.Subscript o i p] e pos :: sts) m G Q :=
  .cons (.setIdx (h.mono fun v G₁ q => by obtain ⟨a, es, k, h1, h2, h3, h4, q⟩ := q; exact h1.to (h2.to ⟨a, es, k, rfl, rfl, h3, Nat.lt_of_le_of_lt h4 (by decide), .next (q _ .upd (Gh.upd_same ..))⟩)) hsw)
theorem Sn.dictN {Q : QE} {pos : Pos} (h : ∀ a G', G a = none → Ext G G' → G' a = some (.dict []) → Q (.ref a) G') : Sn X n sc (.Dict [] [] pos) m G Q := Sn.dict0 fun a ha => h a _ ha (.new ha) (Gh.upd_same ..)
theorem Blt.set0N {Q : QE} (h : ∀ a G', G a = none → Ext G G' → SetAt G' a 0 → Q (.ref a) G') : Blt X n (.type "set") [] G Q := Blt.set0 fun a ha => h a _ ha (.new ha) .new
theorem SnB.forN {Q : QS} {e tgt : PySem.Expr} {body sts : List PySem.Stmt} {pos : Pos} {a : Addr} {xs : List Val} (h : Rd X n sc e m G (.ref a)) (e1 : G a = some (.list xs)) (I : List Val → M → Gh → Prop) (h0 : I xs m G)
    (t : ∀ x xs m G, I (x :: xs) m G → ∃ m', Bnd X false sc tgt x m m' ∧ SnB X n sc body m' G (Turn (I xs) (Then X n sc sts Q))) (z : ∀ m G, I [] m G → SnB X n sc sts m G Q) (gd : ∀ xs' m G', I xs' m G' → G' a = some (.list xs))
    (hs : ∀ env x, foldedSetIterable e env x = pure x := by intro _ _; rfl) : SnB X n sc (.For tgt e body [] pos :: sts) m G Q :=
  .forL h e1 I ⟨fun x xs m G i => ⟨gd _ _ _ i, t x xs m G i⟩, fun m G i => ⟨gd _ _ _ i, .next (z m G i)⟩⟩ h0 hs
theorem maskS_inj {a b : Nat} : (∀ k, maskS a k = maskS b k) ↔ a = b := by
  refine ⟨fun h => Nat.eq_of_testBit_eq fun i => ?_, fun h k => by rw [h]⟩
  have := h (i : Int)
  unfold maskS at this
  rw [decide_eq_true (Int.natCast_nonneg i), Bool.true_and, Bool.true_and, Int.toNat_natCast] at this
  exact this
theorem Op2.neM {p q : Addr} {a b : Nat} (e1 : SetAt G p a) (e2 : SetAt G q b) (hne : p ≠ q) : O2 X n (compareOp .NotEq) (.ref p) (.ref q) G (.bool (!Nat.beq a b)) := by
  obtain ⟨f, e1⟩ := e1
  obtain ⟨g, e2⟩ := e2
  refine .neSet e1 e2 hne fun r hr => ⟨?_, rfl⟩
  rw [maskS_inj] at hr
  have : r = Nat.beq a b := by
    cases h : Nat.beq a b with
    | true => exact hr.mpr (Nat.eq_of_beq_eq_true h)
    | false =>
      cases hr' : r with
      | false => rfl
      | true => exact absurd (hr.mp hr') (Nat.ne_of_beq_eq_false h)
  rw [this]
noncomputable def iwE (l : List (Int × Bool)) : List (Int × Val) := l.map fun e => (e.1, .bool e.2)
theorem ahE_st (l : AhL) (k : Int) (a : Addr) (b : Nat) : st (ahE l) k (.ref a) = ahE (st l k (a, b)) := (st_map (fun v : Addr × Nat => Val.ref v.1) l k (a, b)).symm
theorem ahM_st (l : AhL) (k : Int) (a : Addr) (b : Nat) : ahM (st l k (a, b)) = st (ahM l) k b := st_map (fun v : Addr × Nat => v.2) l k (a, b)
theorem iwE_st (l : List (Int × Bool)) (k : Int) (b : Bool) : st (iwE l) k (.bool b) = iwE (st l k b) := (st_map Val.bool l k b).symm
theorem ahE_keys (l : AhL) : (ahE l).map (·.1) = (ahM l).map (·.1) := by unfold ahE ahM; rw [List.map_map, List.map_map]; rfl
theorem AhAt.keep {G' : Gh} {d : Addr} {l : AhL} (h : AhAt G d l) (hd : G' d = some (.dict (ahE l))) (hs : ∀ a k, SetAt G a k → SetAt G' a k) : AhAt G' d l := ⟨hd, fun e he => hs _ _ (h.s e he)⟩
theorem AhAt.ext {G' : Gh} {d : Addr} {l : AhL} (h : AhAt G d l) (x : Ext G G') : AhAt G' d l := h.keep (x _ _ h.d) fun _ _ s => s.ext x
noncomputable def wake (AH : List (Int × Nat)) (s : List Int × List (Int × Bool)) (o : Int) : List Int × List (Int × Bool) :=
  if (lk AH o).isSome && !((lk s.2 o).getD false) then (s.1 ++ [o], st s.2 o true) else s
noncomputable def naGo (sl : Slots) (am : AddrM) (Bs : List PB) (L : List (List Int)) (k : Nat) : List Int → Nat → List (Int × Nat) → List (Int × Bool) → Option (List (Int × Nat)) :=
  Nat.rec (motive := fun _ => List Int → Nat → List (Int × Nat) → List (Int × Bool) → Option (List (Int × Nat))) (fun _ _ _ _ => none) (fun _ go W at_ AH IW => match W[at_]? with
    | none => some AH
    | some i => match Bs[i.toNat]? with
      | none => none
      | some B =>
        let b := needP sl am B.steps B.fin.args (behindP AH B.ways)
        if Nat.beq b (lookN AH i) then go W (at_ + 1) AH (st IW i false)
        else
          let s := (L.getD i.toNat []).foldl (wake (st AH i b)) (W, st IW i false)
          go s.1 (at_ + 1) (st AH i b) s.2) k
noncomputable def AH0 (W : List Int) : List (Int × Nat) := W.foldl (fun l i => st l i 0) []
noncomputable def IW0 (W : List Int) : List (Int × Bool) := W.foldl (fun l i => st l i true) []
noncomputable def PoOK (Bs : List PB) (W : List Int) : Prop := W.length ≤ 16 ∧ ∀ i ∈ W, 0 ≤ i ∧ ∃ B, Bs[i.toNat]? = some B ∧ ∀ j ∈ B.ways, j ∈ W
end
noncomputable section
variable {X : Cx} {n : Nat} {G : Gh} {sc : Scope} {os : List (Option Val)} {m : M}
noncomputable abbrev neL (f ad wa bf ah iw : Addr) (x i y z o : Option Val) : M := L sc_needs_ahead [some (.ref f), some (.ref ad), some (.ref wa), some (.ref bf), some (.ref ah), some (.ref iw), x, i, y, z, o, none, none, none, none, none, none]
structure NaS (G0 : Gh) (wa bf ah iw : Addr) (las : List Addr) (L : List (List Int)) (G : Gh) (W : List Int) (l : AhL) (IW : List (Int × Bool)) : Prop where
  hw : G wa = some (.list (W.map .int))
  hL : LsAt G0 G las L
  hb : G bf = some (.list (las.map .ref))
  ha : AhAt G ah l
  hi : G iw = some (.dict (iwE IW))
  x : Ext G0 G
  q1 : G0 wa = none
  q2 : G0 ah = none
  q3 : G0 iw = none
  n1 : wa ≠ bf
  n2 : wa ∉ las
  n3 : ah ≠ iw
section
variable {G0 G' : Gh} {wa bf ah iw : Addr} {las : List Addr} {L : List (List Int)} {W : List Int} {l : AhL} {IW : List (Int × Bool)}
theorem LsAt.kind {y : Addr} {o : GObj} (h : LsAt G0 G las L) (x : Ext1 y G G') (e : G y = some o) (hk : Nat.beq 0 o.kind = false) : LsAt G0 G' las L := by
  induction h with
  | nil => exact .nil
  | cons a b c _ ih => exact .cons a b (x.kind e c hk) ih
theorem NaS.putI {IW' : List (Int × Bool)} (h : NaS G0 wa bf ah iw las L G W l IW) (x : Ext1 iw G G') (e : G' iw = some (.dict (iwE IW'))) : NaS G0 wa bf ah iw las L G' W l IW' :=
  ⟨x.kind h.hi h.hw, h.hL.kind x h.hi rfl, x.kind h.hi h.hb, h.ha.keep (x _ _ h.n3 h.ha.d) fun _ _ s => s.offD x h.hi, e, h.x.fresh h.q3 x, h.q1, h.q2, h.q3, h.n1, h.n2, h.n3⟩
theorem NaS.putA {l' : AhL} (h : NaS G0 wa bf ah iw las L G W l IW) (x : Ext1 ah G G') (e : G' ah = some (.dict (ahE l'))) (hs : ∀ e ∈ l', SetAt G e.2.1 e.2.2) : NaS G0 wa bf ah iw las L G' W l' IW :=
  ⟨x.kind h.ha.d h.hw, h.hL.kind x h.ha.d rfl, x.kind h.ha.d h.hb, ⟨e, fun e he => (hs e he).offD x h.ha.d⟩, x _ _ (Ne.symm h.n3) h.hi, h.x.fresh h.q2 x, h.q1, h.q2, h.q3, h.n1, h.n2, h.n3⟩
theorem NaS.putW {W' : List Int} (h : NaS G0 wa bf ah iw las L G W l IW) (x : Ext1 wa G G') (e : G' wa = some (.list (W'.map .int))) : NaS G0 wa bf ah iw las L G' W' l IW :=
  ⟨e, h.hL.off x h.n2, x _ _ (Ne.symm h.n1) h.hb, h.ha.keep (x.kind h.hw h.ha.d) fun _ _ s => s.offL x h.hw, x.kind h.hw h.hi, h.x.fresh h.q1 x, h.q1, h.q2, h.q3, h.n1, h.n2, h.n3⟩
theorem NaS.ext (h : NaS G0 wa bf ah iw las L G W l IW) (x : Ext G G') : NaS G0 wa bf ah iw las L G' W l IW :=
  ⟨x _ _ h.hw, h.hL.ext x, x _ _ h.hb, h.ha.ext x, x _ _ h.hi, h.x.trans x, h.q1, h.q2, h.q3, h.n1, h.n2, h.n3⟩
end
theorem nil_of_map {α : Type} {f : α → Val} {r : List α} (h : [] = r.map f) : r = [] := List.map_eq_nil_iff.mp h.symm
theorem cons_of_map {α : Type} {f : α → Val} {r : List α} {v : Val} {xs : List Val} (h : v :: xs = r.map f) : ∃ a r', r = a :: r' ∧ v = f a ∧ xs = r'.map f := by
  cases r with
  | nil => cases h
  | cons a r => exact ⟨a, r, rfl, (List.cons.inj h).1, (List.cons.inj h).2⟩
structure Na1 (G0 : Gh) (f ad wa bf ah iw : Addr) (las : List Addr) (L : List (List Int)) (W : List Int) (r : List Int) (x : Option Val) (l : AhL) (IW : List (Int × Bool)) (m : M) (G : Gh) : Prop where
  m : m = neL f ad wa bf ah iw x none none none none
  s : NaS G0 wa bf ah iw las L G W l IW
  a : r.foldl (fun l i => st l i 0) (ahM l) = AH0 W
  b : r.foldl (fun l i => st l i true) IW = IW0 W
  l1 : l.length + r.length ≤ 16
  l2 : IW.length + r.length ≤ 16
structure Na2 (G0 : Gh) (f ad wa bf ah iw : Addr) (las : List Addr) (L : List (List Int)) (sl : Slots) (am : AddrM) (Bs : List PB) (W0 : List Int) (goal : List (Int × Nat)) (k : Nat) (W : List Int) (a : Nat) (l : AhL) (IW : List (Int × Bool)) (G : Gh) : Prop where
  s : NaS G0 wa bf ah iw las L G W l IW
  go : naGo sl am Bs L k W a (ahM l) IW = some goal
  ka : ∀ j, j ∈ (ahM l).map (·.1) ↔ j ∈ W0
  ki : ∀ j, j ∈ IW.map (·.1) ↔ j ∈ W0
  kw : ∀ j ∈ W, j ∈ W0
  l1 : l.length ≤ 16
  l2 : IW.length ≤ 16
  l3 : W.length + 16 * k ≤ 1900
inductive Na2I (G0 : Gh) (f ad wa bf ah iw : Addr) (las : List Addr) (L : List (List Int)) (sl : Slots) (am : AddrM) (Bs : List PB) (W0 : List Int) (goal : List (Int × Nat)) (k : Nat) : M → Gh → Prop where
  | mk {x y z o : Option Val} {W : List Int} {a : Nat} {l : AhL} {IW : List (Int × Bool)} {G : Gh} (h : Na2 G0 f ad wa bf ah iw las L sl am Bs W0 goal k W a l IW G) : Na2I G0 f ad wa bf ah iw las L sl am Bs W0 goal k (neL f ad wa bf ah iw x (some (.int a)) y z o) G
theorem folds_keys {β : Type} (v : β) : ∀ (W : List Int) (l : List (Int × β)) (j : Int), j ∈ (W.foldl (fun l i => st l i v) l).map (·.1) ↔ j ∈ l.map (·.1) ∨ j ∈ W
  | [], l, j => by simp
  | i :: W, l, j => by rw [List.foldl_cons, folds_keys v W, st_keys, List.mem_cons, or_assoc]
theorem predStep_len (i : Int) (L : List (List Int)) (j : Int) : (predStep i L j).length = L.length := by
  unfold predStep
  split
  · rfl
  · rw [List.length_set]
theorem predsFrom_len : ∀ (Bs : List PB) (i : Int) (L : List (List Int)), (predsFrom i Bs L).length = L.length
  | [], _, _ => rfl
  | B :: Bs, i, L => by
    show (predsFrom (i + 1) Bs _).length = _
    rw [predsFrom_len Bs]
    have : ∀ (ws : List Int) (L : List (List Int)), (ws.foldl (predStep i) L).length = L.length := fun ws => by
      induction ws with
      | nil => intro L; rfl
      | cons w ws ih => intro L; rw [List.foldl_cons, ih, predStep_len]
    exact this _ _
theorem predsP_len (Bs : List PB) : (predsP Bs).length = Bs.length := by unfold predsP; rw [predsFrom_len, List.length_map]
structure Na3 (G0 : Gh) (wa bf ah iw la : Addr) (las : List Addr) (L : List (List Int)) (W0 : List Int) (pl : List Int) (K : Nat) (l : AhL) (goal : List Int × List (Int × Bool)) (r W : List Int) (IW : List (Int × Bool)) (G : Gh) : Prop where
  s : NaS G0 wa bf ah iw las L G W l IW
  go : r.foldl (wake (ahM l)) (W, IW) = goal
  ki : ∀ j, j ∈ IW.map (·.1) ↔ j ∈ W0
  kw : ∀ j ∈ W, j ∈ W0
  l2 : IW.length ≤ 16
  l3 : W.length + r.length ≤ K
  la : G la = some (.list (pl.map .int))
theorem lkeys {l : AhL} {i : Int} : i ∈ l.map (·.1) ↔ i ∈ (ahE l).map (·.1) := by unfold ahE; rw [List.map_map]; rfl
theorem sp_needs_ahead {f ad : Addr} {pr : List Int} {sl : Slots} {bls : List Addr} {am : AddrM} {Bs : List PB} {W0 : List Int} {goal : List (Int × Nat)} {Q : QE} (T : Tops X) (hf : FuncAt G f pr sl bls) (ha : G ad = some (.dict (adE am))) (hok : AdOK am sl)
    (hB : BlksAt G 0 bls Bs) (ok : FnOK Bs) (hpo : postP Bs = some W0) (hW : PoOK Bs W0) (hL : ∀ l ∈ predsP Bs, l.length ≤ 16) (hgo : naGo sl am Bs (predsP Bs) 100 W0 0 (AH0 W0) (IW0 W0) = some goal)
    (kk : ∀ d l G', G d = none → Ext G G' → AhAt G' d l → ahM l = goal → (∀ j, j ∈ goal.map (·.1) ↔ j ∈ W0) → goal.length ≤ 16 → Q (.ref d) G') : Cal X (n + 5) a_needs_ahead [.ref f, .ref ad] G Q := by
  refine' Cal.start (os := ?os) T.d_needs_ahead ?q ?b; case q => walk_at "r"
  case b =>
  refine SnB.assignQ (Sn.ref T.f_postorder (by walk_at "r") (fun _ _ => rfl) (vs := [.ref f]) (by walk_at "r") (sp_postorder T hf hB ok hpo fun wa G1 w1 x1 q1 => ⟨_, by walk_at "r", ?_⟩))
  refine SnB.assignQ (Sn.ref T.f_preds (by walk_at "r") (fun _ _ => rfl) (vs := [.ref f]) (by walk_at "r") (sp_preds T (hf.ext x1) (hB.ext x1) ok fun bf las G2 x2 l2 b2 n2 q2 => ⟨_, by walk_at "r", ?_⟩))
  refine SnB.assignQ (Sn.dictN fun ah G3 h3 x3 a3 => ⟨_, by walk_at "r", ?_⟩)
  refine SnB.assignQ (Sn.dictN fun iw G4 h4 x4 i4 => ⟨_, by walk_at "r", ?_⟩)
  have x02 := x1.trans x2
  have x34 := x3.trans x4
  have lG : LsAt G G4 las (predsP Bs) := by
    have : ∀ {as L}, LsAt G1 G2 as L → LsAt G G4 as L := fun h => by
      induction h with
      | nil => exact .nil
      | cons a b c _ ih => exact .cons a (x1.none b) (x34 _ _ c) ih
    exact this l2
  have wlas : wa ∉ las := fun q => by have := (l2.mem q).2; rw [w1] at this; cases this
  have s0 : NaS G wa bf ah iw las (predsP Bs) G4 W0 [] [] := ⟨x34 _ _ (x2 _ _ w1), lG, x34 _ _ b2, ⟨x4 _ _ a3, fun _ h => nomatch h⟩, i4, x02.trans x34, q1, x02.none h3, x02.none (x3.none h4), ne_new w1 q2, wlas, ne_new a3 h4⟩
  refine SnB.forN (a := wa) (xs := W0.map .int) (by walk_at "r") (x34 _ _ (x2 _ _ w1)) (fun xs m G' => ∃ r x l IW, xs = r.map .int ∧ Na1 G f ad wa bf ah iw las (predsP Bs) W0 r x l IW m G') ⟨W0, none, [], [], rfl, rfl, s0, rfl, rfl, by show 0 + _ ≤ _; have := hW.1; omega, by show 0 + _ ≤ _; have := hW.1; omega⟩ ?_ ?_ fun xs' m G' hI => by obtain ⟨r, x, l, IW, e, h⟩ := hI; exact h.s.hw
  · intro v xs m G5 hI
    obtain ⟨r, x, l, IW, e, h⟩ := hI
    obtain ⟨i, r, rfl, rfl, rfl⟩ := cons_of_map e
    obtain ⟨rfl, s, ea, eb, l1, l2⟩ := h
    rw [List.length_cons] at l1 l2
    refine ⟨_, .name (Upd.put (os' := [some (.ref f), some (.ref ad), some (.ref wa), some (.ref bf), some (.ref ah), some (.ref iw), some (.int i), none, none, none, none, none, none, none, none, none, none]) (by walk_at "r")), ?_⟩
    refine SnB.setIdxQ (Sn.ty (id := "set") T.blt (by decide) (by decide) (by walk_at "r") (fun _ _ => rfl) (Rds.nil.to (Blt.set0N fun c G6 hc x6 s6 => ⟨ah, _, i, by walk_at "r", by walk_at "r", x6 _ _ s.ha.d, by unfold ahE; rw [List.length_map]; omega, fun G7 x7 a7 => ?_⟩)))
    rw [ahE_st l i c 0] at a7
    have s7 := (s.ext x6).putA x7 a7 fun e he => by
      rcases mem_st he with q | q
      · exact (s.ha.s e q).ext x6
      · rw [q]; exact s6
    refine SnB.setIdxQ (Rd.tru.to ⟨iw, _, i, by walk_at "r", by walk_at "r", s7.hi, by unfold iwE; rw [List.length_map]; omega, fun G8 x8 i8 => ?_⟩)
    rw [iwE_st] at i8
    have t1 := st_len l i (c, 0)
    have t2 := st_len IW i true
    exact .nil (.next ⟨r, _, _, _, rfl, rfl, s7.putI x8 i8, by rw [ahM_st]; exact ea, eb, by omega, by omega⟩)
  intro m G5 hI
  obtain ⟨r, x, l, IW, e, h⟩ := hI
  obtain rfl := nil_of_map e
  obtain ⟨rfl, s, ea, eb, l1, l2⟩ := h
  have ea' : ahM l = AH0 W0 := ea
  have eb' : IW = IW0 W0 := eb
  refine SnB.assign (v := .int ((0 : Nat) : Int)) .int (by walk_at "r") ?_
  refine SnB.while_ (Na2I G f ad wa bf ah iw las (predsP Bs) sl am Bs W0 goal) 100 (.mk (W := W0) (l := l) (IW := IW) ⟨s, by rw [ea', eb']; exact hgo, fun j => by rw [ea']; exact (folds_keys 0 W0 [] j).trans ⟨fun q => q.elim (fun q => nomatch q) id, .inr⟩, fun j => by rw [eb']; exact (folds_keys true W0 [] j).trans ⟨fun q => q.elim (fun q => nomatch q) id, .inr⟩, fun j h => h, l1, l2, by have := hW.1; omega⟩) fun k m G6 hI => ?_
  cases hI with | @mk x y z o W a l IW _ hI =>
  obtain ⟨s, go, ka, ki, kw, l1, l2, l3⟩ := hI
  have hWl := List.length_map (f := Val.int) (as := W)
  refine SnT.mono (RdT.cmp (v := .int (a : Int)) (by walk_at "r") (.fn (id := "len") T.blt (by decide) (by decide) (by walk_at "r") (fun _ _ => rfl) (vs := [.ref wa]) (by walk_at "r") (Blt.lenL s.hw (by rw [hWl]; unfold cap; omega) ⟨rfl, rfl⟩)) (.lt ⟨rfl, rfl⟩)) fun t G7 ee => ?_
  obtain ⟨e, e'⟩ := ee
  subst e; subst e'
  rw [hWl]
  cases k with
  | zero => cases go
  | succ k =>
  refine ⟨fun e => ?_, fun e => ?_⟩
  · have hlt : a < W.length := by have := of_decide_eq_true e; omega
    obtain ⟨i, hi⟩ : ∃ i, W[a]? = some i := ⟨_, List.getElem?_eq_getElem hlt⟩
    have hiW := kw i (List.mem_of_getElem? hi)
    obtain ⟨i0, B, hB0, hways⟩ := hW.2 i hiW
    have hi1 := (List.getElem?_eq_some_iff.mp hB0).1
    have hfew := ok.few
    have hBm := ok.blks B (List.mem_of_getElem? hB0)
    refine SnB.assign (v := .int i) (.idxL (by walk_at "r") s.hw (by walk_at "r") (by unfold cap; omega) (seqAt_map hi)) (by walk_at "r") ?_
    refine SnB.aug (v := .int (a : Int)) (w := .int 1) (by walk_at "r") .int (Op2.iadd ⟨_, by walk_at "r", ?_⟩)
    refine SnB.setIdxQ (Rd.tru.to ⟨iw, _, i, by walk_at "r", by walk_at "r", s.hi, by unfold iwE; rw [List.length_map]; omega, fun G8 x8 i8 => ?_⟩)
    rw [iwE_st] at i8
    have s8 := s.putI x8 i8
    obtain ⟨k1, k2⟩ := st_keys' (v := false) ((ki i).mpr hiW)
    obtain ⟨b, hb0, ⟨sts, eo, hb1, hb2, hb3, hb4⟩⟩ := hB.get hB0
    obtain ⟨ff, fp, fl, fb, f1, ⟨g1, g2, g3⟩, f2, f3, f4⟩ := hf.ext s8.x
    have hsb : seqAt (bls.map Val.ref) i = some (.ref b) := by have := seqAt_map (f := Val.ref) hb0; rw [Int.toNat_of_nonneg i0] at this; exact this
    refine SnB.assign (v := .ref b) (.idxL (by walk_at "r") f4 (by walk_at "r") (by unfold cap; omega) hsb) (by walk_at "r") ?_
    refine SnB.assignQ (Sn.call T.f_need_ahead (by walk_at "r") (fun _ _ => rfl) (SnEs.cons (Rd.to (v := .ref f) (by walk_at "r") (SnEs.cons (Rd.to (v := .ref ad) (by walk_at "r") (SnEs.cons (Rd.to (v := .ref b) (by walk_at "r") (SnEs.cons (Sn.ref T.f_need_behind (by walk_at "r") (fun _ _ => rfl) (vs := [.ref b, .ref ah]) (by walk_at "r") (sp_need_behind T (hb1.ext s8.x) (hb3.ext s8.x) (hb4.ext s8.x) s8.ha (fun j hj => (ka j).mpr (hways j hj)) fun c G9 c9 x9 s9 => SnEs.nil ?_))))))))))
    have y9 := s8.x.trans x9
    refine sp_need_ahead T (hf.ext y9) (y9 _ _ ha) hok (hb1.ext y9) (hb2.ext y9) hBm.wf (hb3.ext y9) hBm.ends s9 fun G10 s10 x10 => ⟨_, by walk_at "r", ?_⟩
    have y10 : Ext G8 G10 := x9.fresh c9 x10
    have t10 := s8.ext y10
    obtain ⟨o1, o2, o3⟩ := s8.ha.look (k := i) ((ka i).mpr hiW)
    refine SnB.ifs (r := !Nat.beq (needP sl am B.steps B.fin.args (behindP (ahM l) B.ways)) (lookN (ahM l) i)) (.cmp (by walk_at "r") (.idxD (by walk_at "r") t10.ha.d (by walk_at "r") o2) (.neM s10 (o3.ext y10) (Ne.symm (o3.ne_new c9)))) (fun e => ?_) fun e => .nil (.next (.nil (.next ⟨k, Nat.lt_succ_self _, .mk (a := a + 1) (W := W) (l := l) ⟨t10, ?_, ka, fun j => (k2 j).trans (ki j), kw, l1, by omega, by omega⟩⟩)))
    · have hbl : (predsP Bs)[i.toNat]? = some ((predsP Bs).getD i.toNat []) := by
        rw [List.getD_eq_getElem?_getD]
        have : i.toNat < (predsP Bs).length := by rw [predsP_len]; exact hi1
        rw [List.getElem?_eq_getElem this]; rfl
      obtain ⟨la, la1, la2, la3⟩ := t10.hL.get hbl
      refine SnB.setIdxQ (Rd.to (v := .ref c) (by walk_at "r") ⟨ah, _, i, by walk_at "r", by walk_at "r", t10.ha.d, by unfold ahE; rw [List.length_map]; omega, fun G11 x11 a11 => ?_⟩)
      rw [ahE_st l i c (needP sl am B.steps B.fin.args (behindP (ahM l) B.ways))] at a11
      have s11 := t10.putA x11 a11 fun e he => by
        rcases mem_st he with q | q
        · exact t10.ha.s e q
        · rw [q]; exact s10
      have la11 := x11.kind t10.ha.d la2
      have hsl : seqAt (las.map Val.ref) i = some (.ref la) := by have := seqAt_map (f := Val.ref) la1; rw [Int.toNat_of_nonneg i0] at this; exact this
      generalize hN : needP sl am B.steps B.fin.args (behindP (ahM l) B.ways) = N at *
      have e' : Nat.beq N (lookN (ahM l) i) = false := by rw [← Bool.not_eq_true']; exact e
      have hgo : naGo sl am Bs (predsP Bs) (k + 1) W a (ahM l) IW = naGo sl am Bs (predsP Bs) k (((predsP Bs).getD i.toNat []).foldl (wake (st (ahM l) i N)) (W, st IW i false)).1 (a + 1) (st (ahM l) i N) (((predsP Bs).getD i.toNat []).foldl (wake (st (ahM l) i N)) (W, st IW i false)).2 := by
        show (match W[a]? with | none => _ | some i => _) = _; rw [hi]; show (match Bs[i.toNat]? with | none => _ | some B => _) = _; rw [hB0]; rw [← hN]; rw [← hN] at e'; exact if_neg (by rw [e']; decide)
      rw [hgo] at go
      have hLl := hL _ (List.mem_of_getElem? hbl)
      obtain ⟨k3, k4⟩ := st_keys' (v := N) ((ka i).mpr hiW)
      obtain ⟨k5, _⟩ := st_keys' (l := l) (v := (c, N)) (by rw [← ahE_keys] at ka; exact lkeys.mpr ((ka i).mpr hiW))
      generalize (predsP Bs).getD i.toNat [] = pl at *
      rw [← ahM_st l i c N] at go k4
      generalize st l i (c, N) = l' at *
      refine SnB.forN (a := la) (xs := pl.map .int) (.idxL (by walk_at "r") s11.hb (by walk_at "r") (by unfold cap; omega) hsl) la11 (fun xs m G' => ∃ r o W' IW', xs = r.map .int ∧ m = neL f ad wa bf ah iw (some (.int i)) (some (.int ((a + 1 : Nat) : Int))) (some (.ref b)) (some (.ref c)) o ∧ Na3 G wa bf ah iw la las (predsP Bs) W0 pl (W.length + 16) l' (pl.foldl (wake (ahM l')) (W, st IW i false)) r W' IW' G')
        ⟨pl, _, W, st IW i false, rfl, rfl, s11, rfl, fun j => (k2 j).trans (ki j), kw, by omega, by omega, la11⟩ ?_ ?_ ?_
      · intro v xs m G12 hI
        obtain ⟨r, o, W', IW', e1, e2, h⟩ := hI
        obtain ⟨j, r, rfl, rfl, rfl⟩ := cons_of_map e1
        subst e2
        have e7 := h.l3
        have e6 := h.l2
        rw [List.length_cons] at e7
        refine ⟨_, .name (Upd.put (os' := [some (.ref f), some (.ref ad), some (.ref wa), some (.ref bf), some (.ref ah), some (.ref iw), some (.int i), some (.int ((a + 1 : Nat) : Int)), some (.ref b), some (.ref c), some (.int j), none, none, none, none, none, none]) (by walk_at "r")), ?_⟩
        have hj : (lookE (ahE l') j).isSome = (lk (ahM l') j).isSome := by rw [lookE_lk, Bool.eq_iff_iff, lk_isSome, lk_isSome, ahE_keys]
        have hin : (lk (ahM l') j).isSome = true → j ∈ W0 := fun q => (ka j).mp ((k4 j).mp ((lk_isSome _ _).mp q))
        refine SnB.ifs (r := (lk (ahM l') j).isSome && !((lk IW' j).getD false)) ?_ (fun e => ?_) fun e => .nil (.next (.nil (.next ⟨r, _, W', IW', rfl, rfl, h.s, ?_, h.ki, h.kw, e6, by omega, h.la⟩)))
        · refine RdT.and (hj ▸ RdT.cmp (by walk_at "r") (by walk_at "r") (.inDict h.s.ha.d ⟨rfl, rfl⟩)) fun q => RdT.and1 (RdT.not (RdT.val (v := .bool ((lk IW' j).getD false)) (.idxD (by walk_at "r") h.s.hi (by walk_at "r") ?_) (.bool _)))
          obtain ⟨bv, hbv⟩ := Option.isSome_iff_exists.mp ((lk_isSome IW' j).mpr ((h.ki j).mpr (hin q)))
          rw [lookE_lk]; unfold iwE; rw [lk_map, hbv]; rfl
        · have q := hin (Bool.and_eq_true_iff.mp e).1
          refine SnB.setIdxQ (Rd.tru.to ⟨iw, _, j, by walk_at "r", by walk_at "r", h.s.hi, by unfold iwE; rw [List.length_map]; omega, fun G13 x13 i13 => ?_⟩)
          rw [iwE_st] at i13
          have s13 := h.s.putI x13 i13
          obtain ⟨k6, k7⟩ := st_keys' (v := true) ((h.ki j).mpr q)
          refine SnB.expr (Sn.meth .append (fun _ _ => rfl) (Rd.to (v := .ref wa) (by walk_at "r") ⟨.list s13.hw, Rds.to (vs := [.int j]) (by walk_at "r") (Meth.appN s13.hw (by rw [List.length_map]; omega) fun G14 x14 w14 => ?_)⟩))
          refine .nil (.next (.nil (.next ⟨r, _, W' ++ [j], st IW' j true, rfl, rfl, s13.putW x14 (w14.trans (by rw [List.map_append]; rfl)), ?_, fun z => (k7 z).trans (h.ki z), fun z hz => ?_, by omega, by rw [List.length_append, List.length_singleton]; omega, x14 _ _ (fun z => s13.n2 (z ▸ la3)) (x13.kind h.s.hi h.la)⟩)))
          · rw [← h.go, List.foldl_cons]; unfold wake; rw [if_pos e]
          · rcases List.mem_append.mp hz with hz | hz
            · exact h.kw z hz
            · rw [List.mem_singleton.mp hz]; exact q
        · rw [← h.go, List.foldl_cons]; unfold wake; rw [if_neg (by rw [e]; decide)]
      · intro m G12 hI
        obtain ⟨r, o, W', IW', e1, e2, h⟩ := hI
        obtain rfl := nil_of_map e1
        subst e2
        have e3' : (W', IW') = pl.foldl (wake (ahM l')) (W, st IW i false) := h.go
        rw [← e3'] at go
        have e7 := h.l3
        rw [List.length_nil] at e7
        exact .nil (.next (.nil (.next ⟨k, Nat.lt_succ_self _, .mk (a := a + 1) (W := W') (l := l') (IW := IW') ⟨h.s, go, fun j => (k4 j).trans (ka j), h.ki, h.kw, by omega, h.l2, by omega⟩⟩)))
      · intro xs' m G' hI
        obtain ⟨_, _, _, _, _, _, h⟩ := hI
        exact h.la
    · rw [← go]
      have e' : Nat.beq (needP sl am B.steps B.fin.args (behindP (ahM l) B.ways)) (lookN (ahM l) i) = true := by rw [← Bool.not_eq_false']; exact e
      symm
      show (match W[a]? with | none => _ | some i => _) = _; rw [hi]; show (match Bs[i.toNat]? with | none => _ | some B => _) = _; rw [hB0]; exact if_pos e'
  · have hn : W[a]? = none := List.getElem?_eq_none (by have := of_decide_eq_false e; omega)
    have : naGo sl am Bs (predsP Bs) (k + 1) W a (ahM l) IW = some (ahM l) := by show (match W[a]? with | none => _ | some i => _) = _; rw [hn]
    rw [this] at go
    exact SnB.retB (Rd.to (v := .ref ah) (by walk_at "r") (kk ah l _ s.q2 s.x s.ha (Option.some.inj go) (by rw [← Option.some.inj go]; exact ka) (by rw [← Option.some.inj go]; unfold ahM; rw [List.length_map]; exact l1)))
end
noncomputable section
variable {X : Cx} {n : Nat} {G : Gh} {sc : Scope} {os : List (Option Val)} {m : M}
noncomputable def ExtB (bls : List Addr) (G G' : Gh) : Prop := ∀ x o, x ∉ bls → G x = some o → G' x = some o
theorem ExtB.refl {bls : List Addr} : ExtB bls G G := fun _ _ _ e => e
theorem ExtB.trans {bls : List Addr} {G' G'' : Gh} (a : ExtB bls G G') (b : ExtB bls G' G'') : ExtB bls G G'' := fun x o n e => b x o n (a x o n e)
theorem Ext.toB {bls : List Addr} {G' : Gh} (a : Ext G G') : ExtB bls G G' := fun x o _ e => a x o e
theorem Ext1.toB {bls : List Addr} {G' : Gh} {b : Addr} (a : Ext1 b G G') (h : b ∈ bls) : ExtB bls G G' := fun x o n e => a x o (fun q => n (q ▸ h)) e
noncomputable def GObj.isBlk : GObj → Bool | .inst .block _ => true | _ => false
theorem BlksAt.mem {i : Int} {bls : List Addr} {Bs : List PB} (h : BlksAt G i bls Bs) : ∀ b ∈ bls, ∃ fs, G b = some (.inst .block fs) := by
  induction h with
  | nil => exact all_nil
  | cons a _ _ _ _ ih => obtain ⟨fs, _, h1, _⟩ := a; exact all_cons ⟨fs, h1⟩ ih
theorem BlksAt.off {i : Int} {bls : List Addr} {Bs : List PB} (h : BlksAt G i bls Bs) {x : Addr} {o : GObj} (e : G x = some o) (hk : o.isBlk = false) : x ∉ bls := fun q => by
  obtain ⟨fs, e'⟩ := h.mem x q
  rw [e] at e'; cases e'; cases hk
theorem FuncAt.extB {G' : Gh} {f : Addr} {ps : List Int} {sl : Slots} {bls : List Addr} {i : Int} {Bs : List PB} (h : FuncAt G f ps sl bls) (hB : BlksAt G i bls Bs) (x : ExtB bls G G') : FuncAt G' f ps sl bls := by
  obtain ⟨fs, p, s, b, h1, h2, h3, h4, h5⟩ := h
  exact ⟨fs, p, s, b, x _ _ (hB.off h1 rfl) h1, h2, x _ _ (hB.off h3 rfl) h3, x _ _ (hB.off h4 rfl) h4, x _ _ (hB.off h5 rfl) h5⟩
theorem StepAt.keep {G' : Gh} {a : Addr} {p : PS} (h : StepAt G a p) (x : ∀ z o, o.isBlk = false → G z = some o → G' z = some o) : StepAt G' a p := by
  obtain ⟨⟨fs, la, h1, h2, h3⟩, o⟩ := h
  exact ⟨⟨fs, la, x _ _ rfl h1, h2, x _ _ rfl h3⟩, o⟩
theorem EndAt.keep {G' : Gh} {p : PS} {js : List Int} (h : EndAt G p js) (x : ∀ z o, o.isBlk = false → G z = some o → G' z = some o) : EndAt G' p js := by
  cases h with
  | jump h e => exact .jump h e
  | branch h e => exact .branch h e
  | table h e hl hj => exact .table h e (x _ _ rfl hl) hj
  | other a b c => exact .other a b c
theorem Ext1.nb {G' : Gh} {b : Addr} {fs : Fld → Option Val} (x : Ext1 b G G') (e : G b = some (.inst .block fs)) : ∀ z o, o.isBlk = false → G z = some o → G' z = some o := fun z o h e' => x _ _ (fun q => by rw [q, e] at e'; cases e'; cases h) e'
noncomputable def sweepB (sl : Slots) (am : AddrM) (AH : List (Int × Nat)) (B : PB) : List (PS × Bool) := sweptP sl am B.steps B.fin.args (behindP AH B.ways)
noncomputable def chgB (kq : List (PS × Bool)) (B : PB) : Bool := Nat.blt kq.length B.steps.length || kq.any (·.2)
noncomputable def withSt (B : PB) (ss : List PS) : PB := ⟨ss, B.fin, B.ways⟩
noncomputable def swB (sl : Slots) (am : AddrM) (AH : List (Int × Nat)) (B : PB) : PB := if chgB (sweepB sl am AH B) B then withSt B ((sweepB sl am AH B).map (·.1)) else B
noncomputable def swFrom (F : PB → PB) (p : Int → Bool) : Int → List PB → List PB
  | _, [] => []
  | i, B :: Bs => (if p i then F B else B) :: swFrom F p (i + 1) Bs
noncomputable def chFrom (c : PB → Bool) (p : Int → Bool) : Int → List PB → Bool
  | _, [] => false
  | i, B :: Bs => (p i && c B) || chFrom c p (i + 1) Bs
noncomputable def orp (p : Int → Bool) (j : Int) : Int → Bool := fun i => p i || decide (i = j)
theorem swFrom_get {F : PB → PB} {p : Int → Bool} : ∀ {Bs : List PB} {i : Int} {k : Nat} {B : PB}, Bs[k]? = some B → (swFrom F p i Bs)[k]? = some (if p (i + k) then F B else B)
  | [], _, _, _, e => by cases e
  | B :: Bs, i, 0, _, e => by cases e; show some (if p i then F B else B) = some (if p (i + 0) then F B else B); rw [Int.add_zero]
  | B :: Bs, i, k + 1, C, e => by
    show (swFrom F p (i + 1) Bs)[k]? = _
    rw [swFrom_get (Bs := Bs) (i := i + 1) e, show i + ((k + 1 : Nat) : Int) = i + 1 + (k : Int) by omega]
theorem swFrom_congr {F : PB → PB} {p q : Int → Bool} : ∀ {Bs : List PB} {i : Int}, (∀ j, i ≤ j → p j = q j) → swFrom F p i Bs = swFrom F q i Bs
  | [], _, _ => rfl
  | B :: Bs, i, h => by show _ :: _ = _ :: _; rw [h i (Int.le_refl i), swFrom_congr (Bs := Bs) fun j hj => h j (by omega)]
theorem chFrom_congr {c : PB → Bool} {p q : Int → Bool} : ∀ {Bs : List PB} {i : Int}, (∀ j, i ≤ j → p j = q j) → chFrom c p i Bs = chFrom c q i Bs
  | [], _, _ => rfl
  | B :: Bs, i, h => by show (_ || _) = (_ || _); rw [h i (Int.le_refl i), chFrom_congr (Bs := Bs) fun j hj => h j (by omega)]
theorem chFrom_or {c : PB → Bool} {p : Int → Bool} {j : Int} : ∀ {Bs : List PB} {i : Int} {k : Nat} {B : PB}, Bs[k]? = some B → j = i + k → chFrom c (orp p j) i Bs = (chFrom c p i Bs || c B)
  | [], _, _, _, e, _ => by cases e
  | B :: Bs, i, 0, _, e, hj => by
    cases e
    obtain rfl : j = i := by omega
    have h1 : chFrom c (orp p j) (j + 1) Bs = chFrom c p (j + 1) Bs := chFrom_congr fun z hz => by
      have : z ≠ j := by omega
      show (p z || decide (z = j)) = p z
      rw [decide_eq_false this, Bool.or_false]
    show ((p j || decide (j = j)) && c B || chFrom c (orp p j) (j + 1) Bs) = (p j && c B || chFrom c p (j + 1) Bs || c B)
    rw [h1, decide_eq_true rfl, Bool.or_true, Bool.true_and]
    cases c B <;> cases p j <;> cases chFrom c p (j + 1) Bs <;> rfl
  | B :: Bs, i, k + 1, C, e, hj => by
    have h2 := chFrom_or (c := c) (p := p) (j := j) (Bs := Bs) (i := i + 1) e (by omega)
    have : i ≠ j := by omega
    show ((p i || decide (i = j)) && c B || chFrom c (orp p j) (i + 1) Bs) = (p i && c B || chFrom c p (i + 1) Bs || c C)
    rw [h2, decide_eq_false this, Bool.or_false, Bool.or_assoc]
theorem BlksAt.one {G' : Gh} {F : PB → PB} {p : Int → Bool} {b : Addr} {fb : Fld → Option Val} {j : Int} (x : Ext1 b G G') (eb : G b = some (.inst .block fb)) : ∀ {Bs : List PB} {bs : List Addr} {i : Int} {k : Nat}, BlksAt G i bs (swFrom F p i Bs) → bs[k]? = some b → bs.Nodup → j = i + k →
    (∀ B, Bs[k]? = some B → BlkAt G' b j (F B)) → BlksAt G' i bs (swFrom F (orp p j) i Bs)
  | [], bs, i, k, h, e, nd, hj, hn => by cases h; cases e
  | B :: Bs, bs, i, k, h, e, nd, hj, hn => by
    cases h with | @cons _ b' eo sts bs _ _ h1 h2 h3 h4 h5 =>
    obtain ⟨nd1, nd2⟩ := List.nodup_cons.mp nd
    have kp := x.nb eb
    have mv : ∀ {as ps}, StepsAt G as ps → StepsAt G' as ps := fun h => h.map fun _ _ s => s.keep kp
    have tail : ∀ {n : Int} {bs : List Addr} {Cs : List PB}, b ∉ bs → BlksAt G n bs Cs → BlksAt G' n bs Cs := fun hb h => by
      induction h with
      | nil => exact .nil
      | cons a c d e' _ ih =>
        obtain ⟨fs, st, a1, a2, a3⟩ := a
        exact .cons ⟨fs, st, x _ _ (Ne.symm (nm_hd hb)) a1, a2, kp _ _ rfl a3⟩ (mv c) (d.keep kp) (e'.keep kp) (ih (nm_tl hb))
    cases k with
    | zero =>
      obtain rfl : b' = b := Option.some.inj e
      obtain rfl : j = i := by omega
      obtain ⟨st', eo', n1, n2, n3, n4⟩ := hn B rfl
      have e1 : (if orp p j j then F B else B) = F B := if_pos (by unfold orp; rw [decide_eq_true rfl, Bool.or_true])
      have e2 : swFrom F (orp p j) (j + 1) Bs = swFrom F p (j + 1) Bs := swFrom_congr fun z hz => by
        have : z ≠ j := by omega
        show (p z || decide (z = j)) = p z
        rw [decide_eq_false this, Bool.or_false]
      show BlksAt G' j (b' :: bs) ((if orp p j j then F B else B) :: swFrom F (orp p j) (j + 1) Bs)
      rw [e1, e2]
      exact .cons n1 n2 n3 n4 (tail nd1 h5)
    | succ k =>
      have hm : b ∈ bs := List.mem_of_getElem? (show bs[k]? = some b from e)
      have ne : b' ≠ b := fun q => nd1 (q ▸ hm)
      have : i ≠ j := by omega
      have e1 : (if orp p j i then F B else B) = if p i then F B else B := by unfold orp; rw [decide_eq_false this, Bool.or_false]
      obtain ⟨fs, st, a1, a2, a3⟩ := h1
      show BlksAt G' i (b' :: bs) ((if orp p j i then F B else B) :: swFrom F (orp p j) (i + 1) Bs)
      rw [e1]
      exact .cons ⟨fs, st, x _ _ ne a1, a2, kp _ _ rfl a3⟩ (mv h2) (h3.keep kp) (h4.keep kp) (BlksAt.one x eb h5 e nd2 (by omega) hn)
theorem RelK.chg {sts ks : List Addr} {kq : List (PS × Bool)} (h : RelK G sts ks kq) : (∀ a ∈ sts, (G a).isSome = true) → ks.length = kq.length ∧ ks.length ≤ sts.length ∧ (ks.length = sts.length → ((ks.zip sts).any fun p => !decide (p.1 = p.2)) = kq.any (·.2)) := by
  induction h with
  | nil => exact fun _ => ⟨rfl, Nat.le_refl _, fun _ => rfl⟩
  | skip _ ih =>
    intro ha
    obtain ⟨h1, h2, _⟩ := ih (all_tl ha)
    exact ⟨h1, Nat.le_succ_of_le h2, fun q => by rw [List.length_cons] at q; omega⟩
  | same _ ih =>
    intro ha
    obtain ⟨h1, h2, h3⟩ := ih (all_tl ha)
    refine ⟨congrArg (· + 1) h1, Nat.succ_le_succ h2, fun q => ?_⟩
    rw [List.zip_cons_cons, List.any_cons, List.any_cons, h3 (Nat.succ.inj q), decide_eq_true rfl]; rfl
  | @new a c as ks p qs hc _ ih =>
    intro ha
    obtain ⟨h1, h2, h3⟩ := ih (all_tl ha)
    refine ⟨congrArg (· + 1) h1, Nat.succ_le_succ h2, fun q => ?_⟩
    have := ha _ (.head _)
    rw [List.zip_cons_cons, List.any_cons, List.any_cons, decide_eq_false (fun q : c = a => by rw [← q, hc] at this; cases this)]; rfl
theorem StepsAt.some {as : List Addr} {ps : List PS} (h : StepsAt G as ps) : ∀ a ∈ as, (G a).isSome = true := by
  induction h with
  | nil => exact all_nil
  | cons a _ ih => obtain ⟨⟨fs, la, h1, _⟩, _⟩ := a; exact all_cons (by rw [h1]; rfl) ih
theorem KsAt.steps {G0 : Gh} {h : Addr} {k : Nat} {as : List Addr} {qs : List (PS × Bool)} (q : KsAt G0 G as qs) (hs : SetAt G0 h k) (x : Ext1 h G0 G) : StepsAt G as (qs.map (·.1)) := by
  induction q with
  | nil => exact .nil
  | cons a _ ih => obtain ⟨⟨fs, la, h1, h2, h3⟩, o⟩ := a; exact .cons ⟨⟨fs, la, h1, h2, hs.kind x h3⟩, o⟩ ih
theorem SnB.setAN {Q : QS} {o e : PySem.Expr} {attr : Str} {f : Fld} {p pos : Pos} {sts : List PySem.Stmt} {c : Cls} {fs : Fld → Option Val} {a : Addr} {v : Val} (hc : ClsOK X) (ha : FldIs attr f) (h : Rd X n sc e m G v) (ho : Rd X n sc o m G (.ref a)) (e1 : G a = some (.inst c fs))
    (k : ∀ G', Ext1 a G G' → G' a = some (.inst c (fput fs f v)) → SnB X n sc sts m G' Q) (hsw : ∀ env, swapsWith e (some (.Attribute o attr p)) pos.line env = pure false := by intro _; rfl) : SnB X n sc (.Assign [.Attribute o attr p] e pos :: sts) m G Q :=
  .cons (.setAttr hc f ha.eq (h.to (ho.to ⟨a, c, fs, rfl, e1, .next (k _ .upd (Gh.upd_same ..))⟩)) hsw)
end
noncomputable section
variable {X : Cx} {n : Nat} {G : Gh} {sc : Scope} {os : List (Option Val)} {m : M}
noncomputable abbrev spL (f ad ah : Addr) (c : Bool) (i b k : Option Val) : M := L sc_sweep_steps [some (.ref f), some (.ref ad), some (.ref ah), some (.bool c), i, b, k, none, none, none, none, none, none, none]
structure Sw1 (G0 : Gh) (bls : List Addr) (F : PB → PB) (C : PB → Bool) (Bs : List PB) (ah la : Addr) (l : AhL) (rs : List Val) (K : List Int) (p : Int → Bool) (c : Bool) (r : List Int) (G : Gh) : Prop where
  x : ExtB bls G0 G
  hB : BlksAt G 0 bls (swFrom F p 0 Bs)
  ha : AhAt G ah l
  hl : G la = some (.list rs)
  hc : c = chFrom C p 0 Bs
  nd : r.Nodup
  dj : ∀ j ∈ r, p j = false
  me : ∀ j, j ∈ K ↔ j ∈ r ∨ p j = true
theorem swFrom_none {F : PB → PB} : ∀ {Bs : List PB} {i : Int}, swFrom F (fun _ => false) i Bs = Bs
  | [], _ => rfl
  | B :: Bs, i => by show _ :: _ = _; rw [swFrom_none]; rfl
theorem chFrom_none {C : PB → Bool} : ∀ {Bs : List PB} {i : Int}, chFrom C (fun _ => false) i Bs = false
  | [], _ => rfl
  | B :: Bs, i => by show (false && _ || _) = _; rw [chFrom_none]; rfl
theorem AhAt.extB {G' : Gh} {d i : _} {l : AhL} {bls : List Addr} {Bs : List PB} (h : AhAt G d l) (hB : BlksAt G i bls Bs) (x : ExtB bls G G') : AhAt G' d l :=
  h.keep (x _ _ (hB.off h.d rfl) h.d) fun a k s => by obtain ⟨f, s⟩ := s; exact ⟨f, x _ _ (hB.off s rfl) s⟩
theorem sp_sweep_steps {f ad : Addr} {pr : List Int} {sl : Slots} {bls : List Addr} {am : AddrM} {Bs : List PB} {W0 : List Int} {AH : List (Int × Nat)} {Q : QE} (T : Tops X) (hf : FuncAt G f pr sl bls) (ha : G ad = some (.dict (adE am))) (hok : AdOK am sl)
    (hB : BlksAt G 0 bls Bs) (hnd : bls.Nodup) (ok : FnOK Bs) (hpo : postP Bs = some W0) (hW : PoOK Bs W0) (hL : ∀ l ∈ predsP Bs, l.length ≤ 16) (hgo : naGo sl am Bs (predsP Bs) 100 W0 0 (AH0 W0) (IW0 W0) = some AH)
    (kk : ∀ G', ExtB bls G G' → BlksAt G' 0 bls (swFrom (swB sl am AH) (fun i => (lk AH i).isSome) 0 Bs) → Q (.bool (chFrom (fun B => chgB (sweepB sl am AH B) B) (fun i => (lk AH i).isSome) 0 Bs)) G') : Cal X (n + 6) a_sweep_steps [.ref f, .ref ad] G Q := by
  refine' Cal.start (os := ?os) T.d_sweep_steps ?q ?b; case q => walk_at "r"
  case b =>
  refine SnB.assignQ (Sn.ref T.f_needs_ahead (by walk_at "r") (fun _ _ => rfl) (vs := [.ref f, .ref ad]) (by walk_at "r") (sp_needs_ahead T hf ha hok hB ok hpo hW hL hgo fun ah l G1 h1 x1 a1 hl hAH hAl => ⟨_, by walk_at "r", ?_⟩))
  subst hl
  refine SnB.assign (v := .bool false) .tru (by walk_at "r") ?_
  have hkeys : ∀ j, (lookE (ahE l) j).isSome = true ↔ j ∈ W0 := fun j => by rw [lookE_lk, lk_isSome, ahE_keys]; exact hAH j
  refine SnB.forQ (Sn.fn (id := "sorted") T.blt (by decide) (by decide) (by walk_at "r") (fun _ _ => rfl) (Rds.to (vs := [.ref ah]) (by walk_at "r") (Blt.sorted a1.d (by unfold ahE; unfold ahM at hAl; rw [List.length_map] at hAl ⊢; omega) fun ks hk1 hk2 la hla => ?_)))
  have x2 := Ext.new (o := .list (ks.map .int)) hla
  refine ⟨la, _, fun xs m G' => ∃ p r c i b k, xs = r.map .int ∧ m = spL f ad ah c i b k ∧ Sw1 G bls (swB sl am (ahM l)) (fun B => chgB (sweepB sl am (ahM l) B) B) Bs ah la l (ks.map .int) W0 p c r G', rfl, Gh.upd_same .., ⟨?_, ?_⟩,
    ⟨fun _ => false, ks, false, none, none, none, rfl, rfl, (x1.trans x2).toB, by rw [swFrom_none]; exact hB.ext (x1.trans x2), a1.ext x2, Gh.upd_same .., chFrom_none.symm, hk1.imp fun h => Int.ne_of_lt h, fun _ _ => rfl, fun j => by rw [hk2, hkeys]; simp⟩⟩
  · intro v xs m G3 hI
    obtain ⟨p, r, c, i, b', k, e1, e2, h⟩ := hI
    obtain ⟨j, r, rfl, rfl, rfl⟩ := cons_of_map e1
    subst e2
    have hd := hnd
    obtain ⟨nj, nd⟩ := List.nodup_cons.mp h.nd
    have pj := h.dj j (.head _)
    have jW := (h.me j).mpr (.inl (.head _))
    obtain ⟨j0, B, hB0, hways⟩ := hW.2 j jW
    have j1 := (List.getElem?_eq_some_iff.mp hB0).1
    have hfew := ok.few
    have hBm := ok.blks B (List.mem_of_getElem? hB0)
    have jj : ((j.toNat : Nat) : Int) = j := Int.toNat_of_nonneg j0
    have hcur := swFrom_get (F := swB sl am (ahM l)) (p := p) (i := 0) hB0
    rw [jj, Int.zero_add, pj] at hcur
    obtain ⟨b, hb0, ⟨sts, eo, hb1, hb2, hb3, hb4⟩⟩ := h.hB.get hcur
    rw [jj, Int.zero_add] at hb1
    have hb2 : StepsAt G3 sts B.steps := hb2
    have hb3 : StepAt G3 eo B.fin := hb3
    have hb4 : EndAt G3 B.fin B.ways := hb4
    have hbm := List.mem_of_getElem? hb0
    have hf3 := hf.extB hB h.x
    obtain ⟨ff, fp, fl, fb, f1, ⟨g1, g2, g3⟩, f2, f3, f4⟩ := id hf3
    have hsb : seqAt (bls.map Val.ref) j = some (.ref b) := by have := seqAt_map (f := Val.ref) hb0; rw [jj] at this; exact this
    refine ⟨h.hl, _, .name (Upd.put (os' := [some (.ref f), some (.ref ad), some (.ref ah), some (.bool c), some (.int j), _, k, none, none, none, none, none, none, none]) (by walk_at "r")), ?_⟩
    refine SnB.assign (v := .ref b) (.idxL (by walk_at "r") f4 (by walk_at "r") (by unfold cap; omega) hsb) (by walk_at "r") ?_
    have hlen : sts.length < 1000 := by have := hb2.length; have := hBm.len; omega
    refine SnB.assignQ (Sn.call T.f_swept_steps (by walk_at "r") (fun _ _ => rfl) (SnEs.cons (Rd.to (v := .ref f) (by walk_at "r") (SnEs.cons (Rd.to (v := .ref ad) (by walk_at "r") (SnEs.cons (Rd.to (v := .ref b) (by walk_at "r") (SnEs.cons (Sn.ref T.f_need_behind (by walk_at "r") (fun _ _ => rfl) (vs := [.ref b, .ref ah]) (by walk_at "r") (sp_need_behind T hb1 hb3 hb4 h.ha (fun j hj => (hAH j).mpr (hways j hj)) fun hh G4 c4 x4 s4 => SnEs.nil ?_))))))))))
    refine sp_swept_steps T (hf3.ext x4) (x4 _ _ (h.x _ _ (hB.off ha rfl) ha)) hok (hb1.ext x4) (hb2.ext x4) hBm.wf hlen (hb3.ext x4) hBm.ends s4 fun c5 ks5 G5 n5 x5 l5 r5 k5 len5 => ⟨_, by walk_at "r", ?_⟩
    have x35 : Ext G3 G5 := x4.fresh c4 x5
    obtain ⟨fbb, stl, e1, ⟨b1, b2, b3⟩, e3⟩ := id (hb1.ext x35)
    obtain ⟨z1, z2, z3⟩ := r5.chg (hb2.ext x4).some
    have hsl := hb2.length
    have hC : (decide (((ks5.map Val.ref).length : Int) < ((sts.map Val.ref).length : Int)) || ((ks5.zip sts).any fun p => !decide (p.1 = p.2))) = chgB (sweepB sl am (ahM l) B) B := by
      rw [List.length_map, List.length_map]
      unfold chgB
      show _ = (Nat.blt (sweptP sl am B.steps B.fin.args (behindP (ahM l) B.ways)).length B.steps.length || (sweptP sl am B.steps B.fin.args (behindP (ahM l) B.ways)).any (·.2))
      rw [← z1, ← hsl]
      by_cases q : ks5.length < sts.length
      · rw [decide_eq_true (show (ks5.length : Int) < sts.length by omega), show Nat.blt ks5.length sts.length = true from Nat.ble_eq_true_of_le q]; rfl
      · rw [decide_eq_false (show ¬ (ks5.length : Int) < sts.length by omega), show Nat.blt ks5.length sts.length = false from Bool.eq_false_iff.mpr fun h => q (Nat.le_of_ble_eq_true h), z3 (by omega)]
    have hsome : ∀ z ∈ ks5, (G5 z).isSome = true := (k5.steps s4 x5).some
    have next : ∀ (c' : Bool) (k' : Option Val) (G6 : Gh), Ext1 b G5 G6 → c' = (c || chgB (sweepB sl am (ahM l) B) B) → BlkAt G6 b j (swB sl am (ahM l) B) → ∃ p r1 c i y k, r.map Val.int = r1.map .int ∧ spL f ad ah c' (some (.int j)) (some (.ref b)) k' = spL f ad ah c i y k ∧ Sw1 G bls (swB sl am (ahM l)) (fun B => chgB (sweepB sl am (ahM l) B) B) Bs ah la l (ks.map .int) W0 p c r1 G6 := fun c' k' G6 x6 ec hbk => by
      have hB5 := h.hB.ext x35
      have xB : ExtB bls G3 G6 := x35.toB.trans (x6.toB hbm)
      refine ⟨orp p j, r, c', _, _, k', rfl, rfl, h.x.trans xB, hB5.one x6 e1 hb0 hnd (by rw [jj, Int.zero_add]) (fun B' q => by rw [hB0] at q; cases q; exact hbk), h.ha.extB h.hB xB, xB _ _ (h.hB.off h.hl rfl) h.hl, by rw [ec, h.hc, chFrom_or (j := j) (i := 0) hB0 (by rw [jj, Int.zero_add])], nd, fun z hz => ?_, fun z => ?_⟩
      · show (p z || decide (z = j)) = false
        rw [h.dj z (.tail _ hz), decide_eq_false (fun q : z = j => nj (q ▸ hz))]; rfl
      · rw [h.me z, List.mem_cons]
        show _ ↔ z ∈ r ∨ (p z || decide (z = j)) = true
        rw [Bool.or_eq_true, decide_eq_true_iff]
        exact ⟨fun q => q.elim (fun q => q.elim (fun q => .inr (.inr q)) .inl) fun q => .inr (.inl q), fun q => q.elim (fun q => .inl (.inr q)) fun q => q.elim .inr fun q => .inl (.inl q)⟩
    refine SnB.ifs (r := chgB (sweepB sl am (ahM l) B) B) ?_ (fun e => ?_) fun e => .nil (.next (.nil (.next (next c _ G5 .refl (by rw [e, Bool.or_false]) ?_))))
    · rw [← hC]
      refine RdT.or (RdT.cmp (.fn (id := "len") T.blt (by decide) (by decide) (by walk_at "r") (fun _ _ => rfl) (vs := [.ref c5]) (by walk_at "r") (Blt.lenL l5 (by rw [List.length_map]; unfold cap; omega) ⟨rfl, rfl⟩)) (.fn (id := "len") T.blt (by decide) (by decide) (by walk_at "r") (fun _ _ => rfl) (vs := [.ref stl]) (by walk_at "r") (Blt.lenL e3 (by rw [List.length_map]; unfold cap; omega) ⟨rfl, rfl⟩)) (.lt ⟨rfl, rfl⟩)) fun _ => RdT.or1 (RdT.val (Sn.anyNew T.blt (by walk_at "r") (by walk_at "r") (fun _ _ => rfl) (by decide +kernel) ?_ ?_ ?_ (by decide +kernel) (Rds.to (vs := [.ref c5, .ref stl]) (by walk_at "r") ⟨c5, stl, ks5, sts, rfl, l5, e3, by unfold cap; omega, by unfold cap; omega, hsome, (hb2.ext x35).some, rfl, rfl⟩)) (.bool _))
      · decide +kernel
      · decide +kernel
      · decide +kernel
    · refine SnB.setAN (f := .steps) T.cls (by walk_at "r") (v := .ref c5) (by walk_at "r") (by walk_at "r") e1 fun G6 x6 e6 => ?_
      refine SnB.assign (v := .bool true) .tru (by walk_at "r") (.nil (.next (.nil (.next (next true _ G6 x6 (by rw [e, Bool.or_true]) ?_)))))
      have kp := x6.nb e1
      have sw : swB sl am (ahM l) B = withSt B ((sweepB sl am (ahM l) B).map (·.1)) := if_pos e
      rw [sw]
      exact ⟨ks5, eo, ⟨_, c5, e6, ⟨b1, rfl, b3⟩, kp _ _ rfl l5⟩, (k5.steps s4 x5).map fun _ _ s => s.keep kp, (hb3.ext x35).keep kp, (hb4.ext x35).keep kp⟩
    · have sw : swB sl am (ahM l) B = B := if_neg (by rw [e]; decide)
      rw [sw]
      exact ⟨sts, eo, ⟨fbb, stl, e1, ⟨b1, b2, b3⟩, e3⟩, hb2.ext x35, hb3.ext x35, hb4.ext x35⟩
  · intro m G3 hI
    obtain ⟨p, r, c, i, b', k, e1, e2, h⟩ := hI
    obtain rfl := nil_of_map e1
    subst e2
    have hp : ∀ j : Int, p j = (lk (ahM l) j).isSome := fun j => by
      rw [Bool.eq_iff_iff, lk_isSome]
      refine Iff.trans ?_ (hAH j).symm
      rw [h.me j]
      exact ⟨.inr, fun q => q.elim (fun q => nomatch q) id⟩
    refine ⟨h.hl, .next (SnB.retB (Rd.to (v := .bool c) (by walk_at "r") ?_))⟩
    rw [h.hc, chFrom_congr fun j _ => hp j]
    have hB3 := h.hB
    rw [swFrom_congr fun j _ => hp j] at hB3
    exact kk G3 h.x hB3
end
noncomputable section
variable {X : Cx} {n : Nat} {G : Gh} {sc : Scope} {os : List (Option Val)} {m : M}
inductive Go (P : M → Gh → Prop) : Fl → M → Gh → Prop where
  | next {m : M} {G : Gh} (h : P m G) : Go P .next m G
  | cont {m : M} {G : Gh} (h : P m G) : Go P .cont m G
theorem Go.turn {P : M → Gh → Prop} {Q : QS} {fl : Fl} (h : Go P fl m G) : Turn P Q fl m G := by
  cases h with
  | next h => exact .next h
  | cont h => exact .cont h
section
variable {α : Type}
inductive FbO (sc : Scope) (F : α → Option Val → Option Val → List (Option Val)) (G : Gh) (Bs : List PB) (JB : List PB → Gh → Prop) (xs : List Val) (m : M) (G' : Gh) : Prop where
  | mk (i : Int) (bs : List Addr) (Cs : List PB) (z : α) (x y : Option Val) (e1 : xs = bs.map .ref) (e2 : m = L sc (F z x y)) (hb : BlksAt G i bs Cs) (hm : ∀ B ∈ Cs, B ∈ Bs) (hJ : JB Cs G')
inductive FbI (sc : Scope) (F : α → Option Val → Option Val → List (Option Val)) (G : Gh) (B : PB) (x : Option Val) (J : List PS → Gh → Prop) (xs : List Val) (m : M) (G' : Gh) : Prop where
  | mk (ss : List Addr) (ps : List PS) (z : α) (y : Option Val) (e1 : xs = ss.map .ref) (e2 : m = L sc (F z x y)) (hs : StepsAt G ss ps) (hp : ∀ p ∈ ps, p ∈ B.steps) (hJ : J ps G')
inductive FbP (sc : Scope) (F : α → Option Val → Option Val → List (Option Val)) (J : Gh → Prop) (m : M) (G' : Gh) : Prop where
  | mk (z : α) (x y : Option Val) (e : m = L sc (F z x y)) (h : J G')
inductive FbQ (sc : Scope) (F : α → Option Val → Option Val → List (Option Val)) (x : Option Val) (J : Gh → Prop) (m : M) (G' : Gh) : Prop where
  | mk (z : α) (y : Option Val) (e : m = L sc (F z x y)) (h : J G')
theorem Go.mono {P P' : M → Gh → Prop} {fl : Fl} (h : Go P fl m G) (k : P m G → P' m G) : Go P' fl m G := by
  cases h with
  | next h => exact .next (k h)
  | cont h => exact .cont (k h)
theorem SnB.forBlocks {Q : QS} {body tl sts : List PySem.Stmt} {p1 p2 p3 p4 p5 p6 p7 p8 : Pos} {f : Addr} {pr : List Int} {sl : Slots} {bls : List Addr} {Bs : List PB} {G1 : Gh} {z0 : α} {x0 y0 : Option Val} (hc : ClsOK X) (F : α → Option Val → Option Val → List (Option Val))
    (ub : ∀ z x y v, Upd false sc.names (F z x y) "block" v (F z (some v) y)) (us : ∀ z x y v, Upd false sc.names (F z x y) "step" v (F z x (some v))) (lb : ∀ z v y, Loc sc.names (F z (some v) y) "block" v) (lf : ∀ z x y, Loc sc.names (F z x y) "func" (.ref f))
    (hf : FuncAt G f pr sl bls) (hB : BlksAt G 0 bls Bs) (JB : List PB → Gh → Prop) (JS : PB → List PB → List PS → Gh → Prop) (h0 : JB Bs G1) (kb : ∀ Cs G', JB Cs G' → Ext G G') (ks : ∀ B Cs r G', JS B Cs r G' → Ext G G')
    (start : ∀ B Cs G', JB (B :: Cs) G' → JS B Cs B.steps G')
    (turn : ∀ B Cs p r z x a G', B ∈ Bs → p ∈ B.steps → StepAt G a p → JS B Cs (p :: r) G' → SnB X n sc body (L sc (F z x (some (.ref a)))) G' (Go (FbQ sc F x (JS B Cs r))))
    (tail : ∀ B Cs z y b fb eo G', B ∈ Bs → G b = some (.inst .block fb) → fb .end_ = some (.ref eo) → StepAt G eo B.fin → JS B Cs [] G' → SnB X n sc tl (L sc (F z (some (.ref b)) y)) G' (Go (FbP sc F (JB Cs))))
    (k : ∀ z x y G', JB [] G' → SnB X n sc sts (L sc (F z x y)) G' Q) :
    SnB X n sc (.For (.Name "block" p1) (.Attribute (.Name "func" p2) "blocks" p3) (.For (.Name "step" p4) (.Attribute (.Name "block" p5) "steps" p6) body [] p7 :: tl) [] p8 :: sts) (L sc (F z0 x0 y0)) G1 Q := by
  obtain ⟨ff, fp, fl, fb, f1, ⟨g1, g2, g3⟩, f2, f3, f4⟩ := hf
  refine SnB.forN (.attr hc .blocks (.var (lf _ _ _)) (kb _ _ h0 _ _ f1) g3) (kb _ _ h0 _ _ f4) (FbO sc F G Bs JB) ⟨0, bls, Bs, z0, x0, y0, rfl, rfl, hB, fun _ h => h, h0⟩ (fun v xs m G' hI => ?_) (fun m G' hI => ?_) fun xs' m G' hI => ?_
  · obtain ⟨i, bs, Cs, z, x, y, e1, e2, hb, hm, hJ⟩ := hI
    obtain ⟨b, bs, rfl, rfl, rfl⟩ := cons_of_map e1
    subst e2
    cases hb with | @cons _ _ eo as _ B Cs a1 a2 a3 a4 a5 =>
    obtain ⟨fs, st, b1, ⟨b2, b3, b4⟩, b5⟩ := a1
    have hJ' := start _ _ _ hJ
    refine ⟨_, .name (Upd.put (ub z x y _)), ?_⟩
    refine SnB.forN (.attr hc .steps (.var (lb _ _ _)) (kb _ _ hJ _ _ b1) b3) (kb _ _ hJ _ _ b5) (FbI sc F G B (some (.ref b)) (JS B Cs)) ⟨as, B.steps, z, y, rfl, rfl, a2, fun _ h => h, hJ'⟩ (fun v xs m G2 hI => ?_) (fun m G2 hI => ?_) fun xs' m G2 hI => ?_
    · obtain ⟨ss, ps, z, y, e1, e2, hs, hp, hJ2⟩ := hI
      obtain ⟨a, ss, rfl, rfl, rfl⟩ := cons_of_map e1
      subst e2
      cases hs with | @cons _ p _ ps s1 s2 =>
      exact ⟨_, .name (Upd.put (us z _ y _)), (turn B Cs p ps z _ a G2 (hm _ (.head _)) (hp _ (.head _)) s1 hJ2).mono fun fl m G3 q => (q.mono fun ⟨z, y, e, h⟩ => ⟨ss, ps, z, y, rfl, e, s2, fun p h => hp p (.tail _ h), h⟩).turn⟩
    · obtain ⟨ss, ps, z, y, e1, e2, hs, hp, hJ2⟩ := hI
      obtain rfl := nil_of_map e1
      subst e2
      cases hs
      exact (tail B Cs z y b fs eo G2 (hm _ (.head _)) b1 b4 a3 hJ2).mono fun fl m G3 q => (q.mono fun ⟨z, x, y, e, h⟩ => ⟨_, bs, Cs, z, x, y, rfl, e, a5, fun B h => hm B (.tail _ h), h⟩).turn
    · obtain ⟨ss, ps, z, y, e1, e2, hs, hp, hJ2⟩ := hI
      exact ks _ _ _ _ hJ2 _ _ b5
  · obtain ⟨i, bs, Cs, z, x, y, e1, e2, hb, hm, hJ⟩ := hI
    obtain rfl := nil_of_map e1
    subst e2
    cases hb
    exact k z x y G' hJ
  · obtain ⟨i, bs, Cs, z, x, y, e1, e2, hb, hm, hJ⟩ := hI
    exact kb _ _ hJ _ _ f4
end
end
noncomputable section
variable {X : Cx} {n : Nat} {G : Gh} {sc : Scope} {os : List (Option Val)} {m : M}
noncomputable def allSt (Bs : List PB) : List PS := Bs.flatMap (·.steps)
noncomputable def slotP (ss : List PS) : List PS := ss.filter fun p => Nat.beq p.op 9
theorem slotP_pos {p : PS} {r : List PS} (h : Nat.beq p.op 9 = true) : slotP (p :: r) = p :: slotP r := List.filter_cons_of_pos (p := fun p : PS => Nat.beq p.op 9) h
theorem slotP_neg {p : PS} {r : List PS} (h : Nat.beq p.op 9 = false) : slotP (p :: r) = slotP r := List.filter_cons_of_neg (p := fun p : PS => Nat.beq p.op 9) (by rw [h]; decide)
theorem allSt_cons (B : PB) (Bs : List PB) : allSt (B :: Bs) = B.steps ++ allSt Bs := List.flatMap_cons ..
theorem StepsAt.snoc {as : List Addr} {ps : List PS} {a : Addr} {p : PS} (h : StepsAt G as ps) (s : StepAt G a p) : StepsAt G (as ++ [a]) (ps ++ [p]) := h.append (.cons s .nil)
inductive SlJ (G0 Gs : Gh) (fo : Addr) (goal : List PS) (r : List PS) (G : Gh) : Prop where
  | mk (as : List Addr) (ps : List PS) (x : Ext G0 G) (y : Ext Gs G) (hl : G fo = some (.list (as.map .ref))) (hs : StepsAt G0 as ps) (hg : ps ++ slotP r = goal) (hc : as.length + r.length ≤ 900)
theorem SlJ.x {G0 Gs : Gh} {fo : Addr} {goal r : List PS} (h : SlJ G0 Gs fo goal r G) : Ext G0 G := by cases h; assumption
theorem sp_slot_steps {G0 : Gh} {f : Addr} {pr : List Int} {sl : Slots} {bls : List Addr} {Bs : List PB} {Q : QE} (T : Tops X) (hf : FuncAt G0 f pr sl bls) (hB : BlksAt G0 0 bls Bs) (x0 : Ext G0 G) (ht : (allSt Bs).length ≤ 900)
    (kk : ∀ c as G', G c = none → Ext G G' → G' c = some (.list (as.map .ref)) → StepsAt G0 as (slotP (allSt Bs)) → as.length ≤ 900 → Q (.ref c) G') : Cal X (n + 1) a_slot_steps [.ref f] G Q := by
  refine' Cal.start (os := ?os) T.d_slot_steps ?q ?b; case q => walk_at "r"
  case b =>
  refine SnB.assignQ (Sn.listN .nil fun fo G1 h1 x1 l1 => ⟨_, by walk_at "r", ?_⟩)
  refine SnB.forBlocks (α := Unit) (z0 := ()) T.cls (fun _ x y => [some (.ref f), some (.ref fo), x, y]) (fun _ _ _ _ => by walk_at "r") (fun _ _ _ _ => by walk_at "r") (fun _ _ _ => by walk_at "r") (fun _ _ _ => by walk_at "r") hf hB (fun Cs => SlJ G0 G fo (slotP (allSt Bs)) (allSt Cs)) (fun B Cs r => SlJ G0 G fo (slotP (allSt Bs)) (r ++ allSt Cs))
    ⟨[], [], x0.trans x1, x1, l1, .nil, rfl, by rw [List.length_nil]; omega⟩ (fun _ _ h => h.x) (fun _ _ _ _ h => h.x) (fun B Cs G' h => by rw [← allSt_cons]; exact h) (fun B Cs p r z x a G' _ _ hs hJ => ?_) (fun B Cs z y b fb eo G' _ _ _ _ h => .nil (.next ⟨z, _, y, rfl, h⟩)) fun z x y G' h => ?_
  · obtain ⟨as, ps, x', y', hl, hs', hg, hc⟩ := hJ
    obtain ⟨⟨fs, la, s1, ⟨f1, f2, f3, f4, f5, _⟩, s2⟩, so⟩ := hs.ext x'
    rw [List.cons_append, List.length_cons] at hc
    refine SnB.ifs (r := Nat.beq p.op 9) ?_ (fun e => ?_) fun e => .nil (.next (.nil (.next ⟨z, _, rfl, as, ps, x', y', hl, hs', ?_, by omega⟩)))
    · rw [← op_slot p.op so]; exact .cmp (by walk_at "r") (by walk_at "r") (.eqS ⟨rfl, rfl⟩)
    · refine SnB.expr (Sn.meth .append (fun _ _ => rfl) (Rd.to (v := .ref fo) (by walk_at "r") ⟨.list hl, Rds.to (vs := [.ref a]) (by walk_at "r") (Meth.appN hl (by rw [List.length_map]; omega) fun G2 x2 l2 => ?_)⟩))
      refine .nil (.next (.nil (.next ⟨z, _, rfl, as ++ [a], ps ++ [p], x'.fresh (x0.none h1) x2, y'.fresh h1 x2, by rw [l2, List.map_append]; rfl, hs'.snoc hs, ?_, by rw [List.length_append, List.length_singleton]; omega⟩)))
      rw [← hg, List.append_assoc]; exact congrArg (ps ++ ·) (slotP_pos (r := r ++ allSt Cs) e).symm
    · rw [← hg, List.cons_append, slotP_neg e]
  · obtain ⟨as, ps, x', y', hl, hs', hg, hc⟩ := h
    have e : ps = slotP (allSt Bs) := by rw [← hg]; exact (List.append_nil ps).symm
    exact SnB.retB (Rd.to (v := .ref fo) (by walk_at "r") (kk fo as G' h1 y' hl (e ▸ hs') (by omega)))
noncomputable def timesStep (rg : AddrM) (T : List (Int × Int)) (p : PS) : List (Int × Int) := if (lk rg p.dst).isSome then st T p.dst ((lk T p.dst).getD 0 + 1) else T
noncomputable def timesP (pa : List Int) (rg : AddrM) (ss : List PS) : List (Int × Int) := ss.foldl (timesStep rg) (pa.foldl (fun T r => st T r 1) [])
theorem adE_st (l : AddrM) (k v : Int) : st (adE l) k (.int v) = adE (st l k v) := (st_map Val.int l k v).symm
theorem adE_len (l : AddrM) : (adE l).length = l.length := List.length_map ..
theorem lookE_ad (l : AddrM) (k : Int) : lookE (adE l) k = (lk l k).map .int := lk_map Val.int l k
theorem ad_isSome (l : AddrM) (k : Int) : (lookE (adE l) k).isSome = (lk l k).isSome := by rw [lookE_ad, Option.isSome_map]
inductive TsJ (G0 : Gh) (fo : Addr) (rg : AddrM) (goal : List (Int × Int)) (r : List PS) (G : Gh) : Prop where
  | mk (T : List (Int × Int)) (x : Ext G0 G) (hl : G fo = some (.dict (adE T))) (hg : r.foldl (timesStep rg) T = goal) (hc : T.length + r.length ≤ 1000)
theorem TsJ.x {G0 : Gh} {fo : Addr} {rg : AddrM} {goal : List (Int × Int)} {r : List PS} (h : TsJ G0 fo rg goal r G) : Ext G0 G := by cases h; assumption
inductive TsI (G0 : Gh) (f rd fo : Addr) (goal : List (Int × Int)) (K : Nat) (xs : List Val) (m : M) (G : Gh) : Prop where
  | mk (r : List Int) (z : Option Val) (T : List (Int × Int)) (e1 : xs = r.map .int) (e2 : m = L sc_times_set [some (.ref f), some (.ref rd), some (.ref fo), z, none, none]) (x : Ext G0 G) (hl : G fo = some (.dict (adE T))) (hg : r.foldl (fun T r => st T r 1) T = goal) (hc : T.length + r.length ≤ K)
theorem sp_times_set {f rd : Addr} {pr : List Int} {sl : Slots} {bls : List Addr} {Bs : List PB} {rg : AddrM} {Q : QE} (T : Tops X) (hf : FuncAt G f pr sl bls) (hr : G rd = some (.dict (adE rg))) (hB : BlksAt G 0 bls Bs) (ht : (allSt Bs).length ≤ 900) (hp : pr.length ≤ 50)
    (kk : ∀ c G', G c = none → Ext G G' → G' c = some (.dict (adE (timesP pr rg (allSt Bs)))) → Q (.ref c) G') : Cal X (n + 1) a_times_set [.ref f, .ref rd] G Q := by
  obtain ⟨ff, fp, fl, fb, f1, ⟨g1, g2, g3⟩, f2, f3, f4⟩ := id hf
  refine' Cal.start (os := ?os) T.d_times_set ?q ?b; case q => walk_at "r"
  case b =>
  refine SnB.assignQ (Sn.dictN fun fo G1 h1 x1 l1 => ⟨_, by walk_at "r", ?_⟩)
  have f1' := x1 _ _ f1
  refine SnB.forN (a := fp) (by walk_at "r") (x1 _ _ f2) (TsI G f rd fo (pr.foldl (fun T r => st T r 1) []) 60) ⟨pr, none, [], rfl, rfl, x1, l1, rfl, by rw [List.length_nil]; omega⟩ (fun v xs m G' hI => ?_) (fun m G' hI => ?_) fun xs' m G' hI => by obtain ⟨r, z, T, e1, e2, x, hl, hg, hc⟩ := hI; exact x _ _ f2
  · obtain ⟨r, z, T', e1, e2, x, hl, hg, hc⟩ := hI
    obtain ⟨i, r, rfl, rfl, rfl⟩ := cons_of_map e1
    subst e2
    rw [List.length_cons] at hc
    refine ⟨_, .name (Upd.put (os' := [some (.ref f), some (.ref rd), some (.ref fo), some (.int i), none, none]) (by walk_at "r")), ?_⟩
    have := st_len T' i 1
    exact SnB.setIdxQ (Rd.int.to ⟨fo, _, i, by walk_at "r", by walk_at "r", hl, by rw [adE_len]; omega, fun G2 x2 l2 => .nil (.next ⟨r, _, st T' i 1, rfl, rfl, x.fresh h1 x2, by rw [l2, adE_st], hg, by omega⟩)⟩)
  · obtain ⟨r, z, T', e1, e2, x, hl, hg, hc⟩ := hI
    obtain rfl := nil_of_map e1
    subst e2
    rw [List.length_nil] at hc
    refine SnB.forBlocks (α := Unit) (z0 := ()) T.cls (fun _ x y => [some (.ref f), some (.ref rd), some (.ref fo), z, x, y]) (fun _ _ _ _ => by walk_at "r") (fun _ _ _ _ => by walk_at "r") (fun _ _ _ => by walk_at "r") (fun _ _ _ => by walk_at "r") hf hB (fun Cs => TsJ G fo rg (timesP pr rg (allSt Bs)) (allSt Cs)) (fun B Cs r => TsJ G fo rg (timesP pr rg (allSt Bs)) (r ++ allSt Cs))
      ⟨T', x, hl, by rw [show T' = _ from hg]; rfl, by omega⟩ (fun _ _ h => h.x) (fun _ _ _ _ h => h.x) (fun B Cs G' h => by rw [← allSt_cons]; exact h) (fun B Cs p r z x a G' _ _ hs hJ => ?_) (fun B Cs z y b fb eo G' _ _ _ _ h => .nil (.next ⟨z, _, y, rfl, h⟩)) fun z x y G' h => ?_
    · obtain ⟨T2, x', hl', hg', hc'⟩ := hJ
      obtain ⟨⟨fs, la, s1, ⟨f1, f2, f3, f4, f5, _⟩, s2⟩, so⟩ := hs.ext x'
      rw [List.cons_append, List.length_cons] at hc'
      rw [List.cons_append, List.foldl_cons] at hg'
      have hr' := x' _ _ hr
      refine SnB.ifs (r := (lk rg p.dst).isSome) (ad_isSome rg p.dst ▸ RdT.cmp (by walk_at "r") (by walk_at "r") (.inDict hr' ⟨rfl, rfl⟩)) (fun e => ?_) fun e => .nil (.next (.nil (.next ⟨z, _, rfl, T2, x', hl', ?_, by omega⟩)))
      · have e3 : ((lookE (adE T2) p.dst).getD (.int 0)) = .int ((lk T2 p.dst).getD 0) := by rw [lookE_ad]; cases lk T2 p.dst <;> rfl
        have := st_len T2 p.dst ((lk T2 p.dst).getD 0 + 1)
        refine SnB.setIdxQ (Rd.to (Rd.bin (v := .int ((lk T2 p.dst).getD 0)) (w := .int 1) (Sn.meth .get (fun _ _ => rfl) (Rd.to (v := .ref fo) (by walk_at "r") ⟨.dict hl', Rds.to (vs := [.int p.dst, .int 0]) (by walk_at "r") (Meth.get hl' ⟨e3, rfl⟩)⟩)) .int (.add ⟨rfl, rfl⟩)) ⟨fo, _, p.dst, by walk_at "r", by walk_at "r", hl', by rw [adE_len]; omega, fun G2 x2 l2 => .nil (.next (.nil (.next ⟨z, _, rfl, _, x'.fresh h1 x2, by rw [l2, adE_st], ?_, by omega⟩)))⟩)
        rw [← hg']; unfold timesStep; rw [if_pos e]
      · rw [← hg']; unfold timesStep; rw [if_neg (by rw [e]; decide)]
    · obtain ⟨T2, x', hl', hg', hc'⟩ := h
      exact SnB.retB (Rd.to (v := .ref fo) (by walk_at "r") (kk fo G' h1 x' (by rw [hl', show T2 = _ from hg'])))
end
noncomputable section
variable {X : Cx} {n : Nat} {G : Gh} {sc : Scope} {os : List (Option Val)} {m : M}
inductive FaI {α : Type} (sc : Scope) (F : α → Option Val → List (Option Val)) (G : Gh) (ps0 : List PS) (J : List PS → Gh → Prop) (xs : List Val) (m : M) (G' : Gh) : Prop where
  | mk (ss : List Addr) (ps : List PS) (z : α) (y : Option Val) (e1 : xs = ss.map .ref) (e2 : m = L sc (F z y)) (hs : StepsAt G ss ps) (hp : ∀ p ∈ ps, p ∈ ps0) (hJ : J ps G')
inductive FaQ {α : Type} (sc : Scope) (F : α → Option Val → List (Option Val)) (J : Gh → Prop) (m : M) (G' : Gh) : Prop where
  | mk (z : α) (y : Option Val) (e : m = L sc (F z y)) (h : J G')
theorem SnB.forAs {α : Type} {Q : QS} {e : PySem.Expr} {body sts : List PySem.Stmt} {p1 p2 : Pos} {a : Addr} {as : List Addr} {ps : List PS} {G1 : Gh} {z0 : α} {y0 : Option Val} (F : α → Option Val → List (Option Val)) (us : ∀ z y v, Upd false sc.names (F z y) "step" v (F z (some v)))
    (he : Rd X n sc e (L sc (F z0 y0)) G1 (.ref a)) (hs : StepsAt G as ps) (J : List PS → Gh → Prop) (kl : ∀ r G', J r G' → G' a = some (.list (as.map .ref))) (h0 : J ps G1)
    (turn : ∀ p r z b G', p ∈ ps → StepAt G b p → J (p :: r) G' → SnB X n sc body (L sc (F z (some (.ref b)))) G' (Go (FaQ sc F (J r)))) (k : ∀ z y G', J [] G' → SnB X n sc sts (L sc (F z y)) G' Q) (hfs : ∀ env x, foldedSetIterable e env x = pure x := by intro _ _; rfl) :
    SnB X n sc (.For (.Name "step" p1) e body [] p2 :: sts) (L sc (F z0 y0)) G1 Q := by
  refine SnB.forN he (kl _ _ h0) (FaI sc F G ps J) ⟨as, ps, z0, y0, rfl, rfl, hs, fun _ h => h, h0⟩ (fun v xs m G2 hI => ?_) (fun m G2 hI => ?_) (fun xs' m G2 hI => by obtain ⟨ss, ps, z, y, e1, e2, hs, hp, hJ2⟩ := hI; exact kl _ _ hJ2) hfs
  · obtain ⟨ss, ps', z, y, e1, e2, hs, hp, hJ2⟩ := hI
    obtain ⟨b, ss, rfl, rfl, rfl⟩ := cons_of_map e1
    subst e2
    cases hs with | @cons _ p _ ps' s1 s2 =>
    exact ⟨_, .name (Upd.put (us z y _)), (turn p ps' z b G2 (hp _ (.head _)) s1 hJ2).mono fun fl m G3 q => (q.mono fun ⟨z, y, e, h⟩ => ⟨ss, ps', z, y, rfl, e, s2, fun p h => hp p (.tail _ h), h⟩).turn⟩
  · obtain ⟨ss, ps', z, y, e1, e2, hs, hp, hJ2⟩ := hI
    obtain rfl := nil_of_map e1
    subst e2
    cases hs
    exact k z y G2 hJ2
noncomputable def regsP (ps : List PS) : AddrM := ps.foldl (fun l p => st l p.dst (moreI p.more)) []
noncomputable def dropStep (often : List (Int × Int)) (s : AddrM × Nat) (p : PS) : AddrM × Nat := if (lk often p.dst).getD 0 == 1 then s else (s.1.filter fun e => decide (e.1 ≠ p.dst), setb s.2 (moreI p.more))
noncomputable def slotRegsP (pa : List Int) (ss : List PS) : AddrM × Nat := (slotP ss).foldl (dropStep (timesP pa (regsP (slotP ss)) ss)) (regsP (slotP ss), 0)
noncomputable def SlotWf (sl : Slots) (p : PS) : Prop := p.op = 9 → ∃ i : Int, p.more = .int i ∧ 0 ≤ i ∧ i.toNat < sl.length
theorem adE_filter (l : AddrM) (k : Int) : ((adE l).filter fun kv => decide (kv.1 ≠ k)) = adE (l.filter fun e => decide (e.1 ≠ k)) := by unfold adE; rw [List.filter_map]; rfl
theorem slotP_op {ss : List PS} {p : PS} (h : p ∈ slotP ss) : p ∈ ss ∧ p.op = 9 := by
  obtain ⟨h1, h2⟩ := List.mem_filter.mp h
  exact ⟨h1, Nat.eq_of_beq_eq_true h2⟩
theorem regs_keys (ps : List PS) : ∀ (l : AddrM) (j : Int), (j ∈ l.map (·.1) ∨ ∃ p ∈ ps, p.dst = j) → j ∈ (ps.foldl (fun l p => st l p.dst (moreI p.more)) l).map (·.1) := by
  induction ps with
  | nil => intro l j h; exact h.elim id fun ⟨p, h, _⟩ => nomatch h
  | cons p ps ih =>
    intro l j h
    refine ih _ j ?_
    rcases h with h | ⟨q, hq, rfl⟩
    · exact .inl ((st_keys j).mpr (.inl h))
    · rcases List.mem_cons.mp hq with rfl | hq
      · exact .inl ((st_keys _).mpr (.inr rfl))
      · exact .inr ⟨q, hq, rfl⟩
theorem times_keys (rg : AddrM) (ss : List PS) : ∀ (T : List (Int × Int)) (j : Int), (j ∈ T.map (·.1) ∨ (j ∈ rg.map (·.1) ∧ ∃ p ∈ ss, p.dst = j)) → j ∈ (ss.foldl (timesStep rg) T).map (·.1) := by
  induction ss with
  | nil => intro l j h; exact h.elim id fun ⟨_, p, h, _⟩ => nomatch h
  | cons p ss ih =>
    intro T j h
    refine ih _ j ?_
    have up : ∀ j, j ∈ T.map (·.1) → j ∈ (timesStep rg T p).map (·.1) := fun j h => by
      unfold timesStep
      split
      · exact (st_keys j).mpr (.inl h)
      · exact h
    rcases h with h | ⟨hr, q, hq, rfl⟩
    · exact .inl (up _ h)
    · rcases List.mem_cons.mp hq with rfl | hq
      · refine .inl ?_
        unfold timesStep
        rw [if_pos ((lk_isSome _ _).mpr hr)]
        exact (st_keys _).mpr (.inr rfl)
      · exact .inr ⟨hr, q, hq, rfl⟩
inductive OfR (G : Gh) (P : List (Int × Int) → Prop) (v : Val) (G' : Gh) : Prop where
  | mk (od : Addr) (O : List (Int × Int)) (e : v = .ref od) (h : G od = none) (x : Ext G G') (d : G' od = some (.dict (adE O))) (p : P O)
inductive SrA (G0 : Gh) (sd ta so : Addr) (as : List Addr) (goal : AddrM) (r : List PS) (G : Gh) : Prop where
  | mk (l : AddrM) (x : Ext G0 G) (hl : G sd = some (.dict (adE l))) (hg : r.foldl (fun l p => st l p.dst (moreI p.more)) l = goal) (hs : SetAt G ta 0) (ho : G so = some (.list (as.map .ref))) (hc : l.length + r.length ≤ 900)
inductive SrB (G0 : Gh) (sd ta so od : Addr) (as : List Addr) (often : List (Int × Int)) (goal : AddrM × Nat) (r : List PS) (G : Gh) : Prop where
  | mk (l : AddrM) (k : Nat) (x : Ext G0 G) (hl : G sd = some (.dict (adE l))) (hs : SetAt G ta k) (ho : G so = some (.list (as.map .ref))) (hd : G od = some (.dict (adE often))) (hg : r.foldl (dropStep often) (l, k) = goal)
theorem sp_slot_registers {f : Addr} {pr : List Int} {sl : Slots} {bls : List Addr} {Bs : List PB} {Q : QE} (T : Tops X) (hf : FuncAt G f pr sl bls) (hB : BlksAt G 0 bls Bs) (ht : (allSt Bs).length ≤ 900) (hp : pr.length ≤ 50) (hw : ∀ p ∈ allSt Bs, SlotWf sl p) (hsl : sl.length ≤ 16)
    (kk : ∀ d t G', Ext G G' → G' d = some (.dict (adE (slotRegsP pr (allSt Bs)).1)) → SetAt G' t (slotRegsP pr (allSt Bs)).2 → Q (.tup [.ref d, .ref t]) G') : Cal X (n + 2) a_slot_registers [.ref f] G Q := by
  refine' Cal.start (os := ?os) T.d_slot_registers ?q ?b; case q => walk_at "r"
  case b =>
  refine SnB.assignQ (Sn.dictN fun sd G1 h1 x1 d1 => ⟨_, by walk_at "r", ?_⟩)
  refine SnB.assignQ (Sn.ty (id := "set") T.blt (by decide) (by decide) (by walk_at "r") (fun _ _ => rfl) (Rds.nil.to (Blt.set0N fun ta G2 h2 x2 s2 => ⟨_, by walk_at "r", ?_⟩)))
  have x12 := x1.trans x2
  refine SnB.assignQ (Sn.ref T.f_slot_steps (by walk_at "r") (fun _ _ => rfl) (vs := [.ref f]) (by walk_at "r") (sp_slot_steps T hf hB x12 ht fun so as G3 h3 x3 l3 s3 len3 => ⟨_, by walk_at "r", ?_⟩))
  have t0 := x1.none h2
  have hlen := s3.length
  refine SnB.forAs (α := Unit) (z0 := ()) (fun _ y => [some (.ref f), some (.ref sd), some (.ref ta), some (.ref so), y, none, none, none, none]) (fun _ _ _ => by walk_at "r") (by walk_at "r") s3 (SrA G sd ta so as (regsP (slotP (allSt Bs)))) (fun _ _ ⟨_, _, _, _, _, h, _⟩ => h) ⟨[], x12.trans x3, x3 _ _ (x2 _ _ d1), rfl, s2.ext x3, l3, by rw [List.length_nil]; omega⟩ (fun p r z b G4 hm hs hJ => ?_) fun z y G4 hJ => ?_
  · obtain ⟨l, x, hl, hg, hta, ho, hc⟩ := hJ
    obtain ⟨⟨fs, la, e1, ⟨f1, f2, f3, f4, f5, _⟩, e2⟩, so'⟩ := hs.ext x
    obtain ⟨i, q1, q2, q3⟩ := hw p (slotP_op hm).1 (slotP_op hm).2
    rw [q1] at f4
    rw [List.length_cons] at hc
    have := st_len l p.dst (moreI p.more)
    refine SnB.setIdxQ (Rd.to (v := .int i) (by walk_at "r") ⟨sd, _, p.dst, by walk_at "r", by walk_at "r", hl, by rw [adE_len]; omega, fun G5 x5 l5 => .nil (.next ⟨z, _, rfl, st l p.dst (moreI p.more), x.fresh h1 x5, ?_, hg, hta.offD x5 hl, x5.kind hl ho, by omega⟩)⟩)
    rw [l5, ← adE_st, q1]; rfl
  · obtain ⟨l, x, hl, hg, hta, ho, hc⟩ := hJ
    have hg : l = regsP (slotP (allSt Bs)) := hg
    refine SnB.assignQ (Sn.mono (Q := OfR G4 (fun O => slotP (allSt Bs) = [] ∨ O = timesP pr l (allSt Bs))) (Sn.ite (SnT.mono (RdT.val (v := .ref sd) (by walk_at "r") (.dict hl)) fun t G' ee => ?_)) fun v G5 hO => ?_)
    · obtain ⟨e, e'⟩ := ee
      subst e; subst e'
      refine ⟨fun e => ?_, fun e => ?_⟩
      · exact Sn.ref T.f_times_set (by walk_at "r") (fun _ _ => rfl) (vs := [.ref f, .ref sd]) (by walk_at "r") (sp_times_set T (hf.ext x) hl (hB.ext x) ht hp fun od G5 h5 x5 d5 => .mk od _ rfl h5 x5 d5 (.inr rfl))
      · refine Sn.dictN fun od G5 h5 x5 d5 => .mk od [] rfl h5 x5 d5 (.inl ?_)
        cases q : slotP (allSt Bs) with
        | nil => rfl
        | cons p ps =>
          have := regs_keys (p :: ps) [] p.dst (.inr ⟨p, .head _, rfl⟩)
          rw [← q] at this
          have h' : p.dst ∈ l.map (·.1) := by rw [hg]; exact this
          cases l with
          | nil => cases h'
          | cons _ _ => cases e
    obtain ⟨od, O, rfl, h5, x5, d5, hO⟩ := hO
    have nsd := ne_new hl h5
    refine ⟨_, by walk_at "r", ?_⟩
    refine SnB.forAs (α := Unit) (z0 := ()) (fun _ y => [some (.ref f), some (.ref sd), some (.ref ta), some (.ref so), y, some (.ref od), none, none, none]) (fun _ _ _ => by walk_at "r") (by walk_at "r") s3 (SrB G sd ta so od as O (slotRegsP pr (allSt Bs))) (fun _ _ ⟨_, _, _, _, _, h, _, _⟩ => h) ⟨l, 0, x.trans x5, x5 _ _ hl, hta.ext x5, x5 _ _ ho, d5, ?_⟩ (fun p r z b G6 hm hs hJ => ?_) fun z y G6 hJ => ?_
    · unfold slotRegsP
      rw [← hg]
      rcases hO with q | q
      · rw [q]; rfl
      · rw [q]
    · obtain ⟨l', k, x', hl', hta', ho', hd', hg'⟩ := hJ
      obtain ⟨⟨fs, la, e1, ⟨f1, f2, f3, f4, f5, _⟩, e2⟩, so'⟩ := hs.ext x'
      obtain ⟨i, q1, q2, q3⟩ := hw p (slotP_op hm).1 (slotP_op hm).2
      have hi : moreI p.more = i := by rw [q1]; rfl
      rw [q1] at f4
      obtain ⟨v, hv⟩ : ∃ v, lk O p.dst = some v := Option.isSome_iff_exists.mp ((lk_isSome _ _).mpr (by
        rcases hO with q | q
        · rw [q] at hm; cases hm
        · rw [q]
          refine times_keys _ _ _ _ (.inr ⟨?_, p, (slotP_op hm).1, rfl⟩)
          rw [hg]; exact regs_keys _ _ _ (.inr ⟨p, hm, rfl⟩)))
      have hg2 := hg'
      rw [List.foldl_cons] at hg2
      have ev : (lk O p.dst).getD 0 = v := by rw [hv]; rfl
      refine SnB.ifs (r := !(v == 1)) (.cmp (.idxD (by walk_at "r") hd' (by walk_at "r") (by rw [lookE_ad, hv]; rfl)) .int (.neI ⟨rfl, rfl⟩)) (fun e => ?_) fun e => .nil (.next (.nil (.next ⟨z, _, rfl, l', k, x', hl', hta', ho', hd', ?_⟩)))
      · refine SnB.expr (Sn.meth .add (fun _ _ => rfl) (Rd.to (v := .ref ta) (by walk_at "r") ⟨hta'.has, Rds.to (vs := [.int i]) (by walk_at "r") (Meth.addN hta' ⟨q2, by omega⟩ fun G7 x7 t7 => ?_)⟩))
        have l7 := hta'.kind x7 hl'
        have e7 := hta'.kind x7 e1
        refine SnB.expr (Sn.meth .dpop (fun _ _ => rfl) (Rd.to (v := .ref sd) (by walk_at "r") ⟨.dict l7, Rds.to (vs := [.int p.dst, .none]) (by walk_at "r") (Meth.dpop l7 ?_)⟩))
        have x8 : Ext1 sd G7 (G7.upd sd (.dict ((adE l').filter fun kv => decide (kv.1 ≠ p.dst)))) := .upd
        refine .nil (.next (.nil (.next ⟨z, _, rfl, l'.filter fun e => decide (e.1 ≠ p.dst), setb k i, (x'.fresh t0 x7).fresh h1 x8, by rw [Gh.upd_same, adE_filter], t7.offD x8 l7, x8.kind l7 (hta'.kind x7 ho'), x8 _ _ (Ne.symm nsd) (hta'.kind x7 hd'), ?_⟩)))
        rw [← hg2]; unfold dropStep; rw [ev, if_neg (by rw [Bool.not_eq_true']at e; rw [e]; decide), hi]
      · rw [← hg2]; unfold dropStep; rw [ev, if_pos (by rw [← Bool.not_eq_false']; exact e)]
    · obtain ⟨l', k, x', hl', hta', ho', hd', hg'⟩ := hJ
      have hg' : (l', k) = slotRegsP pr (allSt Bs) := hg'
      exact SnB.retB (Rd.to (v := .tup [.ref sd, .ref ta]) (by walk_at "r") (kk sd ta G6 x' (by rw [← hg']; exact hl') (by rw [← hg']; exact hta')))
end
noncomputable section
variable {X : Cx} {n : Nat} {G : Gh} {sc : Scope} {os : List (Option Val)} {m : M}
noncomputable def plainStP (sl : Slots) (p : PS) (place : Nat) (slot : Int) : Bool := if !(Nat.beq p.op 1) || !(Nat.beq place 0) || p.vol then false else decide (moreI p.more ≤ slotSize sl slot)
theorem sp_is_plain_store {f a : Addr} {pr : List Int} {sl : Slots} {bls : List Addr} {p : PS} {place : Nat} {slot : Int} {Q : QE} (T : Tops X) (hf : FuncAt G f pr sl bls) (h : StepAt G a p) (w : StepWf p) (hs : 0 ≤ slot ∧ slot.toNat < sl.length) (hl : sl.length ≤ 16) (k : Q (.bool (plainStP sl p place slot)) G) : Cal X (n + 1) a_is_plain_store [.ref f, .ref a, .int place, .int slot] G Q := by
  obtain ⟨⟨fs, la, h1, ⟨f1, f2, f3, f4, f5, _⟩, h2⟩, ho⟩ := id h
  obtain ⟨ff, pa, sa, ba, h3, ⟨g1, g2, g3⟩, h4, h5, h6⟩ := hf
  refine' Cal.start (os := ?os) T.d_is_plain_store ?q ?b; case q => walk_at "r"
  case b =>
  refine SnB.ifs (r := !(Nat.beq p.op 1) || (!(Nat.beq place 0) || p.vol)) ?_ (fun e => .retT (Rd.to Rd.tru ?_)) fun e => .nilT ?_
  · rw [← op_store p.op ho]
    have e0 : Nat.beq place 0 = ((place : Int) == 0) := by cases place <;> rfl
    rw [e0]
    refine RdT.or (RdT.cmp ?_ ?_ (.neS ⟨rfl, rfl⟩)) fun _ => RdT.or (RdT.cmp ?_ ?_ (.neI ⟨rfl, rfl⟩)) fun _ => RdT.or1 (RdT.val ?_ (.bool _)) <;> walk_at "r"
  · have : plainStP sl p place slot = false := if_pos (by rw [Bool.or_assoc]; exact e)
    rw [← this]; exact k
  have e1 : Nat.beq p.op 1 = true := by have := (Bool.or_eq_false_iff.mp e).1; rw [Bool.not_eq_false'] at this; exact this
  obtain ⟨_, wd, hm⟩ := w.store (Nat.eq_of_beq_eq_true e1)
  rw [hm] at f4
  obtain ⟨sz, hsz⟩ : ∃ z, sl[slot.toNat]? = some z := ⟨_, List.getElem?_eq_getElem hs.2⟩
  have hc : plainStP sl p place slot = decide (wd ≤ sz.1) := by
    unfold plainStP slotSize
    rw [if_neg (by rw [Bool.or_assoc, e]; decide), hm, hsz]; rfl
  have hsv' : ((slot.toNat : Nat) : Int) = slot := Int.toNat_of_nonneg hs.1
  refine SnB.retB (Rd.to (Rd.cmp (v := .int wd) (by walk_at "r") (Rd.idxT (vs := [.int sz.1, .int sz.2]) (Rd.idxL (j := slot) (by walk_at "r") h5 (by walk_at "r") (by have := hs.2; unfold cap; omega) (by have := seqAt_map (f := slotV) hsz; rw [hsv'] at this; exact this)) .int (by decide) rfl) (.le ⟨rfl, rfl⟩)) (hc ▸ k))
noncomputable def isStP (am : AddrM) (t : Nat) (p : PS) : Bool := if !(Nat.beq p.op 1) then false else match p.args[0]? with
  | some o => o.1 && (match lk am o.2 with | some s => !maskS t s | none => false)
  | none => false
theorem sp_is_store_to {a ad ta : Addr} {am : AddrM} {t : Nat} {p : PS} {Q : QE} (T : Tops X) (h : StepAt G a p) (w : StepWf p) (ha : G ad = some (.dict (adE am))) (ht : SetAt G ta t) (k : Q (.bool (isStP am t p)) G) : Cal X (n + 1) a_is_store_to [.ref a, .ref ad, .ref ta] G Q := by
  obtain ⟨⟨fs, la, h1, ⟨f1, f2, f3, f4, f5, _⟩, h2⟩, ho⟩ := id h
  refine' Cal.start (os := ?os) T.d_is_store_to ?q ?b; case q => walk_at "r"
  case b =>
  refine SnB.ifs (r := !(Nat.beq p.op 1)) ?_ (fun e => .retT (Rd.to Rd.tru ?_)) fun e => .nilT ?_
  · rw [← op_store p.op ho]
    refine RdT.cmp ?_ ?_ (.neS ⟨rfl, rfl⟩) <;> walk_at "r"
  · have : isStP am t p = false := if_pos e
    rw [← this]; exact k
  have e1 : Nat.beq p.op 1 = true := by rw [Bool.not_eq_false'] at e; exact e
  obtain ⟨hlen, _⟩ := w.store (Nat.eq_of_beq_eq_true e1)
  obtain ⟨o, ho'⟩ : ∃ o, p.args[0]? = some o := ⟨_, List.getElem?_eq_getElem hlen⟩
  refine' SnB.assign2 (v := .str (rk o.1)) (w := .int o.2) (Rd.idxL ?h1 h2 .int (by decide) (seqAt_map ho')) ?h3 ?h4 ?h5
  case h1 => walk_at "r"
  case h3 => walk_at "r"
  case h4 => walk_at "r"
  have hc : isStP am t p = (rk o.1 == Str.ofString "r" && ((lookE (adE am) o.2).isSome && (match lk am o.2 with | some s => !maskS t s | none => false))) := by
    unfold isStP
    rw [if_neg (by rw [e]; decide), ho', rk_r, ad_isSome]
    show (o.1 && _) = (o.1 && _)
    cases lk am o.2 <;> rfl
  refine SnB.retB (Rd.to ?_ (hc ▸ k))
  refine Rd.and (Rd.cmp (by walk_at "r") (by walk_at "r") (.eqS ⟨rfl, rfl⟩)) fun _ => Rd.and (Rd.cmp (by walk_at "r") (by walk_at "r") (.inDict ha ⟨rfl, rfl⟩)) fun hs => Rd.and1 ?_
  rw [ad_isSome] at hs
  obtain ⟨sv, hsv⟩ := Option.isSome_iff_exists.mp hs
  rw [hsv]
  exact .cmp (.idxD (by walk_at "r") ha (by walk_at "r") (by rw [lookE_ad, hsv]; rfl)) (by walk_at "r") (.notinM ht)
noncomputable def opdE : Nat → List Opd → List Val
  | _, [] => []
  | i, o :: r => .tup [.int i, opdV o] :: opdE (i + 1) r
theorem enum_opd (args : List Opd) : enumL (args.map opdV) = opdE 0 args := by
  have : ∀ (l : List Opd) (k : Nat), ((l.map opdV).zipIdx k).map (fun p => Val.tup [.int p.2, p.1]) = opdE k l := fun l => by
    induction l with
    | nil => intro k; rfl
    | cons o l ih => intro k; show _ :: _ = _; rw [ih]; rfl
  exact this args 0
end
noncomputable section
variable {X : Cx} {n : Nat} {G : Gh} {sc : Scope} {os : List (Option Val)} {m : M}
theorem Rd.opK {e : PySem.Expr} {o : Opd} {k : Nat} {p pos : Pos} (h : Rd X n sc e m G (opdV o)) (hs : ∀ x y, subscripted (.Constant (.int 0) k p) false x y = operate [x, y] (getItem x y) := by intro _ _; rfl) : Rd X n sc (.Subscript e (.Constant (.int 0) k p) pos) m G (.str (rk o.1)) := Rd.idxT (vs := [.str (rk o.1), .int o.2]) h .int (by decide) rfl hs
theorem Rd.opV {e : PySem.Expr} {o : Opd} {k : Nat} {p pos : Pos} (h : Rd X n sc e m G (opdV o)) (hs : ∀ x y, subscripted (.Constant (.int 1) k p) false x y = operate [x, y] (getItem x y) := by intro _ _; rfl) : Rd X n sc (.Subscript e (.Constant (.int 1) k p) pos) m G (.int o.2) := Rd.idxT (vs := [.str (rk o.1), .int o.2]) h .int (by decide) rfl hs
inductive EnI (I : Nat → List Opd → M → Gh → Prop) (xs : List Val) (m : M) (G : Gh) : Prop where
  | mk (i : Nat) (r : List Opd) (e : xs = opdE i r) (h : I i r m G)
theorem SnB.forE {Q : QS} {e : PySem.Expr} {ts : List PySem.Expr} {k : Nat} {tp p1 p2 pos : Pos} {body sts : List PySem.Stmt} {a : Addr} {args : List Opd} (hx : BltOK X) (hk : GlobIn sc "enumerate") (hn : NoStar [e]) (he : Rd X n sc e m G (.ref a)) (el : G a = some (.list (args.map opdV))) (I : Nat → List Opd → M → Gh → Prop) (h0 : I 0 args m G)
    (turn : ∀ i o r m G, I i (o :: r) m G → ∃ m', Bnd X false sc (.Tuple ts k tp) (.tup [.int i, opdV o]) m m' ∧ SnB X n sc body m' G (Turn (I (i + 1) r) (Then X n sc sts Q))) (z : ∀ i m G, I i [] m G → SnB X n sc sts m G Q) (gd : ∀ i r m G', I i r m G' → G' a = some (.list (args.map opdV)))
    (hs : ∀ env x, foldedSetIterable (.Call (.Name "enumerate" p1) [e] [] p2) env x = pure x := by intro _ _; rfl) (hp : ∀ env, starEach [e] env = (false, eval e env) :: starEach [] env := by intro _; rfl) : SnB X n sc (.For (.Tuple ts k tp) (.Call (.Name "enumerate" p1) [e] [] p2) body [] pos :: sts) m G Q := by
  refine .cons (.fors (.enum hx hk hn (Rds.to (vs := [.ref a]) (.cons he .nil hp) ⟨a, args.map opdV, rfl, el, EnI I, ⟨fun x xs m G hI => ?_, fun m G hI => ?_⟩, ⟨0, args, enum_opd args, h0⟩⟩)) hs)
  · obtain ⟨i, r, e1, h⟩ := hI
    cases r with
    | nil => cases e1
    | cons o r =>
      obtain ⟨rfl, rfl⟩ := List.cons.inj e1
      obtain ⟨m', b, q⟩ := turn i o r m G h
      refine ⟨gd _ _ _ _ h, m', b, q.mono fun fl m G q => ?_⟩
      cases q with
      | next h => exact .next ⟨_, _, rfl, h⟩
      | cont h => exact .cont ⟨_, _, rfl, h⟩
      | brk h => exact .brk h
      | ret h => exact .ret h
  · obtain ⟨i, r, e1, h⟩ := hI
    cases r with
    | nil => exact ⟨gd _ _ _ _ h, .next (z i m G h)⟩
    | cons o r => cases e1
theorem Blt.set1N {Q : QE} {l : Addr} {k : Nat} (e : SetAt G l k) (h : ∀ c G', G c = none → Ext G G' → SetAt G' c k → Q (.ref c) G') : Blt X n (.type "set") [.ref l] G Q := by
  obtain ⟨f, e⟩ := e
  exact .set1 e fun c hc => h c _ hc (.new hc) ⟨false, Gh.upd_same ..⟩
noncomputable def takenArg (sl : Slots) (am : AddrM) (p : PS) (i : Nat) (o : Opd) (t : Nat) : Nat := if o.1 then (match lk am o.2 with | some s => if plainStP sl p i s then t else setb t s | none => t) else t
noncomputable def takenArgs (sl : Slots) (am : AddrM) (p : PS) : Nat → List Opd → Nat → Nat
  | _, [], t => t
  | i, o :: r, t => takenArgs sl am p (i + 1) r (takenArg sl am p i o t)
noncomputable def takenStep (sl : Slots) (am : AddrM) (t : Nat) (p : PS) : Nat := takenArgs sl am p 0 p.args t
noncomputable def takenEnd (am : AddrM) (t : Nat) (o : Opd) : Nat := if o.1 then (match lk am o.2 with | some s => setb t s | none => t) else t
noncomputable def takenP (sl : Slots) (am : AddrM) (Bs : List PB) (t : Nat) : Nat := Bs.foldl (fun t B => B.fin.args.foldl (takenEnd am) (B.steps.foldl (takenStep sl am) t)) t
inductive StJ (G0 : Gh) (fo : Addr) (f : Nat → Nat) (goal : Nat) (G : Gh) : Prop where
  | mk (t : Nat) (x : Ext G0 G) (hs : SetAt G fo t) (hg : f t = goal)
theorem StJ.x {G0 : Gh} {fo : Addr} {f : Nat → Nat} {goal : Nat} (h : StJ G0 fo f goal G) : Ext G0 G := by cases h; assumption
noncomputable abbrev F5 (f ad tk fo : Addr) (z : Option Val × Option Val × Option Val × Option Val × Option Val) (x y : Option Val) : List (Option Val) := [some (.ref f), some (.ref ad), some (.ref tk), some (.ref fo), x, y, z.1, z.2.1, z.2.2.1, z.2.2.2.1, z.2.2.2.2, none, none, none]
inductive TkI (F : Option Val × Option Val × Option Val × Option Val × Option Val → Option Val → Option Val → List (Option Val)) (x : Option Val) (J : List Opd → Gh → Prop) (xs : List Val) (m : M) (G : Gh) : Prop where
  | mk (r : List Opd) (z : Option Val × Option Val × Option Val × Option Val × Option Val) (y : Option Val) (e : xs = r.map opdV) (e2 : m = L sc_taken_slots (F z x y)) (h : J r G)
inductive TkE (F : Option Val × Option Val × Option Val × Option Val × Option Val → Option Val → Option Val → List (Option Val)) (x y : Option Val) (J : Nat → List Opd → Gh → Prop) (i : Nat) (r : List Opd) (m : M) (G : Gh) : Prop where
  | mk (z : Option Val × Option Val × Option Val × Option Val × Option Val) (e2 : m = L sc_taken_slots (F z x y)) (h : J i r G)
theorem sp_taken_slots {f ad ta : Addr} {pr : List Int} {sl : Slots} {bls : List Addr} {Bs : List PB} {am : AddrM} {t : Nat} {Q : QE} (T : Tops X) (hf : FuncAt G f pr sl bls) (hB : BlksAt G 0 bls Bs) (ok : FnOK Bs) (ha : G ad = some (.dict (adE am))) (hok : AdOK am sl) (ht : SetAt G ta t)
    (kk : ∀ c G', G c = none → Ext G G' → SetAt G' c (takenP sl am Bs t) → Q (.ref c) G') : Cal X (n + 2) a_taken_slots [.ref f, .ref ad, .ref ta] G Q := by
  refine' Cal.start (os := ?os) T.d_taken_slots ?q ?b; case q => walk_at "r"
  case b =>
  refine SnB.assignQ (Sn.ty (id := "set") T.blt (by decide) (by decide) (by walk_at "r") (fun _ _ => rfl) (Rds.to (vs := [.ref ta]) (by walk_at "r") (Blt.set1N ht fun fo G1 h1 x1 s1 => ⟨_, by walk_at "r", ?_⟩)))
  refine SnB.forBlocks (z0 := (none, none, none, none, none)) T.cls (F5 f ad ta fo) (fun _ _ _ _ => by walk_at "r") (fun _ _ _ _ => by walk_at "r") (fun _ _ _ => by walk_at "r") (fun _ _ _ => by walk_at "r") hf hB (fun Cs => StJ G fo (takenP sl am Cs) (takenP sl am Bs t)) (fun B Cs r => StJ G fo (fun t => takenP sl am Cs (B.fin.args.foldl (takenEnd am) (r.foldl (takenStep sl am) t))) (takenP sl am Bs t))
    ⟨t, x1, s1, rfl⟩ (fun _ _ h => h.x) (fun _ _ _ _ h => h.x) (fun B Cs G' h => h) (fun B Cs p r z x a G' hB hp hs hJ => ?_) (fun B Cs z y b fb eo G' hBm hb hfe he hJ => ?_) fun z x y G' h => ?_
  · obtain ⟨t', x', s', hg⟩ := hJ
    obtain ⟨⟨fs, la, e1, ⟨f1, f2, f3, f4, f5, _⟩, e2⟩, so⟩ := id hs
    have hwf := (ok.blks B hB).wf p hp
    have e1' := x' _ _ e1
    refine SnB.forE T.blt (by walk_at "r") (fun _ _ => rfl) (by walk_at "r") (x' _ _ e2) (TkE (F5 f ad ta fo) x (some (.ref a)) (fun i r' => StJ G fo (fun t => takenP sl am Cs (B.fin.args.foldl (takenEnd am) (r.foldl (takenStep sl am) (takenArgs sl am p i r' t)))) (takenP sl am Bs t))) ⟨z, rfl, t', x', s', hg⟩ (fun i o r' m G2 hI => ?_) (fun i m G2 hI => ?_) fun i r' m G2 hI => by obtain ⟨z, e2', h⟩ := hI; exact h.x _ _ e2
    · obtain ⟨z, e2', t2, x2, s2, hg2⟩ := hI
      subst e2'
      have a2 := x2 _ _ ha
      refine ⟨_, .tup (.two (os' := F5 f ad ta fo (some (.int i), z.2) x (some (.ref a))) (os'' := F5 f ad ta fo (some (.int i), some (opdV o), z.2.2) x (some (.ref a))) (by walk_at "r") (by walk_at "r")), ?_⟩
      refine SnB.ifs (r := o.1 && (lk am o.2).isSome) ?_ (fun e => ?_) fun e => .nil (.next (.nil (.next ⟨_, rfl, t2, x2, s2, ?_⟩)))
      · rw [← rk_r o.1, ← ad_isSome]
        exact RdT.and (.cmp (.opK (by walk_at "r")) .str (.eqS ⟨rfl, rfl⟩)) fun _ => RdT.and1 (.cmp (.opV (o := o) (by walk_at "r")) (by walk_at "r") (.inDict a2 ⟨rfl, rfl⟩))
      · obtain ⟨q1, q2⟩ := Bool.and_eq_true_iff.mp e
        obtain ⟨s, hs'⟩ := Option.isSome_iff_exists.mp q2
        obtain ⟨s0, s1'⟩ := hok.lo _ _ hs'
        have hfew := hok.few
        have hst : takenArg sl am p i o t2 = if plainStP sl p i s then t2 else setb t2 s := by unfold takenArg; rw [if_pos q1, hs']
        refine SnB.assign (v := .int s) (.idxD (by walk_at "r") a2 (.opV (o := o) (by walk_at "r")) (by rw [lookE_ad, hs']; rfl)) (by walk_at "r") ?_
        refine SnB.ifs (r := !plainStP sl p i s) (.not (.val (.ref T.f_is_plain_store (by walk_at "r") (fun _ _ => rfl) (vs := [.ref f, .ref a, .int i, .int s]) (by walk_at "r") (sp_is_plain_store T (hf.ext x2) (hs.ext x2) hwf ⟨s0, s1'⟩ hfew ⟨rfl, rfl⟩)) (.bool _))) (fun e' => ?_) fun e' => .nil (.next (.nil (.next (.nil (.next ⟨((some (.int i)), some (opdV o), some (.int s), z.2.2.2), rfl, t2, x2, s2, ?_⟩)))))
        · refine SnB.expr (Sn.meth .add (fun _ _ => rfl) (Rd.to (v := .ref fo) (by walk_at "r") ⟨s2.has, Rds.to (vs := [.int s]) (by walk_at "r") (Meth.addN s2 ⟨s0, by omega⟩ fun G3 x3 s3 => .nil (.next (.nil (.next (.nil (.next ⟨((some (.int i)), some (opdV o), some (.int s), z.2.2.2), rfl, setb t2 s, x2.fresh h1 x3, s3, ?_⟩))))))⟩))
          rw [← hg2]
          show _ = takenP sl am Cs (B.fin.args.foldl (takenEnd am) (r.foldl (takenStep sl am) (takenArgs sl am p (i + 1) r' (takenArg sl am p i o t2))))
          rw [hst, if_neg (by rw [Bool.not_eq_true'] at e'; rw [e']; decide)]
        · rw [← hg2]
          show _ = takenP sl am Cs (B.fin.args.foldl (takenEnd am) (r.foldl (takenStep sl am) (takenArgs sl am p (i + 1) r' (takenArg sl am p i o t2))))
          rw [hst, if_pos (by rw [Bool.not_eq_false'] at e'; exact e')]
      · rw [← hg2]
        show _ = takenP sl am Cs (B.fin.args.foldl (takenEnd am) (r.foldl (takenStep sl am) (takenArgs sl am p (i + 1) r' (takenArg sl am p i o t2))))
        have : takenArg sl am p i o t2 = t2 := by
          unfold takenArg
          cases h1 : o.1 with
          | false => rfl
          | true => rw [h1] at e; cases h2 : lk am o.2 with
            | none => rfl
            | some s => rw [h2] at e; cases e
        rw [this]
    · obtain ⟨z, e2, h⟩ := hI
      exact .nil (.next ⟨z, _, e2, h⟩)
  · obtain ⟨t', x', s', hg⟩ := hJ
    obtain ⟨⟨es, la, e1, ⟨f1, f2, f3, f4, f5, _⟩, e2⟩, so⟩ := id he
    have e1' := x' _ _ e1
    have hb' := x' _ _ hb
    refine SnB.forN (.attr T.cls .args (.attr T.cls .end_ (by walk_at "r") hb' hfe) e1' f3) (x' _ _ e2) (TkI (F5 f ad ta fo) (some (.ref b)) (fun r => StJ G fo (fun t => takenP sl am Cs (r.foldl (takenEnd am) t)) (takenP sl am Bs t))) ⟨B.fin.args, z, y, rfl, rfl, t', x', s', hg⟩ (fun v xs m G2 hI => ?_) (fun m G2 hI => ?_) fun xs m G2 hI => by obtain ⟨r, z, y, e, e2', h⟩ := hI; exact h.x _ _ e2
    · obtain ⟨r, z, y, e, e2', t2, x2, s2, hg2⟩ := hI
      obtain ⟨o, r, rfl, rfl, rfl⟩ := cons_of_map e
      subst e2'
      have a2 := x2 _ _ ha
      refine ⟨_, .tup (.two (os' := F5 f ad ta fo (z.1, z.2.1, z.2.2.1, some (.str (rk o.1)), z.2.2.2.2) (some (.ref b)) y) (os'' := F5 f ad ta fo (z.1, z.2.1, z.2.2.1, some (.str (rk o.1)), some (.int o.2)) (some (.ref b)) y) (by walk_at "r") (by walk_at "r")), ?_⟩
      have hgt : takenP sl am Cs (r.foldl (takenEnd am) (takenEnd am t2 o)) = takenP sl am Bs t := hg2
      refine SnB.ifs (r := o.1 && (lk am o.2).isSome) ?_ (fun e => ?_) fun e => .nil (.next (.nil (.next ⟨r, _, _, rfl, rfl, t2, x2, s2, ?_⟩)))
      · have e0 : (o.1 && (lk am o.2).isSome) = ((rk o.1 == Str.ofString "r") && (lookE (adE am) o.2).isSome) := by rw [rk_r, ad_isSome]
        rw [e0]
        exact RdT.and (.cmp (by walk_at "r") .str (.eqS ⟨rfl, rfl⟩)) fun _ => RdT.and1 (.cmp (by walk_at "r") (by walk_at "r") (.inDict a2 ⟨rfl, rfl⟩))
      · obtain ⟨q1, q2⟩ := Bool.and_eq_true_iff.mp e
        obtain ⟨s, hs'⟩ := Option.isSome_iff_exists.mp q2
        obtain ⟨s0, s1'⟩ := hok.lo _ _ hs'
        have hfew := hok.few
        have hst : takenEnd am t2 o = setb t2 s := by unfold takenEnd; rw [if_pos q1, hs']
        rw [hst] at hgt
        exact SnB.expr (Sn.meth .add (fun _ _ => rfl) (Rd.to (v := .ref fo) (by walk_at "r") ⟨s2.has, Rds.to (vs := [.int s]) (.cons (.idxD (by walk_at "r") a2 (by walk_at "r") (by rw [lookE_ad, hs']; rfl)) .nil) (Meth.addN s2 ⟨s0, by omega⟩ fun G3 x3 s3 => .nil (.next (.nil (.next ⟨r, _, _, rfl, rfl, setb t2 s, x2.fresh h1 x3, s3, hgt⟩))))⟩))
      · have : takenEnd am t2 o = t2 := by
          unfold takenEnd
          cases h1 : o.1 with
          | false => rfl
          | true => rw [h1] at e; cases h2 : lk am o.2 with
            | none => rfl
            | some s => rw [h2] at e; cases e
        rw [this] at hgt; exact hgt
    · obtain ⟨r, z, y, e, e2', h⟩ := hI
      obtain rfl := nil_of_map e
      exact .nil (.next ⟨z, _, y, e2', h⟩)
  · obtain ⟨t', x', s', hg⟩ := h
    have hg : t' = _ := hg
    exact SnB.retB (Rd.to (v := .ref fo) (by walk_at "r") (kk fo G' h1 x' (hg ▸ s')))
end
noncomputable section
variable {X : Cx} {n : Nat} {G : Gh} {sc : Scope} {os : List (Option Val)} {m : M}
noncomputable def keepS (am : AddrM) (t : Nat) (ss : List PS) : List PS := ss.filter fun p => !isStP am t p
noncomputable def chS (am : AddrM) (t : Nat) (B : PB) : Bool := Nat.blt (keepS am t B.steps).length B.steps.length
noncomputable def swS (am : AddrM) (t : Nat) (B : PB) : PB := if chS am t B then withSt B (keepS am t B.steps) else B
theorem swFrom_len {F : PB → PB} {p : Int → Bool} : ∀ {Bs : List PB} {i : Int}, (swFrom F p i Bs).length = Bs.length
  | [], _ => rfl
  | B :: Bs, i => congrArg (· + 1) (swFrom_len (Bs := Bs))
theorem swFrom_lt {F : PB → PB} {p q : Int → Bool} : ∀ {Bs : List PB} {i : Int}, (∀ j, i ≤ j → j < i + Bs.length → p j = q j) → swFrom F p i Bs = swFrom F q i Bs
  | [], _, _ => rfl
  | B :: Bs, i, h => by
    have e : ((B :: Bs).length : Int) = Bs.length + 1 := rfl
    show _ :: _ = _ :: _
    rw [h i (Int.le_refl i) (by omega), swFrom_lt (Bs := Bs) fun j hj hj' => h j (by omega) (by omega)]
theorem chFrom_lt {c : PB → Bool} {p q : Int → Bool} : ∀ {Bs : List PB} {i : Int}, (∀ j, i ≤ j → j < i + Bs.length → p j = q j) → chFrom c p i Bs = chFrom c q i Bs
  | [], _, _ => rfl
  | B :: Bs, i, h => by
    have e : ((B :: Bs).length : Int) = Bs.length + 1 := rfl
    show (_ || _) = (_ || _)
    rw [h i (Int.le_refl i) (by omega), chFrom_lt (Bs := Bs) fun j hj hj' => h j (by omega) (by omega)]
theorem swFrom_mem {F : PB → PB} {p : Int → Bool} {P : PB → Prop} (hF : ∀ B, P B → P (F B)) : ∀ {Bs : List PB} {i : Int}, (∀ B ∈ Bs, P B) → ∀ B ∈ swFrom F p i Bs, P B
  | [], _, _ => all_nil
  | B :: Bs, i, h => all_cons (by cases q : p i; exact h _ (.head _); exact hF _ (h _ (.head _))) (swFrom_mem hF (all_tl h))
theorem FnOK.sw {F : PB → PB} {p : Int → Bool} {Bs : List PB} (ok : FnOK Bs) (hF : ∀ B, BOK Bs.length B → BOK Bs.length (F B)) : FnOK (swFrom F p 0 Bs) := by
  refine ⟨by rw [swFrom_len]; exact ok.one, by rw [swFrom_len]; exact ok.few, ?_⟩
  rw [swFrom_len]
  exact swFrom_mem hF ok.blks
theorem BOK.withSt {N : Nat} {B : PB} {ss : List PS} (h : BOK N B) (hl : ss.length ≤ B.steps.length) (hs : ∀ p ∈ ss, StepWf p) : BOK N (withSt B ss) := ⟨Nat.le_trans hl h.len, hs, h.ends, h.ways, h.goals⟩
noncomputable def asFreed (p : PS) : PS := ⟨p.op, -1, p.args, p.more, false⟩
theorem sweptP_all {sl : Slots} {am : AddrM} {P : PS → Prop} (hP : ∀ p, P p → isCall p.op = true → P (asFreed p)) {ends : List Opd} {k : Nat} {ss : List PS} (h : ∀ p ∈ ss, P p) : (sweptP sl am ss ends k).length ≤ ss.length ∧ ∀ q ∈ sweptP sl am ss ends k, P q.1 := by
  have key : ∀ (ts : List PS) (s : Nat × List (PS × Bool)) (N : Nat), (∀ p ∈ ts, P p) → s.2.length ≤ N → (∀ q ∈ s.2, P q.1) → (ts.foldl (sweptStep sl am) s).2.length ≤ N + ts.length ∧ ∀ q ∈ (ts.foldl (sweptStep sl am) s).2, P q.1 := fun ts => by
    induction ts with
    | nil => exact fun s N _ h1 h2 => ⟨h1, h2⟩
    | cons p ts ih =>
      intro s N h h1 h2
      rw [List.foldl_cons, List.length_cons, Nat.add_comm ts.length, ← Nat.add_assoc]
      have hp := h p (.head _)
      refine ih _ _ (all_tl h) ?_ ?_
      · unfold sweptStep
        split
        · split
          · exact Nat.le_succ_of_le h1
          · exact Nat.succ_le_succ h1
        · split
          · exact Nat.le_succ_of_le h1
          · split
            · exact Nat.succ_le_succ h1
            · exact Nat.succ_le_succ h1
      · unfold sweptStep
        split
        · split
          · exact h2
          · exact all_cons hp h2
        · split
          · exact h2
          · split
            · rename_i hc
              exact all_cons (hP p hp (Bool.and_eq_true_iff.mp hc).2) h2
            · exact all_cons hp h2
  have := key ss.reverse (addA k ends, []) 0 (fun p hp => h p (List.mem_reverse.mp hp)) (Nat.le_refl _) all_nil
  rw [List.length_reverse, Nat.zero_add] at this
  exact this
theorem StepWf.freed {p : PS} (h : StepWf p) (hc : isCall p.op = true) : StepWf (asFreed p) := by
  have e : p.op = 3 ∨ p.op = 4 := (Bool.or_eq_true_iff.mp hc).imp Nat.eq_of_beq_eq_true Nat.eq_of_beq_eq_true
  refine ⟨fun q => h.div q, fun q => ?_, fun q => ?_, fun q => ?_, h.few, h.regs⟩ <;> (have q : p.op = _ := q; omega)
theorem FnOK.swB {sl : Slots} {am : AddrM} {AH : List (Int × Nat)} {p : Int → Bool} {Bs : List PB} (ok : FnOK Bs) : FnOK (swFrom (swB sl am AH) p 0 Bs) := ok.sw fun B h => by
  unfold Mine.swB
  split
  · obtain ⟨h1, h2⟩ := sweptP_all (sl := sl) (am := am) (fun p w c => StepWf.freed w c) (ends := B.fin.args) (k := behindP AH B.ways) h.wf
    refine h.withSt (by rw [List.length_map]; exact h1) fun p hp => ?_
    obtain ⟨q, hq, rfl⟩ := List.mem_map.mp hp
    exact h2 q hq
  · exact h
end
noncomputable section
variable {X : Cx} {n : Nat} {G : Gh} {sc : Scope} {os : List (Option Val)} {m : M}
noncomputable abbrev stL (f ad tk : Addr) (c : Bool) (b k : Option Val) : M := L sc_sweep_stores [some (.ref f), some (.ref ad), some (.ref tk), some (.bool c), b, k, none, none]
noncomputable def upTo (i : Nat) : Int → Bool := fun j => decide (j < i)
inductive SoI (G0 : Gh) (f ad tk : Addr) (bls : List Addr) (Bs : List PB) (am : AddrM) (t : Nat) (xs : List Val) (m : M) (G : Gh) : Prop where
  | mk (i : Nat) (c : Bool) (b k : Option Val) (e1 : xs = (bls.drop i).map .ref) (e2 : m = stL f ad tk c b k) (x : ExtB bls G0 G) (hB : BlksAt G 0 bls (swFrom (swS am t) (upTo i) 0 Bs)) (hc : c = chFrom (chS am t) (upTo i) 0 Bs) (hi : i ≤ bls.length)
inductive CoI (G0 : Gh) (am : AddrM) (t : Nat) (goal : List PS) (N : Nat) (xs acc : List Val) (G : Gh) : Prop where
  | mk (as ks : List Addr) (ps qs : List PS) (e1 : xs = as.map .ref) (e2 : acc = ks.map .ref) (eG : G = G0) (hs : StepsAt G0 as ps) (hw : ∀ p ∈ ps, StepWf p) (hk : StepsAt G0 ks qs) (hg : qs ++ keepS am t ps = goal) (hl : ks.length + as.length ≤ N)
theorem keepS_pos {am : AddrM} {t : Nat} {p : PS} {r : List PS} (h : isStP am t p = false) : keepS am t (p :: r) = p :: keepS am t r := List.filter_cons_of_pos (p := fun p => !isStP am t p) (by rw [h]; rfl)
theorem keepS_neg {am : AddrM} {t : Nat} {p : PS} {r : List PS} (h : isStP am t p = true) : keepS am t (p :: r) = keepS am t r := List.filter_cons_of_neg (p := fun p => !isStP am t p) (by rw [h]; decide)
theorem upTo_succ (i : Nat) : orp (upTo i) (i : Int) = upTo (i + 1) := by
  funext j
  show (decide (j < (i : Int)) || decide (j = (i : Int))) = decide (j < ((i + 1 : Nat) : Int))
  rw [Bool.eq_iff_iff, Bool.or_eq_true, decide_eq_true_iff, decide_eq_true_iff, decide_eq_true_iff]
  omega
theorem sp_sweep_stores {f ad ta : Addr} {pr : List Int} {sl : Slots} {bls : List Addr} {Bs : List PB} {am : AddrM} {t : Nat} {Q : QE} (T : Tops X) (hf : FuncAt G f pr sl bls) (hB : BlksAt G 0 bls Bs) (hnd : bls.Nodup) (ok : FnOK Bs) (ha : G ad = some (.dict (adE am))) (hok : AdOK am sl) (ht : SetAt G ta t)
    (k1 : am.isEmpty = true → Q (.bool false) G) (k2 : am.isEmpty = false → ∀ G', ExtB bls G G' → BlksAt G' 0 bls (swFrom (swS am (takenP sl am Bs t)) (fun _ => true) 0 Bs) → Q (.bool (chFrom (chS am (takenP sl am Bs t)) (fun _ => true) 0 Bs)) G') : Cal X (n + 3) a_sweep_stores [.ref f, .ref ad, .ref ta] G Q := by
  refine' Cal.start (os := ?os) T.d_sweep_stores ?q ?b; case q => walk_at "r"
  case b =>
  refine SnB.ifs (r := !(!(adE am).isEmpty)) (.not (.val (v := .ref ad) (by walk_at "r") (.dict ha))) (fun e => .retT (Rd.to Rd.tru (k1 ?_))) fun e => .nilT ?_
  · cases am with
    | nil => rfl
    | cons _ _ => cases e
  have hne : am.isEmpty = false := by
    cases am with
    | nil => cases e
    | cons _ _ => rfl
  refine SnB.assignQ (Sn.ref T.f_taken_slots (by walk_at "r") (fun _ _ => rfl) (vs := [.ref f, .ref ad, .ref ta]) (by walk_at "r") (sp_taken_slots T hf hB ok ha hok ht fun tk G1 h1 x1 s1 => ⟨_, by walk_at "r", ?_⟩))
  generalize takenP sl am Bs t = t2 at *
  refine SnB.assign (v := .bool false) .tru (by walk_at "r") ?_
  have hf1 := hf.ext x1
  have hB1 := hB.ext x1
  have ha1 := x1 _ _ ha
  obtain ⟨ff, fp, fl, fb, f1, ⟨g1, g2, g3⟩, f2, f3, f4⟩ := id hf1
  have e0 : ∀ {i : Int}, 0 ≤ i → upTo 0 i = false := fun h => decide_eq_false (by omega)
  have hlen := hB1.length
  have hfew := ok.few
  refine SnB.forN (a := fb) (by walk_at "r") f4 (SoI G1 f ad tk bls Bs am t2) ⟨0, false, none, none, rfl, rfl, .refl, ?_, ?_, Nat.zero_le _⟩ (fun v xs m G2 hI => ?_) (fun m G2 hI => ?_) fun xs m G2 hI => ?_
  · rw [swFrom_congr (q := fun _ => false) fun j hj => e0 hj, swFrom_none]; exact hB1
  · rw [chFrom_congr (q := fun _ => false) fun j hj => e0 hj, chFrom_none]
  · obtain ⟨i, c, bv, kv, e1, e2, x, hb, hc, hi⟩ := hI
    obtain ⟨b, r, e3, rfl, rfl⟩ := cons_of_map e1
    subst e2
    have hlt : i < bls.length := Nat.lt_of_not_le fun q => by rw [List.drop_eq_nil_of_le q] at e3; cases e3
    rw [List.drop_eq_getElem_cons hlt] at e3
    obtain ⟨eb, er⟩ := List.cons.inj e3
    have hb0 : bls[i]? = some b := by rw [List.getElem?_eq_getElem hlt, eb]
    obtain ⟨B, hB0⟩ : ∃ B, Bs[i]? = some B := ⟨_, List.getElem?_eq_getElem (by omega)⟩
    have hBm := ok.blks B (List.mem_of_getElem? hB0)
    have hcur := swFrom_get (F := swS am t2) (p := upTo i) (i := 0) hB0
    rw [if_neg (by rw [Int.zero_add, show upTo i (i : Int) = false from decide_eq_false (by omega)]; decide)] at hcur
    obtain ⟨b', hb0', ⟨sts, eo, hb1, hb2, hb3, hb4⟩⟩ := hb.get hcur
    rw [hb0] at hb0'; obtain rfl : b = b' := Option.some.inj hb0'
    rw [Int.zero_add] at hb1
    have hbm := List.mem_of_getElem? hb0
    obtain ⟨fbb, stl, q1, ⟨b1, b2, b3⟩, q3⟩ := id hb1
    have hsl := hb2.length
    have hl900 := hBm.len
    have ha2 := x _ _ (hB1.off ha1 rfl) ha1
    have hs2 : SetAt G2 tk t2 := by obtain ⟨fr, s⟩ := s1; exact ⟨fr, x _ _ (hB1.off s rfl) s⟩
    refine ⟨_, .name (Upd.put (os' := [some (.ref f), some (.ref ad), some (.ref tk), some (.bool c), some (.ref b), kv, none, none]) (by walk_at "r")), ?_⟩
    refine .cons (SnS.assignComp (by decide +kernel) (.seq (Rd.to (v := .ref stl) (by walk_at "r") ⟨_, _, .list q3, by rw [List.length_map]; unfold cap; omega, CoI G2 am t2 (keepS am t2 B.steps) sts.length, .cap (sc' := sc_sweep_stores_c1) [none, none, none, some (.ref ad), some (.ref tk)] ⟨?_, ?_⟩ ?_, ⟨sts, [], B.steps, [], rfl, rfl, rfl, hb2, hBm.wf, .nil, rfl, by rw [List.length_nil]; omega⟩⟩)))
    · intro v xs acc G3 hI
      obtain ⟨as, ks, ps, qs, e1, e2, rfl, hs, hw, hk, hg, hl⟩ := hI
      obtain ⟨a, as, rfl, rfl, rfl⟩ := cons_of_map e1
      subst e2
      cases hs with | @cons _ p _ ps s1' s2' =>
      rw [List.length_cons] at hl
      refine ⟨q3, _, Upd.bnd (os := [none, none, none, some (.ref ad), some (.ref tk)]) (os' := [none, some (.ref a), none, some (.ref ad), some (.ref tk)]) (by walk_at "r"), .cons (SnT.mono (RdT.not (t := isStP am t2 p) (.val (.ref T.f_is_store_to (by walk_at "r") (fun _ _ => rfl) (vs := [.ref a, .ref ad, .ref tk]) (by walk_at "r") (sp_is_store_to T s1' (hw p (.head _)) ha2 hs2 ⟨rfl, rfl⟩)) (.bool _))) fun tt G' ee => ?_)⟩
      obtain ⟨rfl, rfl⟩ := ee
      refine ⟨fun e => .nil ⟨fun _ => Rd.to (v := .ref a) (by walk_at "r") ⟨as, ks ++ [a], ps, qs ++ [p], rfl, (by rw [List.map_append]; rfl), rfl, s2', all_tl hw, hk.snoc s1', ?_, by rw [List.length_append, List.length_singleton]; omega⟩, fun q => nomatch q⟩, fun e => ⟨(fun q => nomatch q), fun _ => ⟨as, ks, ps, qs, rfl, rfl, rfl, s2', all_tl hw, hk, ?_, by omega⟩⟩⟩
      · rw [Bool.not_eq_true'] at e
        rw [keepS_pos e] at hg
        rw [← hg, List.append_assoc]; rfl
      · rw [Bool.not_eq_false'] at e
        rw [keepS_neg e] at hg
        exact hg
    · intro acc G3 hI
      obtain ⟨as, ks, ps, qs, e1, e2, rfl, hs, hw, hk, hg, hl⟩ := hI
      obtain rfl := nil_of_map e1
      subst e2
      cases hs
      have hg : qs = keepS am t2 B.steps := by rw [← hg]; exact (List.append_nil qs).symm
      subst hg
      refine ⟨q3, fun kp hkp => ⟨_, Upd.put (os' := [some (.ref f), some (.ref ad), some (.ref tk), some (.bool c), some (.ref b), some (.ref kp), none, none]) (by walk_at "r"), .next ?_⟩⟩
      have x4 := Ext.new (o := .list (ks.map .ref)) hkp
      have l4 := Gh.upd_same G3 kp (.list (ks.map .ref))
      generalize G3.upd kp (.list (ks.map .ref)) = G4 at x4 l4
      have lk := hk.length
      have q1' := x4 _ _ q1
      have next : ∀ (c' : Bool) (G5 : Gh), Ext1 b G4 G5 → c' = (c || chS am t2 B) → BlkAt G5 b i (swS am t2 B) → SoI G1 f ad tk bls Bs am t2 (r.map .ref) (stL f ad tk c' (some (.ref b)) (some (.ref kp))) G5 := fun c' G5 x5 ec hbk => by
        have xB : ExtB bls G3 G5 := x4.toB.trans (x5.toB hbm)
        refine ⟨i + 1, c', _, _, by rw [← er], rfl, x.trans xB, ?_, ?_, hlt⟩
        · rw [← upTo_succ]
          exact (hb.ext x4).one x5 (x4 _ _ q1) hb0 hnd (by rw [Int.zero_add]) fun B' q => by rw [hB0] at q; cases q; exact hbk
        · rw [ec, hc, ← upTo_succ, chFrom_or (j := (i : Int)) (i := 0) hB0 (by rw [Int.zero_add])]
      have hC : decide (((ks.map Val.ref).length : Int) < ((sts.map Val.ref).length : Int)) = chS am t2 B := by
        rw [List.length_map, List.length_map, lk, hsl]
        unfold chS
        by_cases q : (keepS am t2 B.steps).length < B.steps.length
        · rw [decide_eq_true (by omega), show Nat.blt _ _ = true from Nat.ble_eq_true_of_le q]
        · rw [decide_eq_false (by omega), show Nat.blt _ _ = false from Bool.eq_false_iff.mpr fun h => q (Nat.le_of_ble_eq_true h)]
      refine SnB.ifs (r := chS am t2 B) ?_ (fun e => ?_) fun e => .nil (.next (.nil (.next (next c G4 .refl (by rw [e, Bool.or_false]) ?_))))
      · rw [← hC]
        exact RdT.cmp (.fn (id := "len") T.blt (by decide) (by decide) (by walk_at "r") (fun _ _ => rfl) (vs := [.ref kp]) (by walk_at "r") (Blt.lenL l4 (by rw [List.length_map]; rw [List.length_nil] at hl; unfold cap; omega) ⟨rfl, rfl⟩)) (.fn (id := "len") T.blt (by decide) (by decide) (by walk_at "r") (fun _ _ => rfl) (vs := [.ref stl]) (by walk_at "r") (Blt.lenL (x4 _ _ q3) (by rw [List.length_map]; unfold cap; omega) ⟨rfl, rfl⟩)) (.lt ⟨rfl, rfl⟩)
      · refine SnB.setAN (f := .steps) T.cls (by walk_at "r") (v := .ref kp) (by walk_at "r") (by walk_at "r") (x4 _ _ q1) fun G5 x5 e5 => ?_
        refine SnB.assign (v := .bool true) .tru (by walk_at "r") (.nil (.next (.nil (.next (next true G5 x5 (by rw [e, Bool.or_true]) ?_)))))
        have kk := x5.nb (x4 _ _ q1)
        have sw : swS am t2 B = withSt B (keepS am t2 B.steps) := if_pos e
        rw [sw]
        exact ⟨ks, eo, ⟨_, kp, e5, ⟨b1, rfl, b3⟩, kk _ _ rfl l4⟩, (hk.ext x4).map fun _ _ s => s.keep kk, (hb3.ext x4).keep kk, (hb4.ext x4).keep kk⟩
      · have sw : swS am t2 B = B := if_neg (by rw [e]; decide)
        rw [sw]
        exact ⟨sts, eo, hb1.ext x4, hb2.ext x4, hb3.ext x4, hb4.ext x4⟩
    · intro y w h
      cases h with | s h => cases h with | s h => cases h with | s h => cases h with
        | z => exact ⟨by walk_at "r", by walk_at "r", by walk_at "r"⟩
        | s h => cases h with
          | z => exact ⟨by walk_at "r", by walk_at "r", by walk_at "r"⟩
          | s h => cases h
  · obtain ⟨i, c, bv, kv, e1, e2, x, hb, hc, hi⟩ := hI
    subst e2
    have hi2 : bls.length ≤ i := by
      have := congrArg List.length e1
      rw [List.length_map, List.length_drop, List.length_nil] at this
      omega
    have hall : ∀ j : Int, 0 ≤ j → j < 0 + Bs.length → upTo i j = true := fun j h0 h1 => decide_eq_true (by omega)
    rw [swFrom_lt hall] at hb
    rw [chFrom_lt hall] at hc
    exact SnB.retB (Rd.to (v := .bool c) (by walk_at "r") (hc ▸ k2 hne G2 (x1.toB.trans x) hb))
  · obtain ⟨i, c, bv, kv, e1, e2, x, hb, hc, hi⟩ := hI
    exact x _ _ (hB1.off f4 rfl) f4
end
noncomputable section
variable {X : Cx} {n : Nat} {G : Gh} {sc : Scope} {os : List (Option Val)} {m : M}
theorem SnB.assign2Q {Q : QS} {e : PySem.Expr} {x y : Str} {k : Nat} {p1 p2 p pos : Pos} {sts : List PySem.Stmt} (h : Sn X n sc e (L sc os) G fun v G' => ∃ v1 v2 os' os'', v = .tup [v1, v2] ∧ Upd false sc.names os x v1 os' ∧ Upd false sc.names os' y v2 os'' ∧ SnB X n sc sts (L sc os'') G' Q)
    (hsw : ∀ env, swapsWithSole [.Tuple [.Name x p1, .Name y p2] k p] e pos.line env = pure false := by intro _; rfl) (hw : ∀ env, swappedStores [.Tuple [.Name x p1, .Name y p2] k p] e env = pure .none := by intro _; rfl) : SnB X n sc (.Assign [.Tuple [.Name x p1, .Name y p2] k p] e pos :: sts) (L sc os) G Q :=
  .cons (.assignT (h.mono fun v G' q => by obtain ⟨v1, v2, os', os'', rfl, u1, u2, q⟩ := q; exact ⟨_, .tup (.two u1 u2), .next q⟩) hsw hw)
theorem st_vals {β : Type} {P : β → Prop} {l : List (Int × β)} {k : Int} {v : β} (h : ∀ e ∈ l, P e.2) (hv : P v) : ∀ e ∈ st l k v, P e.2 := fun e he => (mem_st he).elim (h e) fun q => q ▸ hv
theorem regs_ok {sl : Slots} {pa : List Int} {ss : List PS} (hw : ∀ p ∈ ss, SlotWf sl p) (hs : sl.length ≤ 16) : AdOK (slotRegsP pa ss).1 sl := by
  have h1 : ∀ (ps : List PS) (l : AddrM), (∀ p ∈ ps, p ∈ ss ∧ p.op = 9) → (∀ e ∈ l, 0 ≤ e.2 ∧ e.2.toNat < sl.length) → ∀ e ∈ ps.foldl (fun l p => st l p.dst (moreI p.more)) l, 0 ≤ e.2 ∧ e.2.toNat < sl.length := fun ps => by
    induction ps with
    | nil => exact fun _ _ h => h
    | cons p ps ih =>
      intro l hp h
      refine ih _ (all_tl hp) (st_vals (P := fun i : Int => 0 ≤ i ∧ i.toNat < sl.length) h ?_)
      obtain ⟨q1, q2⟩ := hp p (.head _)
      obtain ⟨i, e, z⟩ := hw p q1 q2
      rw [e]; exact z
  have h2 : ∀ (O : List (Int × Int)) (ps : List PS) (s : AddrM × Nat), (∀ e ∈ s.1, 0 ≤ e.2 ∧ e.2.toNat < sl.length) → ∀ e ∈ (ps.foldl (dropStep O) s).1, 0 ≤ e.2 ∧ e.2.toNat < sl.length := fun O ps => by
    induction ps with
    | nil => exact fun _ h => h
    | cons p ps ih =>
      intro s h
      refine ih _ ?_
      unfold dropStep
      split
      · exact h
      · exact fun e he => h e (List.mem_filter.mp he).1
  refine ⟨fun k s e => ?_, hs⟩
  have := h2 (timesP pa (regsP (slotP ss)) ss) (slotP ss) (regsP (slotP ss), 0) (h1 _ [] (fun p h => slotP_op h) fun e h => nomatch h)
  unfold lookI at e
  obtain ⟨kv, h3, h4⟩ := Option.map_eq_some_iff.mp e
  rw [← h4]
  exact this kv (List.mem_of_find?_eq_some h3)
noncomputable def sweep2 (sl : Slots) (R : AddrM × Nat) (Bs : List PB) (c : Bool) : List PB × Bool :=
  if R.1.isEmpty then (Bs, c) else (swFrom (swS R.1 (takenP sl R.1 Bs R.2)) (fun _ => true) 0 Bs, c || chFrom (chS R.1 (takenP sl R.1 Bs R.2)) (fun _ => true) 0 Bs)
noncomputable def sweep1 (sl : Slots) (R : AddrM × Nat) (AH : List (Int × Nat)) (Bs : List PB) : List PB × Bool :=
  sweep2 sl R (swFrom (swB sl R.1 AH) (fun i => (lk AH i).isSome) 0 Bs) (chFrom (fun B => chgB (sweepB sl R.1 AH B) B) (fun i => (lk AH i).isSome) 0 Bs)
theorem FnOK.swS {am : AddrM} {t : Nat} {p : Int → Bool} {Bs : List PB} (ok : FnOK Bs) : FnOK (swFrom (swS am t) p 0 Bs) := ok.sw fun B h => by
  unfold Mine.swS
  split
  · exact h.withSt (List.length_filter_le _ _) fun p hp => h.wf p (List.mem_filter.mp hp).1
  · exact h
theorem FnOK.sweep1 {sl : Slots} {R : AddrM × Nat} {AH : List (Int × Nat)} {Bs : List PB} (ok : FnOK Bs) : FnOK (sweep1 sl R AH Bs).1 := by
  unfold Mine.sweep1 sweep2
  split
  · exact ok.swB
  · exact ok.swB.swS
theorem sp_sweep_func {f : Addr} {pr : List Int} {sl : Slots} {bls : List Addr} {Bs : List PB} {W0 : List Int} {AH : List (Int × Nat)} {Q : QE} (T : Tops X) (hf : FuncAt G f pr sl bls) (hB : BlksAt G 0 bls Bs) (hnd : bls.Nodup) (ok : FnOK Bs) (ht : (allSt Bs).length ≤ 900) (hp : pr.length ≤ 50) (hw : ∀ p ∈ allSt Bs, SlotWf sl p) (hsl : sl.length ≤ 16)
    (hpo : postP Bs = some W0) (hW : PoOK Bs W0) (hL : ∀ l ∈ predsP Bs, l.length ≤ 16) (hgo : naGo sl (slotRegsP pr (allSt Bs)).1 Bs (predsP Bs) 100 W0 0 (AH0 W0) (IW0 W0) = some AH)
    (kk : ∀ G', ExtB bls G G' → BlksAt G' 0 bls (sweep1 sl (slotRegsP pr (allSt Bs)) AH Bs).1 → Q (.bool (sweep1 sl (slotRegsP pr (allSt Bs)) AH Bs).2) G') : Cal X (n + 7) a_sweep_func [.ref f] G Q := by
  refine' Cal.start (os := ?os) T.d_sweep_func ?q ?b; case q => walk_at "r"
  case b =>
  have hok := regs_ok (pa := pr) hw hsl
  refine SnB.assign2Q (Sn.ref T.f_slot_registers (by walk_at "r") (fun _ _ => rfl) (vs := [.ref f]) (by walk_at "r") (sp_slot_registers T hf hB ht hp hw hsl fun ad ta G1 x1 a1 s1 => ⟨.ref ad, .ref ta, _, _, rfl, by walk_at "r", by walk_at "r", ?_⟩))
  generalize slotRegsP pr (allSt Bs) = R at *
  refine SnB.assignQ (Sn.ref T.f_sweep_steps (by walk_at "r") (fun _ _ => rfl) (vs := [.ref f, .ref ad]) (by walk_at "r") (sp_sweep_steps T (hf.ext x1) a1 hok (hB.ext x1) hnd ok hpo hW hL hgo fun G2 x2 hB2 => ⟨_, by walk_at "r", ?_⟩))
  have hB1 := hB.ext x1
  have a2 := x2 _ _ (hB1.off a1 rfl) a1
  have s2 : SetAt G2 ta R.2 := by obtain ⟨fr, s⟩ := s1; exact ⟨fr, x2 _ _ (hB1.off s rfl) s⟩
  have hf2 := (hf.ext x1).extB hB1 x2
  have x12 : ExtB bls G G2 := x1.toB.trans x2
  have ok2 := FnOK.swB (sl := sl) (am := R.1) (AH := AH) (p := fun i => (lk AH i).isSome) ok
  unfold sweep1 at kk
  generalize swFrom (swB sl R.1 AH) (fun i => (lk AH i).isSome) 0 Bs = Bs1 at *
  generalize chFrom (fun B => chgB (sweepB sl R.1 AH B) B) (fun i => (lk AH i).isSome) 0 Bs = c1 at *
  refine .cons (.ifs (.val (Sn.ref T.f_sweep_stores (by walk_at "r") (fun _ _ => rfl) (vs := [.ref f, .ref ad, .ref ta]) (by walk_at "r") (sp_sweep_stores T hf2 hB2 hnd ok2 a2 hok s2 (fun e => ⟨false, .bool _, (fun q => Bool.noConfusion q), fun _ => .nilT ?_⟩) fun hne G3 x3 hB3 => ⟨_, .bool _, fun e => ?_, fun e => .nilT ?_⟩))))
  · have e' : sweep2 sl R Bs1 c1 = (Bs1, c1) := if_pos e
    rw [e'] at kk
    exact SnB.retB (Rd.to (v := .bool c1) (by walk_at "r") (kk G2 x12 hB2))
  all_goals
    have e' : sweep2 sl R Bs1 c1 = (swFrom (swS R.1 (takenP sl R.1 Bs1 R.2)) (fun _ => true) 0 Bs1, c1 || chFrom (chS R.1 (takenP sl R.1 Bs1 R.2)) (fun _ => true) 0 Bs1) := if_neg (by rw [hne]; decide)
    rw [e', e] at kk
    have kk := kk G3 (x12.trans x3) hB3
  · rw [Bool.or_true] at kk
    exact SnB.assign (v := .bool true) .tru (by walk_at "r") (.nilT (SnB.retB (Rd.to (v := .bool true) (by walk_at "r") kk)))
  · rw [Bool.or_false] at kk
    exact SnB.retB (Rd.to (v := .bool c1) (by walk_at "r") kk)
end
noncomputable section
variable {X : Cx} {n : Nat} {G : Gh} {sc : Scope} {os : List (Option Val)} {m : M}
inductive RowV (G : Gh) (p : PS) (v : Val) : Prop where
  | mk (la : Addr) (e : v = .tup [.str (opS p.op), .int p.dst, .ref la, p.more, .bool p.vol]) (h : G la = some (.list (p.args.map opdV))) (ho : p.op < 36)
inductive RowsV (G : Gh) : List PS → List Val → Prop where
  | nil : RowsV G [] []
  | cons {p : PS} {ps : List PS} {v : Val} {vs : List Val} : RowV G p v → RowsV G ps vs → RowsV G (p :: ps) (v :: vs)
inductive RowL (G : Gh) (ps : List PS) (a : Addr) : Prop where
  | mk (vs : List Val) (e : G a = some (.list vs)) (h : RowsV G ps vs)
theorem RowV.ext {G' : Gh} {p : PS} {v : Val} (h : RowV G p v) (x : Ext G G') : RowV G' p v := by obtain ⟨la, e, h, ho⟩ := h; exact ⟨la, e, x _ _ h, ho⟩
theorem RowsV.ext {G' : Gh} {ps : List PS} {vs : List Val} (h : RowsV G ps vs) (x : Ext G G') : RowsV G' ps vs := by
  induction h with
  | nil => exact .nil
  | cons a _ ih => exact .cons (a.ext x) ih
theorem RowL.ext {G' : Gh} {ps : List PS} {a : Addr} (h : RowL G ps a) (x : Ext G G') : RowL G' ps a := by obtain ⟨vs, e, h⟩ := h; exact ⟨vs, x _ _ e, h.ext x⟩
theorem RowsV.append {ps qs : List PS} {vs ws : List Val} (h : RowsV G ps vs) (k : RowsV G qs ws) : RowsV G (ps ++ qs) (vs ++ ws) := by
  induction h with
  | nil => exact k
  | cons a _ ih => exact .cons a ih
theorem RowsV.length {ps : List PS} {vs : List Val} (h : RowsV G ps vs) : vs.length = ps.length := by
  induction h with
  | nil => rfl
  | cons _ _ ih => exact congrArg (· + 1) ih
theorem Sn.newN {Q : QE} {k : Cls} {fi : Addr} {id : Str} {es : List PySem.Expr} {vs : List Val} {p pos : Pos} (hc : ClsName X id k fi) (hco : ClsOK X) (hk : GlobIn sc id) (hn : NoStar es) (h : Rds X n sc es m G vs)
    (q : ∀ a G', G a = none → Ext G G' → G' a = some (.inst k fun _ => none) → Cal X n fi (.ref a :: vs) G' fun v G₂ => v = .none ∧ Q (.ref a) G₂) : Sn X n sc (.Call (.Name id p) es [] pos) m G Q :=
  Sn.new hc hco hk hn (h.to fun a ha => q a _ ha (.new ha) (Gh.upd_same ..))
theorem SnB.setAQ {Q : QS} {o e : PySem.Expr} {attr : Str} {f : Fld} {p pos : Pos} {sts : List PySem.Stmt} (hc : ClsOK X) (ha : FldIs attr f) (h : Sn X n sc e m G fun v G₁ => ∃ a c fs, Rd X n sc o m G₁ (.ref a) ∧ G₁ a = some (.inst c fs) ∧ ∀ G', Ext1 a G₁ G' → G' a = some (.inst c (fput fs f v)) → SnB X n sc sts m G' Q)
    (hsw : ∀ env, swapsWith e (some (.Attribute o attr p)) pos.line env = pure false := by intro _; rfl) : SnB X n sc (.Assign [.Attribute o attr p] e pos :: sts) m G Q :=
  .cons (.setAttr hc f ha.eq (h.mono fun v G₁ q => by obtain ⟨a, c, fs, ho, e1, k⟩ := q; exact ho.to ⟨a, c, fs, rfl, e1, .next (k _ .upd (Gh.upd_same ..))⟩) hsw)
theorem Sn.newBlock {Q : QE} {e : PySem.Expr} {i : Int} {p pos : Pos} (T : Tops X) (hk : GlobIn sc "Block") (hn : NoStar [e]) (h : Rds X (n + 1) sc [e] m G [.int i])
    (k : ∀ b st fs G', G b = none → G st = none → b ≠ st → Ext G G' → G' b = some (.inst .block fs) → fs .number = some (.int i) → fs .steps = some (.ref st) → G' st = some (.list []) → Q (.ref b) G') : Sn X (n + 1) sc (.Call (.Name "Block" p) [e] [] pos) m G Q := by
  refine Sn.newN T.f_Block T.cls hk hn h fun b G1 hb x1 b1 => ?_
  refine' Cal.start (os := ?os) T.d_Block ?q ?b; case q => walk_at "r"
  case b =>
  refine SnB.setAN (f := .number) T.cls (by walk_at "r") (by walk_at "r") (by walk_at "r") b1 fun G2 x2 b2 => ?_
  refine SnB.setAQ (f := .steps) T.cls (by walk_at "r") (Sn.listN .nil fun st G3 hst x3 s3 => ⟨b, .block, _, by walk_at "r", x3 _ _ b2, fun G4 x4 b4 => ?_⟩)
  refine SnB.setAN (f := .end_) T.cls (by walk_at "r") (v := .none) (by walk_at "r") (by walk_at "r") b4 fun G5 x5 b5 => ?_
  have x12 := x1.fresh hb x2
  have bs := ne_new b2 hst
  exact .nil (.next ⟨rfl, k b st _ G5 hb (x12.none hst) bs ((x12.trans x3).fresh hb (x4.trans x5)) b5 rfl rfl (x5 _ _ (Ne.symm bs) (x4 _ _ (Ne.symm bs) s3))⟩)
theorem Sn.newFunc {Q : QE} {e : PySem.Expr} {s : Str} {p pos : Pos} (T : Tops X) (hk : GlobIn sc "Func") (hn : NoStar [e]) (h : Rds X (n + 1) sc [e] m G [.str s])
    (k : ∀ f bl fs G', G f = none → G bl = none → f ≠ bl → Ext G G' → G' f = some (.inst .func fs) → fs .blocks = some (.ref bl) → G' bl = some (.list []) → Q (.ref f) G') : Sn X (n + 1) sc (.Call (.Name "Func" p) [e] [] pos) m G Q := by
  refine Sn.newN T.f_Func T.cls hk hn h fun b G1 hb x1 b1 => ?_
  refine' Cal.start (os := ?os) T.d_Func ?q ?b; case q => walk_at "r"
  case b =>
  refine SnB.setAN (f := .name) T.cls (.name) (by walk_at "r") (by walk_at "r") b1 fun G2 x2 b2 => ?_
  refine SnB.setAQ (f := .params) T.cls (by walk_at "r") (Sn.listN .nil fun pa G3 hpa x3 s3 => ⟨b, .func, _, by walk_at "r", x3 _ _ b2, fun G4 x4 b4 => ?_⟩)
  refine SnB.setAN (f := .is_static) T.cls .is_static (v := .bool false) (by walk_at "r") (by walk_at "r") b4 fun G5 x5 b5 => ?_
  refine SnB.setAQ (f := .slots) T.cls (by walk_at "r") (Sn.listN .nil fun sl G6 hsl x6 s6 => ⟨b, .func, _, by walk_at "r", x6 _ _ b5, fun G7 x7 b7 => ?_⟩)
  refine SnB.setAQ (f := .blocks) T.cls (by walk_at "r") (Sn.listN .nil fun bl G8 hbl x8 s8 => ⟨b, .func, _, by walk_at "r", x8 _ _ b7, fun G9 x9 b9 => ?_⟩)
  refine SnB.setAN (f := .registers) T.cls .registers (v := .int 0) (by walk_at "r") (by walk_at "r") b9 fun G10 x10 b10 => ?_
  refine SnB.setAN (f := .has_value) T.cls .has_value (v := .bool false) (by walk_at "r") (by walk_at "r") b10 fun G11 x11 b11 => ?_
  have y3 := ((x1.fresh hb x2).trans x3).fresh hb (x4.trans x5)
  have y7 := (y3.trans x6).fresh hb x7
  have bs := ne_new b7 hbl
  exact .nil (.next ⟨rfl, k b bl _ G11 hb (y7.none hbl) bs ((y7.trans x8).fresh hb ((x9.trans x10).trans x11)) b11 rfl (x11 _ _ (Ne.symm bs) (x10 _ _ (Ne.symm bs) (x9 _ _ (Ne.symm bs) s8)))⟩)
theorem Sn.newStepN {Q : QE} {es : List PySem.Expr} {p pos : Pos} {s : PS} (T : Tops X) (hk : GlobIn sc "Step") (hn : NoStar es) (h : SnEs X (n + 1) sc es m G fun vs G₁ => ∃ la, vs = [.str (opS s.op), .int s.dst, .ref la, s.more] ∧ ∀ a fs G', G₁ a = none → Ext G₁ G' → StepIs fs ⟨s.op, s.dst, s.args, s.more, false⟩ la → G' a = some (.inst .step fs) → Q (.ref a) G') :
    Sn X (n + 1) sc (.Call (.Name "Step" p) es [] pos) m G Q := Sn.new T.f_Step T.cls hk hn ⟨fun hy => h.use hy fun ys s₁ vs G₁ hv hy₁ f₁ ⟨la, e, k⟩ => .mk vs G₁ hv hy₁.hr f₁ (by subst e; exact fun a ha => sp_Step T fun fs hfs => ⟨rfl, k a fs _ ha (.new ha) hfs (Gh.upd_same ..)⟩)⟩
end
noncomputable section
variable {X : Cx} {n : Nat} {G : Gh} {sc : Scope} {os : List (Option Val)} {m : M}
noncomputable def enE : Nat → List Val → List Val
  | _, [] => []
  | i, v :: r => .tup [.int i, v] :: enE (i + 1) r
theorem enum_E (xs : List Val) : enumL xs = enE 0 xs := by
  have : ∀ (l : List Val) (k : Nat), (l.zipIdx k).map (fun p => Val.tup [.int p.2, p.1]) = enE k l := fun l => by
    induction l with
    | nil => intro k; rfl
    | cons o l ih => intro k; show _ :: _ = _; rw [ih]; rfl
  exact this xs 0
inductive EnV (I : Nat → List Val → M → Gh → Prop) (xs : List Val) (m : M) (G : Gh) : Prop where
  | mk (i : Nat) (r : List Val) (e : xs = enE i r) (h : I i r m G)
theorem SnB.forEn {Q : QS} {e : PySem.Expr} {ts : List PySem.Expr} {k : Nat} {tp p1 p2 pos : Pos} {body sts : List PySem.Stmt} {a : Addr} {xs : List Val} (hx : BltOK X) (hk : GlobIn sc "enumerate") (hn : NoStar [e]) (he : Rd X n sc e m G (.ref a)) (el : G a = some (.list xs)) (I : Nat → List Val → M → Gh → Prop) (h0 : I 0 xs m G)
    (turn : ∀ i v r m G, I i (v :: r) m G → ∃ m', Bnd X false sc (.Tuple ts k tp) (.tup [.int i, v]) m m' ∧ SnB X n sc body m' G (Turn (I (i + 1) r) (Then X n sc sts Q))) (z : ∀ i m G, I i [] m G → SnB X n sc sts m G Q) (gd : ∀ i r m G', I i r m G' → G' a = some (.list xs))
    (hs : ∀ env x, foldedSetIterable (.Call (.Name "enumerate" p1) [e] [] p2) env x = pure x := by intro _ _; rfl) (hp : ∀ env, starEach [e] env = (false, eval e env) :: starEach [] env := by intro _; rfl) : SnB X n sc (.For (.Tuple ts k tp) (.Call (.Name "enumerate" p1) [e] [] p2) body [] pos :: sts) m G Q := by
  refine .cons (.fors (.enum hx hk hn (Rds.to (vs := [.ref a]) (.cons he .nil hp) ⟨a, xs, rfl, el, EnV I, ⟨fun x xs m G hI => ?_, fun m G hI => ?_⟩, ⟨0, xs, enum_E xs, h0⟩⟩)) hs)
  · obtain ⟨i, r, e1, h⟩ := hI
    cases r with
    | nil => cases e1
    | cons o r =>
      obtain ⟨rfl, rfl⟩ := List.cons.inj e1
      obtain ⟨m', b, q⟩ := turn i o r m G h
      refine ⟨gd _ _ _ _ h, m', b, q.mono fun fl m G q => ?_⟩
      cases q with
      | next h => exact .next ⟨_, _, rfl, h⟩
      | cont h => exact .cont ⟨_, _, rfl, h⟩
      | brk h => exact .brk h
      | ret h => exact .ret h
  · obtain ⟨i, r, e1, h⟩ := hI
    cases r with
    | nil => exact ⟨gd _ _ _ _ h, .next (z i m G h)⟩
    | cons o r => cases e1
theorem Blt.listLN {Q : QE} {a : Addr} {xs : List Val} (e : G a = some (.list xs)) (hl : xs.length ≤ 2000) (q : NewL xs G Q) : Blt X n (.type "list") [.ref a] G Q := Blt.listL e (by unfold cap; omega) q.nl
noncomputable abbrev Parts := List (List PS × PS)
inductive EndV (G : Gh) (e : PS) (v : Val) : Prop where
  | mk (el : Addr) (h : v = .tup [.str (opS e.op), .ref el, e.more]) (ha : G el = some (.list (e.args.map opdV))) (ho : e.op < 36)
inductive PartV (G : Gh) (p : List PS × PS) (v : Val) : Prop where
  | mk (rl : Addr) (ve : Val) (h : v = .tup [.ref rl, ve]) (hr : RowL G p.1 rl) (he : EndV G p.2 ve)
inductive PartsV (G : Gh) : Parts → List Val → Prop where
  | nil : PartsV G [] []
  | cons {p : List PS × PS} {ps : Parts} {v : Val} {vs : List Val} : PartV G p v → PartsV G ps vs → PartsV G (p :: ps) (v :: vs)
theorem EndV.ext {G' : Gh} {e : PS} {v : Val} (h : EndV G e v) (x : Ext G G') : EndV G' e v := by obtain ⟨el, h, ha, ho⟩ := h; exact ⟨el, h, x _ _ ha, ho⟩
theorem PartV.ext {G' : Gh} {p : List PS × PS} {v : Val} (h : PartV G p v) (x : Ext G G') : PartV G' p v := by obtain ⟨rl, ve, h, hr, he⟩ := h; exact ⟨rl, ve, h, hr.ext x, he.ext x⟩
theorem PartsV.ext {G' : Gh} {ps : Parts} {vs : List Val} (h : PartsV G ps vs) (x : Ext G G') : PartsV G' ps vs := by
  induction h with
  | nil => exact .nil
  | cons a _ ih => exact .cons (a.ext x) ih
noncomputable def tupV (v : Val) : List Val := match v with | .tup l => l | _ => []
noncomputable def waysP (e : PS) : List Int := cond (Nat.beq e.op 32) [moreI e.more] (cond (Nat.beq e.op 33) [moreI ((tupV e.more).headD .none), moreI ((tupV e.more).tail.headD .none)] [])
noncomputable def endS (e : PS) : PS := ⟨e.op, -1, e.args, e.more, false⟩
noncomputable def mkB (p : List PS × PS) : PB := ⟨p.1, endS p.2, waysP p.2⟩
inductive EndOKp (e : PS) : Prop where
  | jump (h : e.op = 32) (i : Int) (m : e.more = .int i)
  | branch (h : e.op = 33) (i j : Int) (m : e.more = .tup [.int i, .int j])
  | give (h : e.op = 35)
theorem EndOKp.at {e : PS} (h : EndOKp e) : EndAt G (endS e) (waysP e) := by
  obtain ⟨op, dst, args, more, vol⟩ := e
  cases h with
  | jump h i m => cases h; cases m; exact .jump rfl rfl
  | branch h i j m => cases h; cases m; exact .branch rfl rfl
  | give h => cases h; exact .other rfl rfl rfl
noncomputable abbrev lsL (pt : Addr) (size : Int) (f : Addr) (nm rw en bk op ds ar mo fi ea : Option Val) : M := L sc_law_swept [some (.ref pt), some (.int size), some (.ref f), nm, rw, en, bk, op, ds, ar, mo, fi, ea, none, none, none, none, none, none, none, none]
inductive Ls1 (Gb : Gh) (pt : Addr) (size : Int) (f b st bl : Addr) (fs : Fld → Option Val) (nm rw en : Option Val) (goal : List PS) (xs : List Val) (m : M) (G : Gh) : Prop where
  | mk (op ds ar mo fi ea : Option Val) (ps qs : List PS) (as : List Addr) (e2 : m = lsL pt size f nm rw en (some (.ref b)) op ds ar mo fi ea) (x : Ext Gb G) (hb : G b = some (.inst .block fs)) (hst : G st = some (.list (as.map .ref))) (hr : RowsV Gb ps xs)
    (hS : ∀ H, ExtB [b, st, bl] G H → StepsAt H as qs) (hg : qs ++ ps = goal) (hl : as.length + ps.length ≤ 900)
inductive RLs (G : Gh) : List (List PS) → List Addr → Prop where
  | nil : RLs G [] []
  | cons {ps : List PS} {a : Addr} {qs : List (List PS)} {as : List Addr} : RowL G ps a → RLs G qs as → RLs G (ps :: qs) (a :: as)
theorem RLs.map {G' : Gh} {qs : List (List PS)} {as : List Addr} (h : RLs G qs as) (k : ∀ ps a, RowL G ps a → RowL G' ps a) : RLs G' qs as := by
  induction h with
  | nil => exact .nil
  | cons a _ ih => exact .cons (k _ _ a) ih
theorem RLs.snoc {qs : List (List PS)} {as : List Addr} {ps : List PS} {a : Addr} (h : RLs G qs as) (r : RowL G ps a) : RLs G (qs ++ [ps]) (as ++ [a]) := by
  induction h with
  | nil => exact .cons r .nil
  | cons a _ ih => exact .cons a ih
theorem RLs.length {qs : List (List PS)} {as : List Addr} (h : RLs G qs as) : as.length = qs.length := by
  induction h with
  | nil => rfl
  | cons _ _ ih => exact congrArg (· + 1) ih
inductive LiI (G0 : Gh) (goal : List PS) (xs acc : List Val) (G : Gh) : Prop where
  | mk (as : List Addr) (ps qs : List PS) (e1 : xs = as.map .ref) (x : Ext G0 G) (hs : StepsAt G0 as ps) (hr : ∀ H, (∀ z o, G0 z = none → G z = some o → H z = some o) → RowsV H qs acc) (hg : qs ++ ps = goal) (hf : ∀ p ∈ ps, p.args.length ≤ 8)
end
noncomputable section
variable {X : Cx} {n : Nat} {G : Gh} {sc : Scope} {os : List (Option Val)} {m : M}
theorem BlksAt.snoc {b eo : Addr} {sts : List Addr} {B : PB} {j : Int} (hs : StepsAt G sts B.steps) (he : StepAt G eo B.fin) (hw : EndAt G B.fin B.ways) {i : Int} {bs : List Addr} {Bs : List PB} (h : BlksAt G i bs Bs) : j = i + bs.length → BlockAt G b j sts eo → BlksAt G i (bs ++ [b]) (Bs ++ [B]) := by
  induction h with
  | nil => intro e hb; rw [show j = _ from (e.trans (Int.add_zero _))] at hb; exact .cons hb hs he hw .nil
  | @cons i' _ _ _ bs' _ _ a1 a2 a3 a4 _ ih => intro e hb; exact .cons a1 a2 a3 a4 (ih (by rw [e, List.length_cons, Int.natCast_add]; show i' + ((bs'.length : Int) + 1) = _; omega) hb)
inductive Ls2 (G0 : Gh) (pt : Addr) (size : Int) (f bl pa sa : Addr) (ff : Fld → Option Val) (vs0 : List Val) (goal : List PB) (N : Nat) (i : Nat) (xs : List Val) (m : M) (G : Gh) : Prop where
  | mk (nm rw en bk op ds ar mo fi ea : Option Val) (ps : Parts) (Bs : List PB) (bs : List Addr) (e2 : m = lsL pt size f nm rw en bk op ds ar mo fi ea) (x : Ext G0 G) (hf : G f = some (.inst .func ff)) (hpa : G pa = some (.list [.int 0, .int 1, .int 2])) (hsa : G sa = some (.list [slotV (size, 1), slotV (4, 4)]))
    (hbl : G bl = some (.list (bs.map .ref))) (hp : PartsV G0 ps xs) (hS : ∀ H, ExtB [bl] G H → BlksAt H 0 bs Bs) (nd : bs.Nodup) (ex : ∀ b ∈ bs, (G b).isSome = true) (fr : ∀ b ∈ bs, G0 b = none) (hE : ∀ p ∈ ps, EndOKp p.2 ∧ p.2.args.length ≤ 8) (hg : Bs ++ ps.map mkB = goal) (hi : i = bs.length) (hl : bs.length + ps.length ≤ 16)
inductive Ls3 (sc : Scope) (Gb : Gh) (pt : Addr) (size : Int) (f : Addr) (c : Bool) (fo : Addr) (goal : List (List PS)) (xs : List Val) (m : M) (G : Gh) : Prop where
  | mk (nm rw en bk op ds ar mo fi ea : Option Val) (i : Int) (bs : List Addr) (Bs : List PB) (rls : List Addr) (qs : List (List PS)) (e1 : xs = bs.map .ref) (e2 : m = L sc [some (.ref pt), some (.int size), some (.ref f), nm, rw, en, bk, op, ds, ar, mo, fi, ea, some (.bool c), some (.ref fo), none, none, none, none, none, none]) (x : Ext Gb G)
    (hfo : G fo = some (.list (rls.map .ref))) (hB : BlksAt Gb i bs Bs) (hS : ∀ H, (∀ z o, Gb z = none → z ≠ fo → G z = some o → H z = some o) → RLs H qs rls) (hg : qs ++ Bs.map (·.steps) = goal) (hw : ∀ B ∈ Bs, ∀ p ∈ B.steps, p.args.length ≤ 8) (hl : ∀ B ∈ Bs, B.steps.length ≤ 900) (hn : rls.length + bs.length ≤ 16)
theorem nd_snoc {α : Type} {a : α} {l : List α} (h : l.Nodup) (k : a ∉ l) : (l ++ [a]).Nodup := List.nodup_append.mpr ⟨h, nd_cons nm_nil .nil, fun x hx y hy q => k (by rw [List.mem_singleton] at hy; rw [← hy, ← q]; exact hx)⟩
theorem ne_some {a c : Addr} (e : (G a).isSome = true) (h : G c = none) : a ≠ c := fun q => by rw [q, h] at e; cases e
theorem sp_law_swept {pt : Addr} {size : Int} {vs : List Val} {ps : Parts} {W0 : List Int} {AH : List (Int × Nat)} {Q : QE} (T : Tops X) (hpt : G pt = some (.list vs)) (hv : PartsV G ps vs) (hE : ∀ p ∈ ps, EndOKp p.2 ∧ p.2.args.length ≤ 8) (ok : FnOK (ps.map mkB)) (ht : (allSt (ps.map mkB)).length ≤ 900) (hw : ∀ p ∈ allSt (ps.map mkB), SlotWf [(size, 1), (4, 4)] p)
    (hpo : postP (ps.map mkB) = some W0) (hW : PoOK (ps.map mkB) W0) (hL : ∀ l ∈ predsP (ps.map mkB), l.length ≤ 16) (hgo : naGo [(size, 1), (4, 4)] (slotRegsP [0, 1, 2] (allSt (ps.map mkB))).1 (ps.map mkB) (predsP (ps.map mkB)) 100 W0 0 (AH0 W0) (IW0 W0) = some AH)
    (kk : ∀ r rls G', Ext G G' → G' r = some (.list (rls.map .ref)) → RLs G' ((sweep1 [(size, 1), (4, 4)] (slotRegsP [0, 1, 2] (allSt (ps.map mkB))) AH (ps.map mkB)).1.map (·.steps)) rls → Q (.tup [.bool (sweep1 [(size, 1), (4, 4)] (slotRegsP [0, 1, 2] (allSt (ps.map mkB))) AH (ps.map mkB)).2, .ref r]) G') : Cal X (n + 8) a_law_swept [.ref pt, .int size] G Q := by
  refine' Cal.start (os := ?os) T.d_law_swept ?q ?b; case q => walk_at "r"
  case b =>
  refine SnB.assignQ (Sn.newFunc T (by walk_at "r") (fun _ _ => rfl) (by walk_at "r") fun f bl fs G1 f1 b1 nfb x1 e1 g1 l1 => ⟨_, by walk_at "r", ?_⟩)
  refine SnB.setAQ (f := .params) T.cls (by walk_at "r") (Sn.listN (vs := [.int 0, .int 1, .int 2]) (by walk_at "r") fun pa G2 h2 x2 p2 => ⟨f, .func, _, by walk_at "r", x2 _ _ e1, fun G3 x3 e3 => ?_⟩)
  refine SnB.setAN (f := .registers) T.cls .registers (v := .int 16) (by walk_at "r") (by walk_at "r") e3 fun G4 x4 e4 => ?_
  refine SnB.setAN (f := .has_value) T.cls .has_value (v := .bool true) (by walk_at "r") (by walk_at "r") e4 fun G5 x5 e5 => ?_
  refine SnB.setAQ (f := .slots) T.cls (by walk_at "r") (Sn.listN (vs := [slotV (size, 1), slotV (4, 4)]) (.cons (.tup (by walk_at "r")) (.cons (.tup (by walk_at "r")) .nil)) fun sa G6 h6 x6 s6 => ⟨f, .func, _, by walk_at "r", x6 _ _ e5, fun G7 x7 e7 => ?_⟩)
  have y35 : Ext1 f G2 G5 := (x3.trans x4).trans x5
  have e2' := x2 _ _ e1
  have p5 := y35.kind e2' p2
  have l5 := y35.kind e2' (x2 _ _ l1)
  have e6' := x6 _ _ e5
  have p7 := x7.kind e6' (x6 _ _ p5)
  have l7 := x7.kind e6' (x6 _ _ l5)
  have s7 := x7.kind e6' s6
  have y7 : Ext G G7 := (((x1.trans x2).fresh f1 y35).trans x6).fresh f1 x7
  have npa := ne_new l1 h2
  have nsa := ne_new l5 h6
  have b7 := x1.none h2
  have hfew := ok.few
  rw [List.length_map] at hfew
  obtain ⟨ff, e7, fi⟩ : ∃ ff, G7 f = some (.inst .func ff) ∧ FuncIs ff pa sa bl := ⟨_, e7, rfl, rfl, g1⟩
  refine SnB.forEn T.blt (by walk_at "r") (fun _ _ => rfl) (a := pt) (by walk_at "r") (y7 _ _ hpt) (Ls2 G pt size f bl pa sa ff vs (ps.map mkB) 16) ⟨none, none, none, none, none, none, none, none, none, none, ps, [], [], rfl, y7, e7, p7, s7, l7, hv, fun _ _ => .nil, .nil, all_nil, all_nil, hE, rfl, rfl, by rw [List.length_nil]; omega⟩ (fun i v r m G8 hI => ?_) (fun i m G8 hI => ?_) fun i xs m G8 hI => by obtain ⟨_, _, _, _, _, _, _, _, _, _, _, _, _, _, x, _⟩ := hI; exact x _ _ hpt
  · obtain ⟨nm, rw_, en, bk, op, ds, ar, mo, fi', ea, ps', Bs, bs, e2, x, hf, hpa, hsa, hbl, hp, hS, nd, ex, fr, hE, hg, hi, hl⟩ := hI
    subst e2
    cases hp with | @cons p ps' _ _ hp1 hp =>
    obtain ⟨rl, ve, rfl, ⟨rvs, r1, r2⟩, ⟨el, rfl, el1, elo⟩⟩ := hp1
    rw [List.length_cons] at hl
    have hBm := ok.blks (mkB p) (by rw [← hg]; exact List.mem_append_right _ (.head _))
    refine ⟨_, .tup (.cons (Upd.bnd (os' := [some (.ref pt), some (.int size), some (.ref f), some (.int i), rw_, en, bk, op, ds, ar, mo, fi', ea, none, none, none, none, none, none, none, none]) (by walk_at "r")) (.cons (.tup (.two (os' := [some (.ref pt), some (.int size), some (.ref f), some (.int i), some (.ref rl), en, bk, op, ds, ar, mo, fi', ea, none, none, none, none, none, none, none, none]) (os'' := [some (.ref pt), some (.int size), some (.ref f), some (.int i), some (.ref rl), some (.tup [.str (opS p.2.op), .ref el, p.2.more]), bk, op, ds, ar, mo, fi', ea, none, none, none, none, none, none, none, none]) (by walk_at "r") (by walk_at "r"))) .nil)), ?_⟩
    refine SnB.assignQ (Sn.newBlock T (by walk_at "r") (fun _ _ => rfl) (by walk_at "r") fun b st fb G9 hb hst nbs x9 b9 fb1 fb2 st9 => ⟨_, by walk_at "r", ?_⟩)
    have hlen9 : p.1.length ≤ 900 := hBm.len
    refine SnB.forN (a := rl) (by walk_at "r") (x9 _ _ (x _ _ r1)) (Ls1 G8 pt size f b st bl fb (some (.int i)) (some (.ref rl)) (some (.tup [.str (opS p.2.op), .ref el, p.2.more])) p.1) ⟨op, ds, ar, mo, fi', ea, p.1, [], [], rfl, x9, b9, st9, r2.ext x, fun _ _ => .nil, rfl, by rw [List.length_nil]; omega⟩ (fun v xs m G10 hI => ?_) (fun m G10 hI => ?_) fun xs m G10 hI => by obtain ⟨_, _, _, _, _, _, _, _, _, _, h, _⟩ := hI; exact h _ _ (x _ _ r1)
    · obtain ⟨op, ds, ar, mo, fi', ea, qs', qs, as, e2, x10, hb10, hst10, hr, hS1, hg1, hl1⟩ := hI
      subst e2
      cases hr with | @cons q qs' _ _ hq hr =>
      obtain ⟨la, rfl, la1, qo⟩ := hq
      have la1 := x10 _ _ la1
      have hbl10 := x10 _ _ hbl
      rw [List.length_cons] at hl1
      refine ⟨_, .tup (.cons (Upd.bnd (os' := [some (.ref pt), some (.int size), some (.ref f), some (.int i), some (.ref rl), some (.tup [.str (opS p.2.op), .ref el, p.2.more]), some (.ref b), some (.str (opS q.op)), ds, ar, mo, fi', ea, none, none, none, none, none, none, none, none]) (by walk_at "r")) (.cons (Upd.bnd (os' := [some (.ref pt), some (.int size), some (.ref f), some (.int i), some (.ref rl), some (.tup [.str (opS p.2.op), .ref el, p.2.more]), some (.ref b), some (.str (opS q.op)), some (.int q.dst), ar, mo, fi', ea, none, none, none, none, none, none, none, none]) (by walk_at "r")) (.cons (Upd.bnd (os' := [some (.ref pt), some (.int size), some (.ref f), some (.int i), some (.ref rl), some (.tup [.str (opS p.2.op), .ref el, p.2.more]), some (.ref b), some (.str (opS q.op)), some (.int q.dst), some (.ref la), mo, fi', ea, none, none, none, none, none, none, none, none]) (by walk_at "r")) (.cons (Upd.bnd (os' := [some (.ref pt), some (.int size), some (.ref f), some (.int i), some (.ref rl), some (.tup [.str (opS p.2.op), .ref el, p.2.more]), some (.ref b), some (.str (opS q.op)), some (.int q.dst), some (.ref la), some q.more, fi', ea, none, none, none, none, none, none, none, none]) (by walk_at "r")) (.cons (Upd.bnd (os' := [some (.ref pt), some (.int size), some (.ref f), some (.int i), some (.ref rl), some (.tup [.str (opS p.2.op), .ref el, p.2.more]), some (.ref b), some (.str (opS q.op)), some (.int q.dst), some (.ref la), some q.more, some (.bool q.vol), ea, none, none, none, none, none, none, none, none]) (by walk_at "r")) .nil))))), ?_⟩
      have hqm : q ∈ (mkB p).steps := by show q ∈ p.1; rw [← hg1]; exact List.mem_append_right _ (.head _)
      have hqw := (hBm.wf q hqm).few
      refine SnB.assignQ (Sn.newStepN (s := q) T (by walk_at "r") (fun _ _ => rfl) (SnEs.cons (Rd.to (v := .str (opS q.op)) (by walk_at "r") (SnEs.cons (Rd.to (v := .int q.dst) (by walk_at "r") (SnEs.cons (Sn.ty (id := "list") T.blt (by decide) (by decide) (by walk_at "r") (fun _ _ => rfl) (Rds.to (vs := [.ref la]) (by walk_at "r") (Blt.listLN la1 (by rw [List.length_map]; omega) fun lb G11 hlb x11 l11 => SnEs.cons (Rd.to (v := q.more) (by walk_at "r") (SnEs.nil ⟨lb, rfl, fun a fa G12 ha x12 fa1 a12 => ⟨_, by walk_at "r", ?_⟩⟩)))))))))))
      refine SnB.setAN (f := .is_volatile) T.cls (by walk_at "r") (v := .bool q.vol) (by walk_at "r") (by walk_at "r") a12 fun G13 x13 a13 => ?_
      have y13 : Ext G10 G13 := (x11.trans x12).fresh (x11.none ha) x13
      have st13 := y13 _ _ hst10
      have b13 := y13 _ _ hb10
      have lb13 : G13 lb = _ := x13.kind a12 (x12 _ _ l11)
      have nlb := ne_new hst10 hlb
      have nlb2 := ne_new hbl10 hlb
      refine SnB.expr (Sn.meth .append (fun _ _ => rfl) (Rd.to (v := .ref st) (.attr T.cls .steps (by walk_at "r") b13 fb2) ⟨.list st13, Rds.to (vs := [.ref a]) (by walk_at "r") (Meth.appN st13 (by rw [List.length_map]; omega) fun G14 x14 st14 => ?_)⟩))
      have y14 : Ext G8 G14 := (x10.trans y13).fresh hst x14
      have abl : a ≠ bl := Ne.symm (ne_new (x11 _ _ hbl10) ha)
      refine .nil (.next ⟨_, _, _, _, _, _, qs', qs ++ [q], as ++ [a], rfl, y14, x14.kind st13 b13, by rw [st14, List.map_append]; rfl, hr, fun H xH => ?_, by rw [← hg1, List.append_assoc]; rfl, by rw [List.length_append, List.length_singleton]; omega⟩)
      have xx : ExtB [b, st, bl] G13 H := (x14.toB (.tail _ (.head _))).trans xH
      have ab := Ne.symm (ne_new (x11 _ _ hb10) ha)
      have lbb := Ne.symm (ne_new hb10 hlb)
      have nin : ∀ {z : Addr}, z ≠ b → z ≠ st → z ≠ bl → z ∉ [b, st, bl] := fun h0 h1 h2 => nm_cons h0 (nm_cons h1 (nm_cons h2 nm_nil))
      exact (hS1 H (y13.toB.trans xx)).snoc ⟨⟨_, lb, xx _ _ (nin ab (ne_kind st13 a13) abl) a13, ⟨fa1.op, fa1.dst, fa1.args, fa1.more, rfl, fa1.line⟩, xx _ _ (nin lbb (Ne.symm nlb) (Ne.symm nlb2)) lb13⟩, qo⟩
    · obtain ⟨op, ds, ar, mo, fi', ea, qs', qs, as, e2, x10, hb10, hst10, hr, hS1, hg1, hl1⟩ := hI
      subst e2
      cases hr
      have hg1 : qs = p.1 := by rw [← hg1]; exact (List.append_nil qs).symm
      subst hg1
      have el10 := x10 _ _ (x _ _ el1)
      have hef := (hE p (.head _)).2
      refine SnB.setAQ (f := .end_) T.cls (by walk_at "r") (Sn.newStepN (s := endS p.2) T (by walk_at "r") (fun _ _ => rfl) (SnEs.cons (Rd.to (v := .str (opS p.2.op)) (.idxT (vs := [.str (opS p.2.op), .ref el, p.2.more]) (by walk_at "r") .int (by decide) rfl) (SnEs.cons (Rd.to (v := .int (-1)) (by walk_at "r") (SnEs.cons (Sn.ty (id := "list") T.blt (by decide) (by decide) (by walk_at "r") (fun _ _ => rfl) (Rds.to (vs := [.ref el]) (.cons (.idxT (vs := [.str (opS p.2.op), .ref el, p.2.more]) (by walk_at "r") .int (by decide) rfl) .nil) (Blt.listLN el10 (by rw [List.length_map]; omega) fun lb G11 hlb x11 l11 => SnEs.cons (Rd.to (v := p.2.more) (.idxT (vs := [.str (opS p.2.op), .ref el, p.2.more]) (by walk_at "r") .int (by decide) rfl) (SnEs.nil ⟨lb, rfl, fun eo fa G12 heo x12 fa1 a12 => ⟨b, .block, fb, by walk_at "r", x12 _ _ (x11 _ _ hb10), fun G13 x13 b13 => ?_⟩⟩)))))))))))
      have y12 : Ext G10 G12 := x11.trans x12
      have y13 : Ext G8 G13 := (x10.trans y12).fresh hb x13
      have hfb := ne_new hf hb
      have hblb := ne_new hbl hb
      have f13 := y13 _ _ hf
      have bl13 := y13 _ _ hbl
      refine SnB.expr (Sn.meth .append (fun _ _ => rfl) (Rd.to (v := .ref bl) (.attr T.cls .blocks (by walk_at "r") f13 fi.blocks) ⟨.list bl13, Rds.to (vs := [.ref b]) (by walk_at "r") (Meth.appN bl13 (by rw [List.length_map]; omega) fun G14 x14 bl14 => ?_)⟩))
      have nstbl : st ≠ bl := Ne.symm (ne_new hbl hst)
      have neob : eo ≠ b := Ne.symm (ne_new (x11 _ _ hb10) heo)
      have nlbb : lb ≠ b := Ne.symm (ne_new hb10 hlb)
      have nlbbl : lb ≠ bl := Ne.symm (ne_new (x10 _ _ hbl) hlb)
      have neobl : eo ≠ bl := Ne.symm (ne_new (x11 _ _ (x10 _ _ hbl)) heo)
      have eo13 := x13 _ _ neob a12
      have lb13 := x13 _ _ nlbb (x12 _ _ l11)
      have st13 := x13.kind (y12 _ _ hb10) (y12 _ _ hst10)
      have bnin : b ∉ bs := fun z => ne_some (ex b z) hb rfl
      refine .nil (.next ⟨_, _, _, _, _, _, _, _, _, _, ps', Bs ++ [mkB p], bs ++ [b], rfl, (x.trans y13).fresh b1 x14, x14.kind bl13 f13, x14 _ _ (Ne.symm npa) (y13 _ _ hpa), x14 _ _ (Ne.symm nsa) (y13 _ _ hsa), by rw [bl14, List.map_append]; rfl, hp, fun H xH => ?_, nd_snoc nd bnin, fun z hz => ?_, fun z hz => (List.mem_append.mp hz).elim (fr z) fun q => by rw [List.mem_singleton.mp q]; exact x.none hb, all_tl hE, by rw [← hg, List.append_assoc]; rfl, by rw [List.length_append, List.length_singleton, ← hi], by rw [List.length_append, List.length_singleton]; omega⟩)
      · have x1H : ExtB [bl] G13 H := (x14.toB (.head _)).trans xH
        have nin : ∀ {z : Addr}, z ≠ bl → z ∉ [bl] := fun h => nm_cons h nm_nil
        have x3H : ExtB [b, st, bl] G10 H := fun z o hz e => x1H _ _ (nin (nm_hd (nm_tl (nm_tl hz)))) (x13 _ _ (nm_hd hz) (y12 _ _ e))
        exact BlksAt.snoc (hS1 H x3H) ⟨⟨_, lb, x1H _ _ (nin neobl) eo13, fa1, x1H _ _ (nin nlbbl) lb13⟩, elo⟩ (hE p (.head _)).1.at (hS H (y13.toB.trans x1H)) (by rw [Int.zero_add, hi]) ⟨_, st, x1H _ _ (nin (Ne.symm hblb)) b13, ⟨fb1, fb2, rfl⟩, x1H _ _ (nin nstbl) st13⟩
      · have hk : ∀ {w o}, G13 w = some o → (G14 w).isSome = true := fun {w o} e => by
          by_cases q : w = bl
          · rw [q, bl14]; rfl
          · rw [x14 _ _ q e]; rfl
        rcases List.mem_append.mp hz with hz | hz
        · obtain ⟨o, e⟩ := Option.isSome_iff_exists.mp (ex z hz)
          exact hk (y13 _ _ e)
        · rw [List.mem_singleton.mp hz]; exact hk b13
  · obtain ⟨nm, rw_, en, bk, op, ds, ar, mo, fi', ea, ps', Bs, bs, e2, x, hf, hpa, hsa, hbl, hp, hS, nd, ex, fr, hE, hg, hi, hl⟩ := hI
    subst e2
    cases hp
    have hg : Bs = ps.map mkB := by rw [← hg]; exact (List.append_nil Bs).symm
    subst hg
    have hB8 := hS G8 .refl
    have hF8 : FuncAt G8 f [0, 1, 2] [(size, 1), (4, 4)] bs := ⟨ff, pa, sa, bl, hf, fi, hpa, hsa, hbl⟩
    refine SnB.assignQ (Sn.ref T.f_sweep_func (by walk_at "r") (fun _ _ => rfl) (vs := [.ref f]) (by walk_at "r") (sp_sweep_func T hF8 hB8 nd ok ht (by decide) hw (by show 2 ≤ 16; decide) hpo hW hL hgo fun G9 x9 hB9 => ⟨_, by walk_at "r", ?_⟩))
    have hF9 := hF8.extB hB8 x9
    have xG9 : Ext G G9 := fun z o e => x9 _ _ (fun q => by rw [fr z q] at e; cases e) (x _ _ e)
    have ok9 := FnOK.sweep1 (sl := [(size, 1), (4, 4)]) (R := slotRegsP [0, 1, 2] (allSt (ps.map mkB))) (AH := AH) ok
    generalize sweep1 [(size, 1), (4, 4)] (slotRegsP [0, 1, 2] (allSt (ps.map mkB))) AH (ps.map mkB) = SW at *
    obtain ⟨Bs9, c9⟩ := SW
    obtain ⟨ff9, pa9, sa9, bl9, q1, ⟨q2, q3, q4⟩, q5, q6, q7⟩ := id hF9
    refine SnB.assignQ (Sn.listN .nil fun fo G10 h10 x10 f10 => ⟨_, by walk_at "r", ?_⟩)
    have q1' := x10 _ _ q1
    refine SnB.forN (a := bl9) (by walk_at "r") (x10 _ _ q7) (fun xs m G' => Ls3 sc_law_swept G9 pt size f c9 fo (Bs9.map (·.steps)) xs m G') ?_ (fun v xs m G11 hI => ?_) (fun m G11 hI => ?_) fun xs m G11 hI => ?_
    · exact ⟨_, _, _, _, _, _, _, _, _, _, 0, bs, Bs9, [], [], rfl, rfl, x10, f10, hB9, fun _ _ => .nil, rfl, fun B hB p hp => ((ok9.blks B hB).wf p hp).few, fun B hB => (ok9.blks B hB).len, by have := hB9.length; have := ok9.few; rw [List.length_nil]; omega⟩
    · obtain ⟨nm, rw_, en, bk, op, ds, ar, mo, fi', ea, i, bs', Bs, rls, qs, e1, e2, x11, hfo, hB, hS, hg, hw, hl, hn⟩ := hI
      obtain ⟨b, bs', rfl, rfl, rfl⟩ := cons_of_map e1
      subst e2
      cases hB with | @cons _ _ eo as _ B Bs a1 a2 a3 a4 a5 =>
      obtain ⟨fs, st, b1, ⟨b2, b3, b4⟩, b5⟩ := a1
      rw [List.length_cons] at hn
      have b1' := x11 _ _ b1
      have b5' := x11 _ _ b5
      have a2' := a2.ext x11
      have hl0 := hl B (.head _)
      have al := a2.length
      refine ⟨_, .name (Upd.put (os' := [some (.ref pt), some (.int size), some (.ref f), nm, rw_, en, some (.ref b), op, ds, ar, mo, fi', ea, some (.bool c9), some (.ref fo), none, none, none, none, none, none]) (by walk_at "r")), ?_⟩
      refine SnB.expr (Sn.meth .append (fun _ _ => rfl) (Rd.to (v := .ref fo) (by walk_at "r") ⟨.list hfo, SnEs.cons (Sn.comp (by decide +kernel) (.seq (Rd.to (v := .ref st) (by walk_at "r") ⟨_, _, .list b5', by rw [List.length_map]; unfold cap; omega, LiI G11 B.steps, .cap (sc' := sc_law_swept_c1) [none, none, none] ⟨?_, ?_⟩ (fun y w h => by cases h with | s h => cases h with | s h => cases h with | s h => cases h), ⟨as, B.steps, [], rfl, .refl, a2', fun _ _ => .nil, rfl, hw B (.head _)⟩⟩)))⟩))
      · intro v xs acc G12 hI
        obtain ⟨as, ps', qs', e1, x12, hs, hr, hg', hf'⟩ := hI
        obtain ⟨a, as, rfl, rfl, rfl⟩ := cons_of_map e1
        cases hs with | @cons _ p _ ps' s1 s2 =>
        obtain ⟨⟨fa, la, s3, ⟨f1, f2, f3, f4, f5, _⟩, s4⟩, so⟩ := s1.ext x12
        have hpl := hf' p (.head _)
        refine ⟨x12 _ _ b5', _, Upd.bnd (os := [none, none, none]) (os' := [none, some (.ref a), none]) (by walk_at "r"), .nil ⟨fun _ => ?_, fun q => nomatch q⟩⟩
        refine Sn.tup (SnEs.cons (Rd.to (v := .str (opS p.op)) (by walk_at "r") (SnEs.cons (Rd.to (v := .int p.dst) (by walk_at "r") (SnEs.cons (Sn.ty (id := "list") T.blt (by decide) (by decide) (by walk_at "r") (fun _ _ => rfl) (Rds.to (vs := [.ref la]) (by walk_at "r") (Blt.listLN s4 (by rw [List.length_map]; omega) fun lb G13 hlb x13 l13 => ?_))))))))
        have s3' := x13 _ _ s3
        refine SnEs.cons (Rd.to (v := p.more) (by walk_at "r") (SnEs.cons (Rd.to (v := .bool p.vol) (by walk_at "r") (SnEs.nil ⟨by show 5 < cap; decide, as, ps', qs' ++ [p], rfl, x12.trans x13, s2, fun H hH => ?_, by rw [← hg', List.append_assoc]; rfl, all_tl hf'⟩))))
        exact (hr H fun z o h0 e => hH z o h0 (x13 _ _ e)).append (.cons ⟨lb, rfl, hH lb _ (x12.none hlb) l13, so⟩ .nil)
      · intro acc G12 hI
        obtain ⟨as, ps', qs', e1, x12, hs, hr, hg', hf'⟩ := hI
        obtain rfl := nil_of_map e1
        cases hs
        have hg' : qs' = B.steps := by rw [← hg']; exact (List.append_nil qs').symm
        subst hg'
        refine ⟨x12 _ _ b5', NewL.nl fun rl G13 hrl x13 r13 => SnEs.nil ?_⟩
        have fo13 := x13 _ _ (x12 _ _ hfo)
        refine Meth.appN fo13 (by rw [List.length_map]; omega) fun G14 x14 f14 => ?_
        have nrl := Ne.symm (ne_new (x12 _ _ hfo) hrl)
        have x1113 := x12.trans x13
        have new : ∀ {z}, G11 z = none → G9 z = none ∧ z ≠ fo := fun h => ⟨x11.none h, Ne.symm (ne_new hfo h)⟩
        refine .nil (.next ⟨nm, rw_, en, _, op, ds, ar, mo, fi', ea, _, bs', Bs, rls ++ [rl], qs ++ [B.steps], rfl, rfl, (x11.trans x1113).fresh h10 x14, by rw [f14, List.map_append]; rfl, a5, fun H hH => ?_, by rw [← hg, List.append_assoc]; rfl, all_tl hw, all_tl hl, by rw [List.length_append, List.length_singleton]; omega⟩)
        have up : ∀ z o, G9 z = none → z ≠ fo → G13 z = some o → H z = some o := fun z o h0 h1 e => hH z o h0 h1 (x14 _ _ h1 e)
        refine (hS H fun z o h0 h1 e => up z o h0 h1 (x1113 _ _ e)).snoc ⟨acc, up rl _ (new (x12.none hrl)).1 nrl r13, hr H fun z o h0 e => up z o (new h0).1 (new h0).2 (x13 _ _ e)⟩
    · obtain ⟨nm, rw_, en, bk, op, ds, ar, mo, fi', ea, i, bs', Bs, rls, qs, e1, e2, x11, hfo, hB, hS, hg, hw, hl, hn⟩ := hI
      obtain rfl := nil_of_map e1
      subst e2
      cases hB
      have hg : qs = Bs9.map (·.steps) := by rw [← hg]; exact (List.append_nil qs).symm
      subst hg
      exact SnB.retB (Rd.to (v := .tup [.bool c9, .ref fo]) (by walk_at "r") (kk fo rls G11 (xG9.trans x11) hfo (hS G11 fun _ _ _ _ e => e)))
    · obtain ⟨_, _, _, _, _, _, _, _, _, _, _, _, _, _, _, _, _, x11, _⟩ := hI
      exact x11 _ _ q7
end
noncomputable section
variable {X : Cx} {n : Nat} {G : Gh} {sc : Scope} {os : List (Option Val)} {m : M}
noncomputable def atomD : Val → PyData
  | .bool b => .bool b
  | .int i => .int i
  | .str x => .str x
  | _ => .none
noncomputable def moreD : Val → PyData
  | .tup vs => .tuple (vs.map atomD)
  | v => atomD v
noncomputable def opdD (o : Opd) : PyData := .tuple [.str (rk o.1), .int o.2]
noncomputable def psD (p : PS) : PyData := .tuple [.str (opS p.op), .int p.dst, .list (p.args.map opdD), moreD p.more, .bool p.vol]
noncomputable def rowsD (ps : List PS) : PyData := .list (ps.map psD)
noncomputable def lsD (qs : List (List PS)) : PyData := .list (qs.map rowsD)
inductive Atom : Val → Prop where
  | none : Atom .none
  | bool (b : Bool) : Atom (.bool b)
  | int (i : Int) : Atom (.int i)
  | str (x : Str) : PyData.strOk x = true → Atom (.str x)
inductive MoreOK : Val → Prop where
  | atom {v : Val} : Atom v → MoreOK v
  | tup {vs : List Val} : (∀ v ∈ vs, Atom v) → MoreOK (.tup vs)
theorem Atom.rd {v : Val} {k : Nat} (h : Atom v) : RD G k v (atomD v) := by
  cases h with
  | none => exact .none
  | bool b => exact .bool b
  | int i => exact .int i
  | str x h => exact .str h
theorem MoreOK.rd {v : Val} {k : Nat} (h : MoreOK v) : RD G (k + 1) v (moreD v) := by
  cases h with
  | atom h =>
    have e : moreD v = atomD v := by cases h <;> rfl
    rw [e]; exact h.rd
  | @tup vs h =>
    have : RDs G k vs (vs.map atomD) := by
      have := RDs.map (G := G) (n := k) id atomD vs fun v hv => (h v hv).rd
      rw [List.map_id] at this
      exact this
    exact .tup' this
theorem ok_op : ∀ k < 36, PyData.strOk (opS k) = true := by decide +kernel
theorem rk_ok : ∀ b, PyData.strOk (rk b) = true := by decide +kernel
theorem opd_rd (o : Opd) (k : Nat) : RD G (k + 1) (opdV o) (opdD o) := .tup' (.cons (.str (rk_ok _)) (.cons (.int _) .nil))
theorem RowV.rd {p : PS} {v : Val} {k : Nat} (h : RowV G p v) (hm : MoreOK p.more) : RD G (k + 3) v (psD p) := by
  obtain ⟨la, rfl, h, ho⟩ := h
  exact .tup' (.cons (.str (ok_op _ ho)) (.cons (.int _) (.cons (.list' h (.map _ _ _ fun o _ => opd_rd o k)) (.cons hm.rd (.cons (.bool _) .nil)))))
theorem RowsV.rd {ps : List PS} {vs : List Val} {k : Nat} (h : RowsV G ps vs) : (∀ p ∈ ps, MoreOK p.more) → RDs G (k + 3) vs (ps.map psD) := by
  induction h with
  | nil => exact fun _ => .nil
  | cons a _ ih => exact fun hm => .cons (a.rd (hm _ (.head _))) (ih (all_tl hm))
theorem RowL.rd {ps : List PS} {a : Addr} {k : Nat} (h : RowL G ps a) (hm : ∀ p ∈ ps, MoreOK p.more) : RD G (k + 4) (.ref a) (rowsD ps) := by
  obtain ⟨vs, e, h⟩ := h
  exact .list' e (h.rd hm)
theorem RLs.rd {qs : List (List PS)} {as : List Addr} {k : Nat} (h : RLs G qs as) : (∀ ps ∈ qs, ∀ p ∈ ps, MoreOK p.more) → RDs G (k + 4) (as.map .ref) (qs.map rowsD) := by
  induction h with
  | nil => exact fun _ => .nil
  | cons a _ ih => exact fun hm => .cons (a.rd (hm _ (.head _))) (ih (all_tl hm))
noncomputable def eqL {α : Type} (f : α → α → Bool) : List α → List α → Bool
  | [], [] => true
  | a :: l, b :: r => f a b && eqL f l r
  | _, _ => false
theorem eqL_map {α : Type} {P : α → Prop} {f : α → α → Bool} {g : α → PyData} (h : ∀ a b, P a → P b → (g a).eqv (g b) = f a b) : ∀ l r : List α, (∀ a ∈ l, P a) → (∀ a ∈ r, P a) → PyData.eqvAll (l.map g) (r.map g) = eqL f l r
  | [], [], _, _ => rfl
  | [], b :: r, _, _ => rfl
  | a :: l, [], _, _ => rfl
  | a :: l, b :: r, hl, hr => by
    show (PyData.eqv (g a) (g b) && PyData.eqvAll (l.map g) (r.map g)) = (f a b && eqL f l r)
    rw [h a b (hl _ (.head _)) (hr _ (.head _)), eqL_map h l r (all_tl hl) (all_tl hr)]
noncomputable def eqOpd (a b : Opd) : Bool := (a.1 == b.1) && (a.2 == b.2)
noncomputable def eqP (p q : PS) : Bool := Nat.beq p.op q.op && ((p.dst == q.dst) && (eqL eqOpd p.args q.args && ((moreD p.more).eqv (moreD q.more) && (p.vol == q.vol))))
theorem op_inj : ∀ a < 36, ∀ b < 36, (opS a == opS b) = Nat.beq a b := by decide +kernel
theorem rk_inj : ∀ a b, (rk a == rk b) = (a == b) := by decide +kernel
theorem eqOpd_ok (a b : Opd) : (opdD a).eqv (opdD b) = eqOpd a b := by
  show ((rk a.1 == rk b.1) && ((a.2 == b.2) && true)) = _
  rw [rk_inj, Bool.and_true]; rfl
theorem eqP_ok (p q : PS) (hp : p.op < 36) (hq : q.op < 36) : (psD p).eqv (psD q) = eqP p q := by
  show ((opS p.op == opS q.op) && ((p.dst == q.dst) && (PyData.eqvAll (p.args.map opdD) (q.args.map opdD) && ((moreD p.more).eqv (moreD q.more) && ((p.vol == q.vol) && true))))) = _
  rw [op_inj _ hp _ hq, eqL_map (P := fun _ => True) (f := eqOpd) (fun a b _ _ => eqOpd_ok a b) _ _ (fun _ _ => trivial) (fun _ _ => trivial), Bool.and_true]; rfl
noncomputable def eqLs (a b : List (List PS)) : Bool := eqL (eqL eqP) a b
noncomputable def OpsOK (qs : List (List PS)) : Prop := ∀ ps ∈ qs, ∀ p ∈ ps, p.op < 36
theorem eqLs_ok (a b : List (List PS)) (ha : OpsOK a) (hb : OpsOK b) : (lsD a).eqv (lsD b) = eqLs a b :=
  eqL_map (P := fun ps : List PS => ∀ p ∈ ps, p.op < 36) (f := eqL eqP) (g := rowsD) (fun l r hl hr => eqL_map (P := fun p : PS => p.op < 36) eqP_ok l r hl hr) a b ha hb
theorem RowsV.ops {ps : List PS} {vs : List Val} (h : RowsV G ps vs) : ∀ p ∈ ps, p.op < 36 := by
  induction h with
  | nil => exact all_nil
  | cons a _ ih => obtain ⟨_, _, _, ho⟩ := a; exact all_cons ho ih
theorem RLs.ops {qs : List (List PS)} {as : List Addr} (h : RLs G qs as) : OpsOK qs := by
  induction h with
  | nil => exact all_nil
  | cons a _ ih => obtain ⟨_, _, h⟩ := a; exact all_cons h.ops ih
noncomputable def MoresOK (qs : List (List PS)) : Prop := ∀ ps ∈ qs, ∀ p ∈ ps, MoreOK p.more
theorem RLs.lsRd {qs : List (List PS)} {as : List Addr} {a : Addr} {k : Nat} (h : RLs G qs as) (e : G a = some (.list (as.map .ref))) (hm : MoresOK qs) : RD G (k + 5) (.ref a) (lsD qs) := .list' e (h.rd hm)
theorem Op2.eqRows {qs rs : List (List PS)} {as bs : List Addr} {a b : Addr} (h1 : RLs G qs as) (e1 : G a = some (.list (as.map .ref))) (m1 : MoresOK qs) (h2 : RLs G rs bs) (e2 : G b = some (.list (bs.map .ref))) (m2 : MoresOK rs) : O2 X n (compareOp .Eq) (.ref a) (.ref b) G (.bool (eqLs qs rs)) :=
  Op2.eq (h1.lsRd (k := 7) e1 m1) (h2.lsRd (k := 7) e2 m2) ⟨by rw [eqLs_ok _ _ h1.ops h2.ops], rfl⟩
theorem Op2.neRows {qs rs : List (List PS)} {as bs : List Addr} {a b : Addr} (h1 : RLs G qs as) (e1 : G a = some (.list (as.map .ref))) (m1 : MoresOK qs) (h2 : RLs G rs bs) (e2 : G b = some (.list (bs.map .ref))) (m2 : MoresOK rs) : O2 X n (compareOp .NotEq) (.ref a) (.ref b) G (.bool (!eqLs qs rs)) :=
  Op2.ne (h1.lsRd (k := 7) e1 m1) (h2.lsRd (k := 7) e2 m2) ⟨by rw [eqLs_ok _ _ h1.ops h2.ops], rfl⟩
inductive Right (size : Int) (ps : Parts) (due : List (List PS)) : Prop where
  | mk (W0 : List Int) (AH : List (Int × Nat)) (hE : ∀ p ∈ ps, EndOKp p.2 ∧ p.2.args.length ≤ 8) (ok : FnOK (ps.map mkB)) (ht : (allSt (ps.map mkB)).length ≤ 900) (hw : ∀ p ∈ allSt (ps.map mkB), SlotWf [(size, 1), (4, 4)] p)
    (hpo : postP (ps.map mkB) = some W0) (hW : PoOK (ps.map mkB) W0) (hL : ∀ l ∈ predsP (ps.map mkB), l.length ≤ 16) (hgo : naGo [(size, 1), (4, 4)] (slotRegsP [0, 1, 2] (allSt (ps.map mkB))).1 (ps.map mkB) (predsP (ps.map mkB)) 100 W0 0 (AH0 W0) (IW0 W0) = some AH)
    (hf : eqLs ((sweep1 [(size, 1), (4, 4)] (slotRegsP [0, 1, 2] (allSt (ps.map mkB))) AH (ps.map mkB)).1.map (·.steps)) due = true) (hc : (sweep1 [(size, 1), (4, 4)] (slotRegsP [0, 1, 2] (allSt (ps.map mkB))) AH (ps.map mkB)).2 = !eqLs due (ps.map (·.1)))
    (hm : MoresOK (ps.map (·.1))) (hd : MoresOK due)
inductive RiI (G0 : Gh) (goal : List (List PS)) (xs acc : List Val) (G : Gh) : Prop where
  | mk (ps : Parts) (qs : List (List PS)) (as : List Addr) (e : acc = as.map .ref) (x : G = G0) (hv : PartsV G0 ps xs) (hr : RLs G0 qs as) (hg : qs ++ ps.map (·.1) = goal)
theorem PartsV.length {ps : Parts} {vs : List Val} (h : PartsV G ps vs) : vs.length = ps.length := by
  induction h with
  | nil => rfl
  | cons _ _ ih => exact congrArg (· + 1) ih
theorem sweep1_more {sl : Slots} {R : AddrM × Nat} {AH : List (Int × Nat)} {Bs : List PB} (h : ∀ B ∈ Bs, ∀ p ∈ B.steps, MoreOK p.more) : ∀ B ∈ (sweep1 sl R AH Bs).1, ∀ p ∈ B.steps, MoreOK p.more := by
  have h1 : ∀ B : PB, (∀ p ∈ B.steps, MoreOK p.more) → ∀ p ∈ (swB sl R.1 AH B).steps, MoreOK p.more := fun B h => by
    unfold swB
    split
    · have := (sweptP_all (sl := sl) (am := R.1) (P := fun p => MoreOK p.more) (fun p w _ => w) (ends := B.fin.args) (k := behindP AH B.ways) h).2
      intro p hp
      obtain ⟨q, hq, rfl⟩ := List.mem_map.mp hp
      exact this q hq
    · exact h
  have h2 : ∀ (t : Nat) (B : PB), (∀ p ∈ B.steps, MoreOK p.more) → ∀ p ∈ (swS R.1 t B).steps, MoreOK p.more := fun t B h => by
    unfold swS
    split
    · exact fun p hp => h p (List.mem_filter.mp hp).1
    · exact h
  unfold sweep1 sweep2
  split
  · exact swFrom_mem (P := fun B => ∀ p ∈ B.steps, MoreOK p.more) h1 h
  · exact swFrom_mem (P := fun B => ∀ p ∈ B.steps, MoreOK p.more) (h2 _) (swFrom_mem (P := fun B => ∀ p ∈ B.steps, MoreOK p.more) h1 h)
theorem sp_law_is_right {pt dl : Addr} {size : Int} {vs : List Val} {dls : List Addr} {ps : Parts} {due : List (List PS)} {Q : QE} (T : Tops X) (hpt : G pt = some (.list vs)) (hv : PartsV G ps vs) (hdl : G dl = some (.list (dls.map .ref))) (hdv : RLs G due dls) (R : Right size ps due)
    (kk : ∀ G', Ext G G' → Q (.bool true) G') : Cal X (n + 9) a_law_is_right [.ref pt, .int size, .ref dl] G Q := by
  obtain ⟨W0, AH, hE, ok, ht, hw, hpo, hW, hL, hgo, hf, hc, hm, hd⟩ := R
  refine' Cal.start (os := ?os) T.d_law_is_right ?q ?b; case q => walk_at "r"
  case b =>
  refine SnB.assign2Q (Sn.ref T.f_law_swept (by walk_at "r") (fun _ _ => rfl) (vs := [.ref pt, .int size]) (by walk_at "r") (sp_law_swept T hpt hv hE ok ht hw hpo hW hL hgo fun r rls G1 x1 r1 r2 => ⟨_, .ref r, _, _, rfl, by walk_at "r", by walk_at "r", ?_⟩))
  have hm' := sweep1_more (sl := [(size, 1), (4, 4)]) (R := slotRegsP [0, 1, 2] (allSt (ps.map mkB))) (AH := AH) (Bs := ps.map mkB) fun B hB p hp => by
    obtain ⟨q, hq, rfl⟩ := List.mem_map.mp hB
    exact hm q.1 (List.mem_map_of_mem hq) p hp
  generalize sweep1 [(size, 1), (4, 4)] (slotRegsP [0, 1, 2] (allSt (ps.map mkB))) AH (ps.map mkB) = SW at *
  have hms : MoresOK (SW.1.map (·.steps)) := fun qs hq => by
    obtain ⟨B, hB, rfl⟩ := List.mem_map.mp hq
    exact hm' B hB
  have hd1 := x1 _ _ hdl
  refine SnB.retB (Sn.and (Rd.to (Rd.cmp (v := .ref r) (w := .ref dl) (by walk_at "r") (by walk_at "r") (.eqRows r2 r1 hms (hdv.map fun _ _ h => h.ext x1) hd1 hd)) ⟨true, by rw [hf]; exact .bool _, fun _ => Sn.and1 ?_, fun q => nomatch q⟩))
  refine Sn.cmp (Rd.to (v := .bool SW.2) (by walk_at "r") (Sn.cmp (Rd.to (v := .ref dl) (by walk_at "r") (Sn.comp (by decide +kernel) (.seq (Rd.to (v := .ref pt) (by walk_at "r") ⟨_, _, .list (x1 _ _ hpt), ?_, RiI G1 (ps.map (·.1)), .cap (sc' := sc_law_is_right_c1) [none, none, none] ⟨?_, ?_⟩ (fun y w h => by cases h with | s h => cases h with | s h => cases h with | s h => cases h), ⟨ps, [], [], rfl, rfl, ?_, .nil, rfl⟩⟩))))))
  · rw [hv.length]; have := ok.few; rw [List.length_map] at this; unfold cap; omega
  · intro v xs acc G2 hI
    obtain ⟨ps', qs, as, rfl, rfl, hv', hr, hg⟩ := hI
    cases hv' with | @cons p ps' _ _ h1 h2 =>
    obtain ⟨rl, ve, rfl, e1, _⟩ := h1
    refine ⟨x1 _ _ hpt, _, .tup (.two (os := [none, none, none]) (os' := [none, some (.ref rl), none]) (os'' := [none, some (.ref rl), some ve]) (by walk_at "r") (by walk_at "r")), .nil ⟨fun _ => Rd.to (v := .ref rl) (by walk_at "r") ⟨ps', qs ++ [p.1], as ++ [rl], by rw [List.map_append]; rfl, rfl, h2, hr.snoc e1, by rw [← hg, List.append_assoc]; rfl⟩, fun q => nomatch q⟩⟩
  · intro acc G2 hI
    obtain ⟨ps', qs, as, rfl, rfl, hv', hr, hg⟩ := hI
    cases hv'
    have hg : qs = ps.map (·.1) := by rw [← hg]; exact (List.append_nil qs).symm
    subst hg
    refine ⟨x1 _ _ hpt, NewL.nl fun rr G3 hrr x3 e3 => ?_⟩
    refine O2.to (.neRows (hdv.map fun _ _ h => h.ext (x1.trans x3)) (x3 _ _ hd1) hd (hr.map fun _ _ h => h.ext x3) e3 hm) (Op2.eq (.bool _) (.bool _) ?_)
    have : PyData.eqv (.bool SW.2) (.bool (!eqLs due (ps.map (·.1)))) = true := by rw [hc]; exact beq_self_eq_true _
    rw [this]
    exact kk G3 (x1.trans x3)
  · exact hv.ext x1
end
noncomputable section
noncomputable def isI : Val → Bool | .int _ => true | _ => false
noncomputable def isTI : Val → Bool | .tup [.int _, _] => true | _ => false
noncomputable def isAtom : Val → Bool | .none => true | .bool _ => true | .int _ => true | .str x => PyData.strOk x | _ => false
noncomputable def isMore : Val → Bool | .tup vs => vs.all isAtom | v => isAtom v
noncomputable def chkReg (o : Opd) : Bool := !o.1 || (decide (0 ≤ o.2) && decide (o.2 < 32))
noncomputable def chkWf (p : PS) : Bool := (!isDiv p.op || Nat.ble 2 p.args.length) && ((!Nat.beq p.op 0 || (Nat.ble 1 p.args.length && isTI p.more)) && ((!Nat.beq p.op 10 || Nat.ble 1 p.args.length) && ((!Nat.beq p.op 1 || (Nat.ble 1 p.args.length && isI p.more)) && (Nat.ble p.args.length 8 && p.args.all chkReg))))
noncomputable def chkSlot (sl : Nat) (p : PS) : Bool := !Nat.beq p.op 9 || (match p.more with | .int i => decide (0 ≤ i) && Nat.blt i.toNat sl | _ => false)
noncomputable def chkStep (p : PS) : Bool := chkWf p && (chkSlot 2 p && isMore p.more)
noncomputable def chkGoal (N : Nat) (j : Int) : Bool := decide (0 ≤ j) && Nat.blt j.toNat N
noncomputable def chkEnd (e : PS) : Bool := Nat.ble e.args.length 8 && (e.args.all chkReg && ((Nat.beq e.op 32 && isI e.more) || ((Nat.beq e.op 33 && (match e.more with | .tup [.int _, .int _] => true | _ => false)) || Nat.beq e.op 35)))
noncomputable def chkPart (N : Nat) (p : List PS × PS) : Bool := Nat.ble p.1.length 50 && (p.1.all chkStep && (chkEnd p.2 && (waysP p.2).all (chkGoal N)))
noncomputable def hasI (W : List Int) (j : Int) : Bool := W.any (· == j)
noncomputable def chkPo (Bs : List PB) (W : List Int) : Bool := Nat.ble W.length 16 && W.all fun i => decide (0 ≤ i) && match Bs[i.toNat]? with | some B => B.ways.all (hasI W) | none => false
noncomputable def chkRun (size : Int) (Bs : List PB) (orig due : List (List PS)) : Bool := match postP Bs with
  | none => false
  | some W0 => chkPo Bs W0 && (let L := predsP Bs
    L.all (fun l => Nat.ble l.length 16) && (let R := slotRegsP [0, 1, 2] (allSt Bs)
    match naGo [(size, 1), (4, 4)] R.1 Bs L 100 W0 0 (AH0 W0) (IW0 W0) with
    | none => false
    | some AH => let S := sweep1 [(size, 1), (4, 4)] R AH Bs
      eqLs (S.1.map (·.steps)) due && (S.2 == !eqLs due orig)))
noncomputable def chkR (size : Int) (ps : Parts) (due : List (List PS)) : Bool :=
  Nat.ble 1 ps.length && (Nat.ble ps.length 3 && (ps.all (chkPart ps.length) && (due.all (fun r => r.all fun p => isMore p.more) && chkRun size (ps.map mkB) (ps.map (·.1)) due)))
noncomputable abbrev r' (i : Int) : Opd := (true, i)
noncomputable abbrev k' (i : Int) : Opd := (false, i)
noncomputable def tst : Parts := [([⟨9, 3, [], .int 0, false⟩, ⟨9, 4, [], .int 0, false⟩, ⟨10, 5, [r' 3], .int 0, false⟩, ⟨13, 9, [r' 1, k' 3], .int 0, false⟩, ⟨13, 10, [r' 9, k' 1], .int 0, false⟩, ⟨18, 11, [r' 10, r' 9], .int 0, false⟩, ⟨10, 11, [r' 11], .int 0, false⟩, ⟨3, -1, [r' 3, r' 4, r' 5], .str "see", false⟩], ⟨32, -1, [], .int 1, false⟩),
  ([⟨9, 4, [], .int 1, false⟩, ⟨3, -1, [r' 3, r' 4, r' 5], .str "see", false⟩], ⟨35, -1, [r' 1], .int 0, false⟩)]
noncomputable def dueT : List (List PS) := [[⟨9, 3, [], .int 0, false⟩, ⟨9, 4, [], .int 0, false⟩, ⟨10, 5, [r' 3], .int 0, false⟩, ⟨3, -1, [r' 3, r' 4, r' 5], .str "see", false⟩], [⟨9, 4, [], .int 1, false⟩, ⟨3, -1, [r' 3, r' 4, r' 5], .str "see", false⟩]]
end
noncomputable section
variable {X : Cx} {n : Nat} {G : Gh} {sc : Scope} {os : List (Option Val)} {m : M}
noncomputable def RowE (X : Cx) (n : Nat) (sc : Scope) (e : PySem.Expr) (m : M) (G0 : Gh) (p : PS) : Prop := ∀ (G : Gh) (Q : QE), Ext G0 G → (∀ v G', Ext G G' → RowV G' p v → Q v G') → Sn X n sc e m G Q
noncomputable def RowsE (X : Cx) (n : Nat) (sc : Scope) (es : List PySem.Expr) (m : M) (G0 : Gh) (ps : List PS) : Prop := ∀ (G : Gh) (Q : List Val → Gh → Prop), Ext G0 G → (∀ vs G', Ext G G' → RowsV G' ps vs → Q vs G') → SnEs X n sc es m G Q
noncomputable def RowLE (X : Cx) (n : Nat) (sc : Scope) (e : PySem.Expr) (m : M) (G0 : Gh) (ps : List PS) : Prop := ∀ (G : Gh) (Q : QE), Ext G0 G → (∀ a G', Ext G G' → RowL G' ps a → Q (.ref a) G') → Sn X n sc e m G Q
noncomputable def EndE (X : Cx) (n : Nat) (sc : Scope) (e : PySem.Expr) (m : M) (G0 : Gh) (p : PS) : Prop := ∀ (G : Gh) (Q : QE), Ext G0 G → (∀ v G', Ext G G' → EndV G' p v → Q v G') → Sn X n sc e m G Q
noncomputable def PartE (X : Cx) (n : Nat) (sc : Scope) (e : PySem.Expr) (m : M) (G0 : Gh) (p : List PS × PS) : Prop := ∀ (G : Gh) (Q : QE), Ext G0 G → (∀ v G', Ext G G' → PartV G' p v → Q v G') → Sn X n sc e m G Q
noncomputable def PartsE (X : Cx) (n : Nat) (sc : Scope) (es : List PySem.Expr) (m : M) (G0 : Gh) (ps : Parts) : Prop := ∀ (G : Gh) (Q : List Val → Gh → Prop), Ext G0 G → (∀ vs G', Ext G G' → PartsV G' ps vs → Q vs G') → SnEs X n sc es m G Q
noncomputable def LsE (X : Cx) (n : Nat) (sc : Scope) (es : List PySem.Expr) (m : M) (G0 : Gh) (qs : List (List PS)) : Prop := ∀ (G : Gh) (Q : List Val → Gh → Prop), Ext G0 G → (∀ as G', Ext G G' → RLs G' qs as → Q (as.map .ref) G') → SnEs X n sc es m G Q
noncomputable def NS (e : PySem.Expr) : Prop := ∀ es env, starEach (e :: es) env = (false, eval e env) :: starEach es env
section
variable {G0 : Gh} {p : PS} {ps qs : List PS} {e : PySem.Expr} {es : List PySem.Expr}
theorem RowE.row {e1 e2 e4 e5 : PySem.Expr} {k : Nat} {lp pos : Pos} {s : Str} {vs : List Val} (h1 : ∀ G, Rd X n sc e1 m G (.str s)) (h2 : ∀ G, Rd X n sc e2 m G (.int p.dst)) (h3 : ∀ G, Rds X n sc es m G vs) (h4 : ∀ G, Rd X n sc e4 m G p.more) (h5 : ∀ G, Rd X n sc e5 m G (.bool p.vol))
    (q1 : s = opS p.op) (q3 : vs = p.args.map opdV) (hl : Nat.ble vs.length 1000 = true) (ho : Nat.blt p.op 36 = true := by rfl) (n1 : NS e1 := by intro _ _; rfl) (n2 : NS e2 := by intro _ _; rfl) (n4 : NS e4 := by intro _ _; rfl) (n5 : NS e5 := by intro _ _; rfl) : RowE X n sc (.Tuple [e1, e2, .List es lp, e4, e5] k pos) m G0 p := fun G Q x0 kk =>
  Sn.tup (SnEs.cons ((h1 G).to (SnEs.cons ((h2 G).to (SnEs.cons (Sn.listN (h3 G) (fun la G' hla x l1 => SnEs.cons ((h4 G').to (SnEs.cons ((h5 G').to (SnEs.nil ⟨by show 5 < cap; decide, kk _ _ x ⟨la, by rw [q1], by rw [l1, q3], Nat.le_of_ble_eq_true ho⟩⟩)) (n5 _))) (n4 _)) hl) (fun _ => rfl))) (n2 _))) (n1 _))
theorem RowE.var {x : Str} {v : Val} {pos : Pos} (h : Loc sc.names os x v) (r : RowV G0 p v) : RowE X n sc (.Name x pos) (L sc os) G0 p := fun G Q x0 kk => (Rd.var h).to (kk _ _ .refl (r.ext x0))
theorem RowsE.nil : RowsE X n sc [] m G0 [] := fun G Q _ kk => SnEs.nil (kk _ _ .refl .nil)
theorem RowsE.cons (h : RowE X n sc e m G0 p) (k : RowsE X n sc es m G0 ps) (hn : NS e := by intro _ _; rfl) : RowsE X n sc (e :: es) m G0 (p :: ps) := fun G Q x0 kk =>
  SnEs.cons (h G _ x0 fun v G1 x1 r1 => k G1 _ (x0.trans x1) fun vs G2 x2 r2 => kk _ _ (x1.trans x2) (.cons (r1.ext x2) r2)) (hn _)
theorem RowLE.list {pos : Pos} (h : RowsE X n sc es m G0 ps) (hl : Nat.ble ps.length 1000 = true := by rfl) : RowLE X n sc (.List es pos) m G0 ps := fun G Q x0 kk =>
  Sn.listE (h G _ x0 fun vs G1 x1 r1 => ⟨by rw [r1.length]; exact hl, fun a G2 ha x2 e2 => kk a G2 (x1.trans x2) ⟨vs, e2, r1.ext x2⟩⟩)
theorem RowLE.var {x : Str} {a : Addr} {pos : Pos} (h : Loc sc.names os x (.ref a)) (r : RowL G0 ps a) : RowLE X n sc (.Name x pos) (L sc os) G0 ps := fun G Q x0 kk => (Rd.var h).to (kk _ _ .refl (r.ext x0))
theorem RowLE.add {l r : PySem.Expr} {pos : Pos} (h1 : RowLE X n sc l m G0 ps) (h2 : RowLE X n sc r m G0 qs) (hl : ps.length + qs.length ≤ 1000) : RowLE X n sc (.BinOp l .Add r pos) m G0 (ps ++ qs) := fun G Q x0 kk =>
  Sn.bin (h1 G _ x0 fun a G1 x1 ⟨vs, e1, r1⟩ => h2 G1 _ (x0.trans x1) fun b G2 x2 ⟨ws, e2, r2⟩ => Op2.addL (x2 _ _ e1) e2 (by rw [r1.length, r2.length]; unfold cap; omega) (NewL.nl fun c G3 hc x3 e3 => kk c G3 ((x1.trans x2).trans x3) ⟨_, e3, (r1.ext (x2.trans x3)).append (r2.ext x3)⟩))
theorem EndE.end_ {e1 e3 : PySem.Expr} {k : Nat} {lp pos : Pos} {s : Str} {vs : List Val} (h1 : ∀ G, Rd X n sc e1 m G (.str s)) (h2 : ∀ G, Rds X n sc es m G vs) (h3 : ∀ G, Rd X n sc e3 m G p.more)
    (q1 : s = opS p.op) (q3 : vs = p.args.map opdV) (hl : Nat.ble vs.length 1000 = true) (ho : Nat.blt p.op 36 = true := by rfl) (n1 : NS e1 := by intro _ _; rfl) (n3 : NS e3 := by intro _ _; rfl) : EndE X n sc (.Tuple [e1, .List es lp, e3] k pos) m G0 p := fun G Q x0 kk =>
  Sn.tup (SnEs.cons ((h1 G).to (SnEs.cons (Sn.listN (h2 G) (fun la G' hla x l1 => SnEs.cons ((h3 G').to (SnEs.nil ⟨by show 3 < cap; decide, kk _ _ x ⟨la, by rw [q1], by rw [l1, q3], Nat.le_of_ble_eq_true ho⟩⟩)) (n3 _)) hl) (fun _ => rfl))) (n1 _))
theorem EndE.var {x : Str} {v : Val} {pos : Pos} (h : Loc sc.names os x v) (r : EndV G0 p v) : EndE X n sc (.Name x pos) (L sc os) G0 p := fun G Q x0 kk => (Rd.var h).to (kk _ _ .refl (r.ext x0))
theorem PartE.mk {e2 : PySem.Expr} {k : Nat} {pos : Pos} (h1 : RowLE X n sc e m G0 ps) (h2 : EndE X n sc e2 m G0 p) (n1 : NS e := by intro _ _; rfl) (n2 : NS e2 := by intro _ _; rfl) : PartE X n sc (.Tuple [e, e2] k pos) m G0 (ps, p) := fun G Q x0 kk =>
  Sn.tup (SnEs.cons (h1 G _ x0 fun a G1 x1 r1 => SnEs.cons (h2 G1 _ (x0.trans x1) fun v G2 x2 r2 => SnEs.nil ⟨by show 2 < cap; decide, kk _ _ (x1.trans x2) ⟨a, v, rfl, r1.ext x2, r2⟩⟩) (n2 _)) (n1 _))
theorem PartsE.nil : PartsE X n sc [] m G0 [] := fun G Q _ kk => SnEs.nil (kk _ _ .refl .nil)
theorem PartsE.cons {p : List PS × PS} {ps : Parts} (h : PartE X n sc e m G0 p) (k : PartsE X n sc es m G0 ps) (hn : NS e := by intro _ _; rfl) : PartsE X n sc (e :: es) m G0 (p :: ps) := fun G Q x0 kk =>
  SnEs.cons (h G _ x0 fun v G1 x1 r1 => k G1 _ (x0.trans x1) fun vs G2 x2 r2 => kk _ _ (x1.trans x2) (.cons (r1.ext x2) r2)) (hn _)
theorem LsE.nil : LsE X n sc [] m G0 [] := fun G Q _ kk => SnEs.nil (kk [] _ .refl .nil)
theorem LsE.cons {qs : List (List PS)} (h : RowLE X n sc e m G0 ps) (k : LsE X n sc es m G0 qs) (hn : NS e := by intro _ _; rfl) : LsE X n sc (e :: es) m G0 (ps :: qs) := fun G Q x0 kk =>
  SnEs.cons (h G _ x0 fun a G1 x1 r1 => k G1 _ (x0.trans x1) fun as G2 x2 r2 => kk (a :: as) _ (x1.trans x2) (.cons (r1.ext x2) r2)) (hn _)
theorem SnB.rowL {Q : QS} {x : Str} {p1 pos : Pos} {sts : List PySem.Stmt} (ps : List PS) (h : RowLE X n sc e (L sc os) G ps) (k : ∀ a G', Ext G G' → RowL G' ps a → ∃ os', Upd false sc.names os x (.ref a) os' ∧ SnB X n sc sts (L sc os') G' Q) (hsw : ∀ env, swapsWith e (some (.Name x p1)) pos.line env = pure false := by intro _; rfl) : SnB X n sc (.Assign [.Name x p1] e pos :: sts) (L sc os) G Q :=
  SnB.assignQ (h G _ .refl k) hsw
theorem SnB.rowV {Q : QS} {x : Str} {p1 pos : Pos} {sts : List PySem.Stmt} (p : PS) (h : RowE X n sc e (L sc os) G p) (k : ∀ v G', Ext G G' → RowV G' p v → ∃ os', Upd false sc.names os x v os' ∧ SnB X n sc sts (L sc os') G' Q) (hsw : ∀ env, swapsWith e (some (.Name x p1)) pos.line env = pure false := by intro _; rfl) : SnB X n sc (.Assign [.Name x p1] e pos :: sts) (L sc os) G Q :=
  SnB.assignQ (h G _ .refl k) hsw
end
end
noncomputable section
end
local macro_rules | `(tactic| walk_at "d") => `(tactic|
  ((first | apply RowsE.nil | apply LsE.nil | apply PartsE.nil | apply RowsE.cons | apply LsE.cons | apply PartsE.cons | apply PartE.mk | apply RowE.row | apply EndE.end_ | apply RowLE.list | apply RowE.var | apply RowLE.var | apply EndE.var | apply RowLE.add) <;> first | rfl | (intro _; walk_at "r") | (intro _ _; rfl) | walk_at "d" | assumption | walk_at "r" | exact Nat.le_of_ble_eq_true rfl | (simp only [List.length_append, List.length_cons, List.length_nil]; omega)))
noncomputable section
variable {X : Cx} {n : Nat} {G : Gh} {sc : Scope} {os os' os'' : List (Option Val)} {m : M} {v w : Val}
theorem fmod_nat (a : Int) (k : Nat) (hk : 0 < k) : ∃ i : Nat, i < k ∧ a.fmod k = i := by
  have h1 := Int.fmod_nonneg_of_pos a (b := (k : Int)) (by omega)
  have h2 := Int.fmod_lt_of_pos a (b := (k : Int)) (by omega)
  exact ⟨(a.fmod k).toNat, by omega, by omega⟩
theorem natEq (k j : Nat) : ((k : Int) == (j : Int)) = Nat.beq k j := by
  rw [Bool.eq_iff_iff, beq_iff_eq, Nat.beq_eq]
  omega
theorem SnB.assign2S {Q : QS} {e : PySem.Expr} {x y : Str} {k : Nat} {p1 p2 p pos : Pos} {sts : List PySem.Stmt} (h : Rd X n sc e (L sc os) G (.tup [v, w])) (u1 : Upd false sc.names os y w os') (u2 : Upd false sc.names os' x v os'') (kk : SnB X n sc sts (L sc os'') G Q)
    (hw : swappedStores [.Tuple [.Name x p1, .Name y p2] k p] e (envOf sc) = pure (some [x, y]) := by rfl) (hsw : ∀ env, swapsWithSole [.Tuple [.Name x p1, .Name y p2] k p] e pos.line env = pure false := by intro _; rfl) : SnB X n sc (.Assign [.Tuple [.Name x p1, .Name y p2] k p] e pos :: sts) (L sc os) G Q :=
  .cons (.assignSw [x, y] (h.to ⟨_, _, rfl, .cons u1.put (.cons u2.put .nil), .next kk⟩) hw hsw)
noncomputable def w3 (i : Nat) : Int := if Nat.beq i 0 then 1 else if Nat.beq i 1 then 4 else 2
noncomputable def useP (k : Nat) (w : Int) (f : Bool) (size : Int) : List PS × List PS × Bool :=
  cond (Nat.beq k 1) ([⟨0, 9, [r' 3], .tup [.int w, .bool false], f⟩], cond (f || decide (w > size)) [⟨0, 9, [r' 3], .tup [.int w, .bool false], f⟩] [], f || decide (w > size)) <|
  cond (Nat.beq k 2) (let r := [⟨0, 9, [r' 3], .tup [.int w, .bool false], f⟩, ⟨1, -1, [r' 0, r' 9], .int 4, false⟩]; (r, r, true)) <|
  cond (Nat.beq k 3) (let r := [⟨1, -1, [r' 0, r' 3], .int 4, false⟩]; (r, r, true)) <|
  cond (Nat.beq k 4) (let r := [⟨3, -1, [r' 1, r' 3], .str "see", false⟩]; (r, r, true)) <|
  cond (Nat.beq k 5) (let r := [⟨10, 5, [r' 3], .int 0, false⟩, ⟨1, -1, [r' 5, r' 2], .int 1, false⟩]; (r, r, true)) <|
  cond (Nat.beq k 6) ([⟨10, 5, [r' 3], .int 0, false⟩], [], false) <|
  cond (Nat.beq k 7) (let r := [⟨2, -1, [r' 0, r' 3], .tup [.int size, .int 1], false⟩]; (r, r, true)) <|
  cond (Nat.beq k 8) ([⟨1, -1, [r' 3, r' 2], .int w, f⟩], cond (f || decide (w > size)) [⟨1, -1, [r' 3, r' 2], .int w, f⟩] [], f || decide (w > size)) <|
  cond (Nat.beq k 9) ([⟨9, 6, [], .int 0, false⟩, ⟨1, -1, [r' 6, r' 2], .int 1, false⟩], [⟨9, 6, [], .int 0, false⟩], false)
  ([], [], false)
theorem RowLE.ite {G0 : Gh} {t a c : PySem.Expr} {pos : Pos} {b : Bool} {ps qs : List PS} (h : ∀ G, RdT X n sc t m G b) (h1 : b = true → RowLE X n sc a m G0 ps) (h2 : b = false → RowLE X n sc c m G0 qs) : RowLE X n sc (.IfExp t a c pos) m G0 (cond b ps qs) := fun G Q x0 kk =>
  Sn.ite ((h G).to ⟨fun e => h1 e G Q x0 fun a G' x r => kk a G' x (by rw [e]; exact r), fun e => h2 e G Q x0 fun a G' x r => kk a G' x (by rw [e]; exact r)⟩)
theorem RowLE.to1 {G0 : Gh} {x : Str} {a : Addr} {p q : PS} {k : Nat} {p1 p2 p3 pos : Pos} (h : Loc sc.names os x (.ref a)) (r : RowL G0 [p, q] a) : RowLE X n sc (.Subscript (.Name x p1) (.Slice .none (some (.Constant (.int 1) k p2)) .none p3) pos) (L sc os) G0 [p] := fun G Q x0 kk => by
  obtain ⟨vs, e, h'⟩ := r.ext x0
  cases h' with | cons h1 h2 => cases h2 with | cons h2 h3 =>
  cases h3
  exact Sn.slice ((Rd.var h).to (.none (.some (Rd.int.to ⟨1, rfl, SlOp.list e (NewL.nl (vs := [_]) fun c G' hc x1 e1 => kk c G' x1 ⟨_, e1, .cons (h1.ext x1) .nil⟩)⟩))))
theorem Sn.ret3 {e1 e2 e3 : PySem.Expr} {k : Nat} {pos : Pos} {b : Bool} {ps qs : List PS} {Q : QE} (h1 : RowLE X n sc e1 m G ps) (h2 : RowLE X n sc e2 m G qs) (h3 : ∀ G, Rd X n sc e3 m G (.bool b)) (kk : ∀ r l G', Ext G G' → RowL G' ps r → RowL G' qs l → Q (.tup [.ref r, .ref l, .bool b]) G') (n1 : NS e1 := by intro _ _; rfl) (n2 : NS e2 := by intro _ _; rfl) (n3 : NS e3 := by intro _ _; rfl) : Sn X n sc (.Tuple [e1, e2, e3] k pos) m G Q :=
  Sn.tup (SnEs.cons (h1 G _ .refl fun r G1 x1 r1 => SnEs.cons (h2 G1 _ x1 fun l G2 x2 r2 => SnEs.cons ((h3 G2).to (SnEs.nil ⟨by show 3 < cap; decide, kk r l G2 (x1.trans x2) (r1.ext x2) r2⟩)) (n3 _)) (n2 _)) (n1 _))
theorem Sn.ret2 {e1 e2 : PySem.Expr} {k : Nat} {pos : Pos} {p : PS} {qs : List PS} {Q : QE} (h1 : RowE X n sc e1 m G p) (h2 : RowLE X n sc e2 m G qs) (kk : ∀ v l G', Ext G G' → RowV G' p v → RowL G' qs l → Q (.tup [v, .ref l]) G') (n1 : NS e1 := by intro _ _; rfl) (n2 : NS e2 := by intro _ _; rfl) : Sn X n sc (.Tuple [e1, e2] k pos) m G Q :=
  Sn.tup (SnEs.cons (h1 G _ .refl fun r G1 x1 r1 => SnEs.cons (h2 G1 _ x1 fun l G2 x2 r2 => SnEs.nil ⟨by show 2 < cap; decide, kk r l G2 (x1.trans x2) (r1.ext x2) r2⟩) (n2 _)) (n1 _))
theorem SnB.ifk {Q : QS} {x : Str} {k c : Nat} {kd : Nat} {p1 p2 p3 p4 : Pos} {a sts : List PySem.Stmt} (h : Loc sc.names os x (.int k)) (ha : k = c → SnB X n sc a (L sc os) G (Then X n sc sts Q)) (hb : Nat.beq k c = false → SnB X n sc sts (L sc os) G Q) : SnB X n sc (.If (.Compare (.Name x p1) [.Eq] [.Constant (.int (c : Int)) kd p2] p3) a [] p4 :: sts) (L sc os) G Q :=
  SnB.ifs (r := Nat.beq k c) (natEq k c ▸ .cmp (.var h) .int (.eqI ⟨rfl, rfl⟩)) (fun e => ha (Nat.eq_of_beq_eq_true e)) fun e => .nilT (hb e)
theorem sp_law_use {k : Nat} {a size : Int} {Q : QE} (T : Tops X)
    (kk : ∀ i j : Nat, i < 3 → j < 3 → ∀ r l G', Ext G G' → RowL G' (useP k (w3 i) (Nat.beq j 2) size).1 r → RowL G' (useP k (w3 i) (Nat.beq j 2) size).2.1 l → Q (.tup [.ref r, .ref l, .bool (useP k (w3 i) (Nat.beq j 2) size).2.2]) G') : Cal X (n + 1) a_law_use [.int k, .int a, .int size] G Q := by
  refine' Cal.start (os := ?os) T.d_law_use ?q ?b; case q => walk_at "r"
  case b =>
  obtain ⟨i, hi, ei⟩ := fmod_nat a 3 (by decide)
  obtain ⟨j, hj, ej⟩ := fmod_nat (a.fdiv 3) 3 (by decide)
  have kk := kk i j hi hj
  have hw : seqAt [Val.int 1, .int 4, .int 2] (i : Int) = some (.int (w3 i)) := by
    have : i = 0 ∨ i = 1 ∨ i = 2 := by omega
    rcases this with rfl | rfl | rfl <;> rfl
  have ef := natEq j 2
  refine SnB.assign2S (v := .int (w3 i)) (w := .bool (Nat.beq j 2)) (.tup (.cons (.idxT (j := i) (.tup (by walk_at "r")) (ei ▸ .bin (by walk_at "r") .int (.mod (by decide) ⟨rfl, rfl⟩)) (by unfold cap; omega) hw) (.cons (ef ▸ .cmp (ej ▸ .bin (.bin (by walk_at "r") .int (.fdiv (by decide) (by decide) ⟨rfl, rfl⟩)) .int (.mod (by decide) ⟨rfl, rfl⟩)) .int (.eqI ⟨rfl, rfl⟩)) .nil))) (by walk_at "r") (by walk_at "r") ?_
  generalize w3 i = w at *
  generalize Nat.beq j 2 = f at *
  refine SnB.ifk (c := 1) (by walk_at "r") (fun e => ?_) fun e1 => ?_
  · subst e
    refine SnB.rowV ⟨0, 9, [r' 3], .tup [.int w, .bool false], f⟩ (by walk_at "d") fun v G1 x1 r1 => ⟨_, by walk_at "r", ?_⟩
    refine SnB.assign (v := .bool (f || decide (w > size))) (.or (by walk_at "r") fun _ => .or1 (.cmp (by walk_at "r") (by walk_at "r") (.gt ⟨rfl, rfl⟩))) (by walk_at "r") ?_
    exact SnB.retT (Sn.ret3 (b := f || decide (w > size)) (ps := [⟨0, 9, [r' 3], .tup [.int w, .bool false], f⟩]) (qs := cond (f || decide (w > size)) [⟨0, 9, [r' 3], .tup [.int w, .bool false], f⟩] []) (by walk_at "d") (RowLE.ite (b := f || decide (w > size)) (fun _ => .val (by walk_at "r") (.bool _)) (fun _ => by walk_at "d") fun _ => by walk_at "d") (fun _ => by walk_at "r") fun r l G' x a b => kk r l G' (x1.trans x) a b)
  refine SnB.ifk (c := 2) (by walk_at "r") (fun e => ?_) fun e2 => ?_
  · subst e
    exact SnB.rowL [⟨0, 9, [r' 3], .tup [.int w, .bool false], f⟩, ⟨1, -1, [r' 0, r' 9], .int 4, false⟩] (by walk_at "d") fun a G1 x1 r1 => ⟨_, by walk_at "r", SnB.retT (Sn.ret3 (b := true) (ps := [⟨0, 9, [r' 3], .tup [.int w, .bool false], f⟩, ⟨1, -1, [r' 0, r' 9], .int 4, false⟩]) (qs := [⟨0, 9, [r' 3], .tup [.int w, .bool false], f⟩, ⟨1, -1, [r' 0, r' 9], .int 4, false⟩]) (by walk_at "d") (by walk_at "d") (fun _ => by walk_at "r") fun r l G' x a b => kk r l G' (x1.trans x) a b)⟩
  refine SnB.ifk (c := 3) (by walk_at "r") (fun e => ?_) fun e3 => ?_
  · subst e
    exact SnB.rowL [⟨1, -1, [r' 0, r' 3], .int 4, false⟩] (by walk_at "d") fun a G1 x1 r1 => ⟨_, by walk_at "r", SnB.retT (Sn.ret3 (b := true) (ps := [⟨1, -1, [r' 0, r' 3], .int 4, false⟩]) (qs := [⟨1, -1, [r' 0, r' 3], .int 4, false⟩]) (by walk_at "d") (by walk_at "d") (fun _ => by walk_at "r") fun r l G' x a b => kk r l G' (x1.trans x) a b)⟩
  refine SnB.ifk (c := 4) (by walk_at "r") (fun e => ?_) fun e4 => ?_
  · subst e
    exact SnB.rowL [⟨3, -1, [r' 1, r' 3], .str "see", false⟩] (by walk_at "d") fun a G1 x1 r1 => ⟨_, by walk_at "r", SnB.retT (Sn.ret3 (b := true) (ps := [⟨3, -1, [r' 1, r' 3], .str "see", false⟩]) (qs := [⟨3, -1, [r' 1, r' 3], .str "see", false⟩]) (by walk_at "d") (by walk_at "d") (fun _ => by walk_at "r") fun r l G' x a b => kk r l G' (x1.trans x) a b)⟩
  refine SnB.ifk (c := 5) (by walk_at "r") (fun e => ?_) fun e5 => ?_
  · subst e
    exact SnB.rowL [⟨10, 5, [r' 3], .int 0, false⟩, ⟨1, -1, [r' 5, r' 2], .int 1, false⟩] (by walk_at "d") fun a G1 x1 r1 => ⟨_, by walk_at "r", SnB.retT (Sn.ret3 (b := true) (ps := [⟨10, 5, [r' 3], .int 0, false⟩, ⟨1, -1, [r' 5, r' 2], .int 1, false⟩]) (qs := [⟨10, 5, [r' 3], .int 0, false⟩, ⟨1, -1, [r' 5, r' 2], .int 1, false⟩]) (by walk_at "d") (by walk_at "d") (fun _ => by walk_at "r") fun r l G' x a b => kk r l G' (x1.trans x) a b)⟩
  refine SnB.ifk (c := 6) (by walk_at "r") (fun e => ?_) fun e6 => ?_
  · subst e
    exact SnB.retT (Sn.ret3 (b := false) (ps := [⟨10, 5, [r' 3], .int 0, false⟩]) (qs := []) (by walk_at "d") (by walk_at "d") (fun _ => by walk_at "r") kk)
  refine SnB.ifk (c := 7) (by walk_at "r") (fun e => ?_) fun e7 => ?_
  · subst e
    exact SnB.rowL [⟨2, -1, [r' 0, r' 3], .tup [.int size, .int 1], false⟩] (by walk_at "d") fun a G1 x1 r1 => ⟨_, by walk_at "r", SnB.retT (Sn.ret3 (b := true) (ps := [⟨2, -1, [r' 0, r' 3], .tup [.int size, .int 1], false⟩]) (qs := [⟨2, -1, [r' 0, r' 3], .tup [.int size, .int 1], false⟩]) (by walk_at "d") (by walk_at "d") (fun _ => by walk_at "r") fun r l G' x a b => kk r l G' (x1.trans x) a b)⟩
  refine SnB.ifk (c := 8) (by walk_at "r") (fun e => ?_) fun e8 => ?_
  · subst e
    refine SnB.rowL [⟨1, -1, [r' 3, r' 2], .int w, f⟩] (by walk_at "d") fun v G1 x1 r1 => ⟨_, by walk_at "r", ?_⟩
    exact SnB.retT (Sn.ret3 (b := f || decide (w > size)) (ps := [⟨1, -1, [r' 3, r' 2], .int w, f⟩]) (qs := cond (f || decide (w > size)) [⟨1, -1, [r' 3, r' 2], .int w, f⟩] []) (by walk_at "d") (RowLE.ite (b := f || decide (w > size)) (fun _ => .or (.val (by walk_at "r") (.bool f)) fun _ => .or1 (.cmp (by walk_at "r") (by walk_at "r") (.gt ⟨rfl, rfl⟩))) (fun _ => by walk_at "d") fun _ => by walk_at "d") (fun _ => .or (by walk_at "r") fun _ => .or1 (.cmp (by walk_at "r") (by walk_at "r") (.gt ⟨rfl, rfl⟩))) fun r l G' x a b => kk r l G' (x1.trans x) a b)
  refine SnB.ifk (c := 9) (by walk_at "r") (fun e => ?_) fun e9 => ?_
  · subst e
    exact SnB.rowL [⟨9, 6, [], .int 0, false⟩, ⟨1, -1, [r' 6, r' 2], .int 1, false⟩] (by walk_at "d") fun a G1 x1 r1 => ⟨_, by walk_at "r", SnB.retT (Sn.ret3 (b := false) (ps := [⟨9, 6, [], .int 0, false⟩, ⟨1, -1, [r' 6, r' 2], .int 1, false⟩]) (qs := [⟨9, 6, [], .int 0, false⟩]) (by walk_at "d") (RowLE.to1 (by walk_at "r") r1) (fun _ => by walk_at "r") fun r l G' x a b => kk r l G' (x1.trans x) a b)⟩
  · have eu : useP k w f size = ([], [], false) := by unfold useP; rw [e1, e2, e3, e4, e5, e6, e7, e8, e9]; rfl
    rw [eu] at kk
    exact SnB.retB (Sn.ret3 (b := false) (ps := []) (qs := []) (by walk_at "d") (by walk_at "d") (fun _ => by walk_at "r") kk)
end
noncomputable section
variable {X : Cx} {n : Nat} {G : Gh} {sc : Scope} {os os' os'' : List (Option Val)} {m : M} {v w : Val}
noncomputable def twoOp (i : Nat) : Nat := if Nat.blt i 13 then 13 + i else i - 8
noncomputable def oneOp (i : Nat) : Nat := if Nat.blt i 6 then 26 + i else 10
noncomputable def opd4 (j : Nat) (b : Nat) : Opd := if Nat.beq j 0 then r' 2 else if Nat.beq j 1 then k' 0 else if Nat.beq j 2 then k' (1 + b) else k' 4294967295
noncomputable def othersP : List PS := [⟨11, 9, [k' 7], .int 0, false⟩, ⟨12, 9, [], .tup [.str "g", .int 4], false⟩, ⟨9, 9, [], .int 1, false⟩]
noncomputable def twoRow (i j b : Nat) : PS := ⟨twoOp i, 9, [r' 1, opd4 j b], .int 0, false⟩
noncomputable def twoDue (i j b : Nat) : List PS := cond (decide ((i : Int) > 12) && ([opdD (r' 2), opdD (k' 0)].any fun e => e.eqv (opdD (opd4 j b)))) [twoRow i j b] []
noncomputable def loadRow (o : Opd) (w : Nat) (s f : Bool) : PS := ⟨0, 9, [o], .tup [.int (w3 w), .bool s], f⟩
noncomputable def loadDue (size : Int) (o : Opd) (w : Nat) (s f : Bool) : List PS := cond ((opdD o).eqv (opdD (r' 3)) && (decide (w3 w ≤ size) && !f)) [] [loadRow o w s f]
noncomputable def callRow (c : Bool) (d : Int) : PS := ⟨cond c 4 3, d, [r' 0, r' 1], cond c (.int 0) (.str "see"), false⟩
inductive Idle (size : Int) : PS → List PS → Prop where
  | two (i j b : Nat) (hi : i < 17) (hj : j < 4) (hb : b < 9) : Idle size (twoRow i j b) (twoDue i j b)
  | one (i : Nat) (hi : i < 7) : Idle size ⟨oneOp i, 9, [r' 1], .int 0, false⟩ []
  | load (o : Opd) (w : Nat) (s f : Bool) (ho : o ∈ [r' 3, r' 4, r' 5, r' 0]) (hw : w < 3) : Idle size (loadRow o w s f) (loadDue size o w s f)
  | call (c : Bool) : Idle size (callRow c 9) [callRow c (-1)]
  | other (i : Nat) (p : PS) (h : othersP[i]? = some p) : Idle size p []
theorem two_at (i : Nat) (hi : i < 17) : seqAt [(.str "add"), (.str "sub"), (.str "mul"), (.str "and"), (.str "or"), (.str "xor"), (.str "shl"), (.str "shr"), (.str "sar"), (.str "lt"), (.str "ltu"), (.str "eq"), (.str "ne"), (.str "div"), (.str "divu"), (.str "rem"), (.str "remu")] (i : Int) = some (Val.str (opS (twoOp i))) := by
  have : ([(.str "add"), (.str "sub"), (.str "mul"), (.str "and"), (.str "or"), (.str "xor"), (.str "shl"), (.str "shr"), (.str "sar"), (.str "lt"), (.str "ltu"), (.str "eq"), (.str "ne"), (.str "div"), (.str "divu"), (.str "rem"), (.str "remu")] : List Val) = (List.range 17).map fun i => Val.str (opS (twoOp i)) := by rfl
  rw [this]
  exact seqAt_map (l := List.range 17) (List.getElem?_range hi)
theorem one_at (i : Nat) (hi : i < 7) : seqAt [(.str "neg"), (.str "not"), (.str "sx8"), (.str "sx16"), (.str "zx8"), (.str "zx16"), (.str "copy")] (i : Int) = some (Val.str (opS (oneOp i))) := by
  have : ([(.str "neg"), (.str "not"), (.str "sx8"), (.str "sx16"), (.str "zx8"), (.str "zx16"), (.str "copy")] : List Val) = (List.range 7).map fun i => Val.str (opS (oneOp i)) := by rfl
  rw [this]
  exact seqAt_map (l := List.range 7) (List.getElem?_range hi)
theorem two_lt (i : Nat) (h : i < 17) : Nat.blt (twoOp i) 36 = true := by
  unfold twoOp
  refine Nat.ble_eq_true_of_le ?_
  split <;> omega
theorem one_lt (i : Nat) (h : i < 7) : Nat.blt (oneOp i) 36 = true := by
  unfold oneOp
  refine Nat.ble_eq_true_of_le ?_
  split
  · omega
  · decide
theorem opd4_at (j b : Nat) (h : j < 4) : seqAt [.tup [.str "r", .int 2], .tup [.str "k", .int 0], .tup [.str "k", .int (1 + b)], .tup [.str "k", .int 4294967295]] (j : Int) = some (opdV (opd4 j b)) := by
  have : j = 0 ∨ j = 1 ∨ j = 2 ∨ j = 3 := by omega
  rcases this with rfl | rfl | rfl | rfl <;> rfl
theorem w3_at (i : Nat) (h : i < 3) : seqAt [Val.int 1, .int 4, .int 2] (i : Int) = some (.int (w3 i)) := by
  have : i = 0 ∨ i = 1 ∨ i = 2 := by omega
  rcases this with rfl | rfl | rfl <;> rfl
theorem adr_at (j : Nat) (h : j < 5) : ∃ o, o ∈ [r' 3, r' 4, r' 5, r' 0] ∧ seqAt [.tup [.str "r", .int 3], .tup [.str "r", .int 3], .tup [.str "r", .int 4], .tup [.str "r", .int 5], .tup [.str "r", .int 0]] (j : Int) = some (opdV o) := by
  have : j = 0 ∨ j = 1 ∨ j = 2 ∨ j = 3 ∨ j = 4 := by omega
  rcases this with rfl | rfl | rfl | rfl | rfl
  · exact ⟨r' 3, .head _, rfl⟩
  · exact ⟨r' 3, .head _, rfl⟩
  · exact ⟨r' 4, .tail _ (.head _), rfl⟩
  · exact ⟨r' 5, .tail _ (.tail _ (.head _)), rfl⟩
  · exact ⟨r' 0, .tail _ (.tail _ (.tail _ (.head _))), rfl⟩
theorem small_cap {j : Nat} (h : j < 1000) : (j : Int).natAbs < cap := by unfold cap; omega
theorem Rd.iteI {t a c : PySem.Expr} {pos : Pos} {r : Bool} {i j : Nat} (h : RdT X n sc t m G r) (ha : Rd X n sc a m G (.int i)) (hb : Rd X n sc c m G (.int j)) : Rd X n sc (.IfExp t a c pos) m G (.int ((cond r i j : Nat) : Int)) := by
  have := Rd.ite (pos := pos) h (fun _ => ha) fun _ => hb
  cases r <;> exact this
theorem RowE.rowA {G0 : Gh} {p : PS} {e1 e2 e3 e4 e5 : PySem.Expr} {k : Nat} {pos : Pos} {s : Str} {la : Addr} (h1 : ∀ G, Rd X n sc e1 m G (.str s)) (h2 : ∀ G, Rd X n sc e2 m G (.int p.dst)) (h3 : ∀ G, Rd X n sc e3 m G (.ref la)) (h4 : ∀ G, Rd X n sc e4 m G p.more) (h5 : ∀ G, Rd X n sc e5 m G (.bool p.vol))
    (q1 : s = opS p.op) (q3 : G0 la = some (.list (p.args.map opdV))) (ho : p.op < 36) (n1 : NS e1 := by intro _ _; rfl) (n2 : NS e2 := by intro _ _; rfl) (n3 : NS e3 := by intro _ _; rfl) (n4 : NS e4 := by intro _ _; rfl) (n5 : NS e5 := by intro _ _; rfl) : RowE X n sc (.Tuple [e1, e2, e3, e4, e5] k pos) m G0 p := fun G Q x0 kk =>
  Sn.tup (SnEs.cons ((h1 G).to (SnEs.cons ((h2 G).to (SnEs.cons ((h3 G).to (SnEs.cons ((h4 G).to (SnEs.cons ((h5 G).to (SnEs.nil ⟨by show 5 < cap; decide, kk _ _ .refl ⟨la, by rw [q1], x0 _ _ q3, ho⟩⟩)) (n5 _))) (n4 _))) (n3 _))) (n2 _))) (n1 _))
inductive AdI (G0 : Gh) (v : Val) (G : Gh) : Prop where
  | mk (o : Opd) (ho : o ∈ [r' 3, r' 4, r' 5, r' 0]) (e : v = opdV o) (eG : G = G0)
theorem SnB.rowsT {Q : QS} {x : Str} {es : List PySem.Expr} {k : Nat} {p p1 pos : Pos} {sts : List PySem.Stmt} (ps : List PS) (h : RowsE X n sc es (L sc os) G ps) (hl : Nat.ble ps.length 1000 = true) (kk : ∀ vs G', Ext G G' → RowsV G' ps vs → ∃ os', Upd false sc.names os x (.tup vs) os' ∧ SnB X n sc sts (L sc os') G' Q) (hsw : ∀ env, swapsWith (.Tuple es k p) (some (.Name x p1)) pos.line env = pure false := by intro _; rfl) : SnB X n sc (.Assign [.Name x p1] (.Tuple es k p) pos :: sts) (L sc os) G Q :=
  SnB.assignQ (Sn.tup (h G _ .refl fun vs G' x r => ⟨by rw [r.length]; exact lt_cap hl, kk vs G' x r⟩)) hsw
theorem RowsV.get {ps : List PS} {vs : List Val} (h : RowsV G ps vs) : ∀ {i : Nat} {p : PS}, ps[i]? = some p → ∃ v, vs[i]? = some v ∧ RowV G p v := by
  induction h with
  | nil => intro i p e; cases e
  | cons a _ ih =>
    intro i p e
    cases i with
    | zero => cases e; exact ⟨_, rfl, a⟩
    | succ i => exact ih (i := i) e
theorem RowE.idx {G0 : Gh} {x : Str} {i : PySem.Expr} {p1 pos : Pos} {ps : List PS} {vs : List Val} {p : PS} {j : Nat} (h : Loc sc.names os x (.tup vs)) (r : RowsV G0 ps vs) (hi : ∀ G, Rd X n sc i (L sc os) G (.int j)) (hj : j < 1000) (hp : ps[j]? = some p) (hs : ∀ x y, subscripted i false x y = operate [x, y] (getItem x y)) : RowE X n sc (.Subscript (.Name x p1) i pos) (L sc os) G0 p := fun G Q x0 kk => by
  obtain ⟨v, hv, r1⟩ := r.get hp
  refine (Rd.idxT (.var h) (hi G) (small_cap hj) (u := v) ?_ hs).to (kk _ _ .refl (r1.ext x0))
  unfold seqAt
  rw [if_pos (Int.natCast_nonneg _), Int.toNat_natCast]
  exact hv
inductive CaI (G0 : Gh) (v : Val) (G : Gh) : Prop where
  | mk (c : Bool) (e : v = .tup [.str (opS (cond c 4 3)), cond c (.int 0) (.str "see")]) (eG : G = G0)
theorem sp_law_idle {a b size : Int} {Q : QE} (T : Tops X) (kk : ∀ p due v l G', Idle size p due → Ext G G' → RowV G' p v → RowL G' due l → Q (.tup [v, .ref l]) G') : Cal X (n + 1) a_law_idle [.int a, .int b, .int size] G Q := by
  refine' Cal.start (os := ?os) T.d_law_idle ?q ?b; case q => walk_at "r"
  case b =>
  obtain ⟨i, hi, ei⟩ := fmod_nat a 30 (by decide)
  obtain ⟨j4, hj4, ej4⟩ := fmod_nat (a.fdiv 30) 4 (by decide)
  obtain ⟨j5, hj5, ej5⟩ := fmod_nat (a.fdiv 30) 5 (by decide)
  obtain ⟨b9, hb9, eb9⟩ := fmod_nat b 9 (by decide)
  obtain ⟨b3, hb3, eb3⟩ := fmod_nat b 3 (by decide)
  obtain ⟨b34, hb34, eb34⟩ := fmod_nat (b.fdiv 3) 4 (by decide)
  obtain ⟨b12, hb12, eb12⟩ := fmod_nat (b.fdiv 12) 2 (by decide)
  obtain ⟨b2, hb2, eb2⟩ := fmod_nat b 2 (by decide)
  refine SnB.assign (v := .int i) (ei ▸ .bin (by walk_at "r") .int (.mod (by decide) ⟨rfl, rfl⟩)) (by walk_at "r") ?_
  refine SnB.ifs (r := decide ((i : Int) < 17)) (.cmp (by walk_at "r") .int (.lt ⟨rfl, rfl⟩)) (fun e => ?_) fun e17 => .nilT ?_
  · have hi : i < 17 := by have := of_decide_eq_true e; omega
    refine SnB.assign (v := opdV (opd4 j4 b9)) (.idxT (j := j4) (.tup (.cons (by walk_at "r") (.cons (by walk_at "r") (.cons (.tup (.cons .str (.cons (.bin .int (eb9 ▸ .bin (by walk_at "r") .int (.mod (by decide) ⟨rfl, rfl⟩)) (.add ⟨rfl, rfl⟩)) .nil))) (.cons (by walk_at "r") .nil))))) (ej4 ▸ .bin (.bin (by walk_at "r") .int (.fdiv (by decide) (by decide) ⟨rfl, rfl⟩)) .int (.mod (by decide) ⟨rfl, rfl⟩)) (small_cap (by omega)) (opd4_at j4 b9 hj4)) (by walk_at "r") ?_
    refine SnB.rowV ⟨twoOp i, 9, [r' 1, opd4 j4 b9], .int 0, false⟩ (RowE.row (fun _ => .idxT (.glob T.g_law_TWO (by walk_at "r")) (by walk_at "r") (small_cap (by omega)) (two_at i hi)) (fun _ => by walk_at "r") (fun _ => by walk_at "r") (fun _ => by walk_at "r") (fun _ => by walk_at "r") (by rfl) (by rfl) (by rfl) (two_lt i hi)) fun v G1 x1 r1 => ⟨_, by walk_at "r", ?_⟩
    refine SnB.retT (Sn.ret2 (by walk_at "d") (RowLE.ite (b := decide ((i : Int) > 12) && ([opdD (r' 2), opdD (k' 0)].any fun e => e.eqv (opdD (opd4 j4 b9)))) (ps := [⟨twoOp i, 9, [r' 1, opd4 j4 b9], .int 0, false⟩]) (qs := []) (fun G => ?_) (fun _ => by walk_at "d") fun _ => by walk_at "d") fun v l G' x r1 r2 => kk _ _ v l G' (.two i j4 b9 hi hj4 hb9) (x1.trans x) r1 r2)
    exact RdT.and (.cmp (by walk_at "r") .int (.gt ⟨rfl, rfl⟩)) fun _ => RdT.and1 (.cmp (w := .tup [opdV (r' 2), opdV (k' 0)]) (by walk_at "r") (.tup (.cons (by walk_at "r") (.cons (by walk_at "r") .nil))) (.inD (opd_rd _ 11) (.inl (.tup' (.cons (opd_rd _ 10) (.cons (opd_rd _ 10) .nil)))) ⟨rfl, rfl⟩))
  refine SnB.ifs (r := decide ((i : Int) < 24)) (.cmp (by walk_at "r") .int (.lt ⟨rfl, rfl⟩)) (fun e => ?_) fun e24 => .nilT ?_
  · have hi7 : 17 ≤ i ∧ i - 17 < 7 := by have := of_decide_eq_true e; have := of_decide_eq_false e17; omega
    have e0 : (i : Int) - 17 = ((i - 17 : Nat) : Int) := by omega
    exact SnB.retT (Sn.ret2 (p := ⟨oneOp (i - 17), 9, [r' 1], .int 0, false⟩) (qs := []) (RowE.row (fun _ => .idxT (j := ((i - 17 : Nat) : Int)) (.glob T.g_law_ONE (by walk_at "r")) (e0 ▸ .bin (by walk_at "r") .int (.sub ⟨rfl, rfl⟩)) (small_cap (by omega)) (one_at _ hi7.2)) (fun _ => by walk_at "r") (fun _ => by walk_at "r") (fun _ => by walk_at "r") (fun _ => by walk_at "r") (by rfl) (by rfl) (by rfl) (one_lt _ hi7.2)) (by walk_at "d") fun v l G' x r1 r2 => kk _ _ v l G' (.one _ hi7.2) x r1 r2)
  refine SnB.ifs (r := decide ((i : Int) < 28)) (.cmp (by walk_at "r") .int (.lt ⟨rfl, rfl⟩)) (fun e => ?_) fun e28 => .nilT ?_
  · obtain ⟨oa, hoa, eoa⟩ := adr_at j5 hj5
    refine SnB.assignQ (Sn.mono (Q := AdI G) (Sn.ite ((RdT.cmp (t := decide ((i : Int) < 27)) (by walk_at "r") .int (.lt ⟨rfl, rfl⟩)).to ⟨fun _ => Rd.to (.idxT (j := j5) (.tup (.cons (by walk_at "r") (.cons (by walk_at "r") (.cons (by walk_at "r") (.cons (by walk_at "r") (.cons (by walk_at "r") .nil)))))) (ej5 ▸ .bin (.bin (by walk_at "r") .int (.fdiv (by decide) (by decide) ⟨rfl, rfl⟩)) .int (.mod (by decide) ⟨rfl, rfl⟩)) (small_cap (by omega)) eoa) ⟨oa, hoa, rfl, rfl⟩, fun _ => Rd.to (v := opdV (r' 3)) (by walk_at "r") ⟨r' 3, .head _, rfl, rfl⟩⟩)) fun v G1 hA => ?_)
    obtain ⟨o, ho, rfl, rfl⟩ := hA
    refine ⟨_, by walk_at "r", ?_⟩
    have hw : cond (!((i : Int) == 25)) b3 1 < 3 := by cases (!((i : Int) == 25)); exact (by decide : 1 < 3); exact hb3
    refine SnB.assign2S (v := .int (w3 (cond (!((i : Int) == 25)) b3 1))) (w := .bool ((b34 : Int) == 3)) (.tup (.cons (.idxT (j := ((cond (!((i : Int) == 25)) b3 1 : Nat) : Int)) (.tup (by walk_at "r")) (.iteI (.cmp (by walk_at "r") .int (.neI ⟨rfl, rfl⟩)) (eb3 ▸ .bin (by walk_at "r") .int (.mod (by decide) ⟨rfl, rfl⟩)) .int) (small_cap (by omega)) (w3_at _ hw)) (.cons (.cmp (eb34 ▸ .bin (.bin (by walk_at "r") .int (.fdiv (by decide) (by decide) ⟨rfl, rfl⟩)) .int (.mod (by decide) ⟨rfl, rfl⟩)) .int (.eqI ⟨rfl, rfl⟩)) .nil))) (by walk_at "r") (by walk_at "r") ?_
    generalize cond (!((i : Int) == 25)) b3 1 = wi at *
    generalize ((b34 : Int) == 3) = f at *
    refine SnB.rowV ⟨0, 9, [o], .tup [.int (w3 wi), .bool ((b12 : Int) == 1)], f⟩ (RowE.row (fun _ => by walk_at "r") (fun _ => by walk_at "r") (fun _ => by walk_at "r") (fun _ => .tup (.cons (by walk_at "r") (.cons (.cmp (eb12 ▸ .bin (.bin (by walk_at "r") .int (.fdiv (by decide) (by decide) ⟨rfl, rfl⟩)) .int (.mod (by decide) ⟨rfl, rfl⟩)) .int (.eqI ⟨rfl, rfl⟩)) .nil))) (fun _ => by walk_at "r") (by rfl) (by rfl) (by rfl)) fun v G1 x1 r1 => ⟨_, by walk_at "r", ?_⟩
    refine SnB.retT (Sn.ret2 (by walk_at "d") (RowLE.ite (b := (opdD o).eqv (opdD (r' 3)) && (decide (w3 wi ≤ size) && !f)) (ps := []) (qs := [⟨0, 9, [o], .tup [.int (w3 wi), .bool ((b12 : Int) == 1)], f⟩]) (fun G => ?_) (fun _ => by walk_at "d") fun _ => by walk_at "d") fun v l G' x r1 r2 => kk _ _ v l G' (.load o wi _ f ho hw) (x1.trans x) r1 r2)
    exact RdT.and (.cmp (w := opdV (r' 3)) (by walk_at "r") (by walk_at "r") (.eq (opd_rd _ 11) (opd_rd _ 11) ⟨rfl, rfl⟩)) fun _ => RdT.and (.cmp (by walk_at "r") (by walk_at "r") (.le ⟨rfl, rfl⟩)) fun _ => RdT.and1 (.not (.val (by walk_at "r") (.bool _)))
  refine SnB.ifk (c := 28) (by walk_at "r") (fun e => ?_) fun e29 => ?_
  · refine SnB.assignQ (Sn.listN (vs := [opdV (r' 0), opdV (r' 1)]) (by walk_at "r") fun la G1 h1 x1 l1 => ⟨_, by walk_at "r", ?_⟩)
    refine SnB.assign2Q (Sn.mono (Q := CaI G1) (Sn.ite ((RdT.cmp (t := (b2 : Int) == 1) (eb2 ▸ .bin (by walk_at "r") .int (.mod (by decide) ⟨rfl, rfl⟩)) .int (.eqI ⟨rfl, rfl⟩)).to ⟨fun _ => Rd.to (v := .tup [.str "callreg", .int 0]) (by walk_at "r") ⟨true, rfl, rfl⟩, fun _ => Rd.to (v := .tup [.str "call", .str "see"]) (by walk_at "r") ⟨false, rfl, rfl⟩⟩)) fun v G2 hA => ?_)
    obtain ⟨c, rfl, rfl⟩ := hA
    refine ⟨_, _, _, _, rfl, by walk_at "r", by walk_at "r", ?_⟩
    have ho : cond c 4 3 < 36 := by cases c <;> decide
    exact SnB.retT (Sn.ret2 (p := callRow c 9) (qs := [callRow c (-1)]) (RowE.rowA (p := ⟨cond c 4 3, 9, [r' 0, r' 1], cond c (.int 0) (.str "see"), false⟩) (fun _ => by walk_at "r") (fun _ => by walk_at "r") (fun _ => by walk_at "r") (fun _ => by walk_at "r") (fun _ => by walk_at "r") (by rfl) l1 ho) (RowLE.list (.cons (RowE.rowA (p := ⟨cond c 4 3, -1, [r' 0, r' 1], cond c (.int 0) (.str "see"), false⟩) (fun _ => by walk_at "r") (fun _ => by walk_at "r") (fun _ => by walk_at "r") (fun _ => by walk_at "r") (fun _ => by walk_at "r") (by rfl) l1 ho) .nil)) fun v l G' x r1 r2 => kk _ _ v l G' (.call c) (x1.trans x) r1 r2)
  · refine SnB.rowsT othersP (by unfold othersP; walk_at "d") rfl fun vs G1 x1 r1 => ⟨_, by walk_at "r", ?_⟩
    obtain ⟨p, hp⟩ : ∃ p, othersP[b3]? = some p := ⟨_, List.getElem?_eq_getElem (show b3 < othersP.length from hb3)⟩
    exact SnB.retB (Sn.ret2 (qs := []) (RowE.idx (by walk_at "r") r1 (fun _ => eb3 ▸ .bin (by walk_at "r") .int (.mod (by decide) ⟨rfl, rfl⟩)) (by omega) hp (fun _ _ => rfl)) (by walk_at "d") fun v l G' x r1 r2 => kk _ _ v l G' (.other _ _ hp) (x1.trans x) r1 r2)
end
noncomputable section
theorem and2 {a b : Bool} (h : (a && b) = true) : a = true ∧ b = true := Bool.and_eq_true_iff.mp h
theorem all_of {α : Type} {P : α → Prop} {f : α → Bool} {l : List α} (h : l.all f = true) (k : ∀ a, f a = true → P a) : ∀ a ∈ l, P a := fun a ha => k a (List.all_eq_true.mp h a ha)
theorem imp_of {p : Prop} [Decidable p] {a b : Bool} (h : (!a || b) = true) (k : p → a = true) : p → b = true := fun q => by rw [k q] at h; exact h
theorem isI_ok {v : Val} (h : isI v = true) : ∃ w, v = .int w := by
  cases v with
  | int i => exact ⟨i, rfl⟩
  | _ => cases h
theorem isTI_ok {v : Val} (h : isTI v = true) : ∃ w b, v = .tup [.int w, b] := by
  cases v with
  | tup l => cases l with
    | nil => cases h
    | cons a l => cases a with
      | int w => cases l with
        | nil => cases h
        | cons b l => cases l with
          | nil => exact ⟨_, _, rfl⟩
          | cons _ _ => cases h
      | _ => cases h
  | _ => cases h
theorem isAtom_ok (v : Val) (h : isAtom v = true) : Atom v := by
  cases v with
  | none => exact .none
  | bool b => exact .bool b
  | int i => exact .int i
  | str x => exact .str x h
  | _ => cases h
theorem isMore_ok (v : Val) (h : isMore v = true) : MoreOK v := by
  cases v with
  | tup vs => exact .tup (all_of h isAtom_ok)
  | _ => exact .atom (isAtom_ok _ h)
theorem chkReg_ok (o : Opd) (h : chkReg o = true) : o.1 = true → 0 ≤ o.2 ∧ o.2 < 32 := fun q => by
  unfold chkReg at h
  rw [q] at h
  obtain ⟨h1, h2⟩ := and2 h
  exact ⟨of_decide_eq_true h1, of_decide_eq_true h2⟩
theorem chkWf_ok (p : PS) (h : chkWf p = true) : StepWf p := by
  obtain ⟨h1, h⟩ := and2 h
  obtain ⟨h2, h⟩ := and2 h
  obtain ⟨h3, h⟩ := and2 h
  obtain ⟨h4, h⟩ := and2 h
  obtain ⟨h5, h6⟩ := and2 h
  refine ⟨fun q => Nat.le_of_ble_eq_true (imp_of (p := isDiv p.op = true) h1 id q), fun q => ?_, fun q => Nat.le_of_ble_eq_true (imp_of h3 (fun q : p.op = 10 => by rw [q]; rfl) q), fun q => ?_, Nat.le_of_ble_eq_true h5, all_of h6 chkReg_ok⟩
  · obtain ⟨a, b⟩ := and2 (imp_of h2 (fun q : p.op = 0 => by rw [q]; rfl) q)
    exact ⟨Nat.le_of_ble_eq_true a, isTI_ok b⟩
  · obtain ⟨a, b⟩ := and2 (imp_of h4 (fun q : p.op = 1 => by rw [q]; rfl) q)
    exact ⟨Nat.le_of_ble_eq_true a, isI_ok b⟩
theorem chkSlot_ok {sl : Slots} (p : PS) (h : chkSlot sl.length p = true) : SlotWf sl p := fun q => by
  have h := imp_of h (fun q : p.op = 9 => by rw [q]; rfl) q
  cases e : p.more with
  | int i =>
    rw [e] at h
    obtain ⟨a, b⟩ := and2 h
    exact ⟨i, rfl, of_decide_eq_true a, Nat.le_of_ble_eq_true b⟩
  | _ => rw [e] at h; cases h
theorem chkEnd_ok (e : PS) (h : chkEnd e = true) : e.args.length ≤ 8 ∧ OpOK e.args ∧ EndOKp e := by
  obtain ⟨h1, h⟩ := and2 h
  obtain ⟨h2, h⟩ := and2 h
  refine ⟨Nat.le_of_ble_eq_true h1, all_of h2 chkReg_ok, ?_⟩
  rcases Bool.or_eq_true_iff.mp h with h | h
  · obtain ⟨a, b⟩ := and2 h
    obtain ⟨w, hw⟩ := isI_ok b
    exact .jump (Nat.eq_of_beq_eq_true a) w hw
  · rcases Bool.or_eq_true_iff.mp h with h | h
    · obtain ⟨a, b⟩ := and2 h
      split at b
      · rename_i i j q
        exact .branch (Nat.eq_of_beq_eq_true a) i j q
      · cases b
    · exact .give (Nat.eq_of_beq_eq_true h)
theorem ways_few (e : PS) : (waysP e).length ≤ 4 := by
  unfold waysP
  cases Nat.beq e.op 32
  · cases Nat.beq e.op 33
    · exact Nat.zero_le 4
    · exact (by decide : 2 ≤ 4)
  · exact (by decide : 1 ≤ 4)
theorem chkR_ok {size : Int} {ps : Parts} {due : List (List PS)} (h : chkR size ps due = true) : Right size ps due := by
  obtain ⟨h1, h⟩ := and2 h
  obtain ⟨h2, h⟩ := and2 h
  obtain ⟨h3, h⟩ := and2 h
  obtain ⟨h4, h⟩ := and2 h
  have h1 := Nat.le_of_ble_eq_true h1
  have h2 := Nat.le_of_ble_eq_true h2
  have hp : ∀ p ∈ ps, p.1.length ≤ 50 ∧ (∀ s ∈ p.1, chkStep s = true) ∧ chkEnd p.2 = true ∧ ∀ j ∈ waysP p.2, 0 ≤ j ∧ j.toNat < ps.length := all_of h3 fun p q => by
    obtain ⟨a, q⟩ := and2 q
    obtain ⟨b, q⟩ := and2 q
    obtain ⟨c, d⟩ := and2 q
    exact ⟨Nat.le_of_ble_eq_true a, all_of b fun _ z => z, c, all_of d fun j z => by
      obtain ⟨z1, z2⟩ := and2 z
      exact ⟨of_decide_eq_true z1, Nat.le_of_ble_eq_true z2⟩⟩
  have hB : ∀ {P : PB → Prop}, (∀ p ∈ ps, P (mkB p)) → ∀ B ∈ ps.map mkB, P B := fun k B hB => by
    obtain ⟨p, hp, rfl⟩ := List.mem_map.mp hB
    exact k p hp
  have hs : ∀ p ∈ allSt (ps.map mkB), chkStep p = true := fun p hp' => by
    obtain ⟨B, b1, b2⟩ := List.mem_flatMap.mp hp'
    exact hB (P := fun B => ∀ p ∈ B.steps, chkStep p = true) (fun p h => (hp p h).2.1) B b1 p b2
  have ok : FnOK (ps.map mkB) := by
    refine ⟨by rw [List.length_map]; exact h1, by rw [List.length_map]; omega, ?_⟩
    rw [List.length_map]
    refine hB fun p h => ?_
    obtain ⟨a, b, c, d⟩ := hp p h
    exact ⟨Nat.le_trans a (by decide), fun s q => chkWf_ok s (and2 (b s q)).1, (chkEnd_ok _ c).2.1, ways_few _, d⟩
  have hlen : ∀ (l : Parts), (∀ p ∈ l, p.1.length ≤ 50) → (allSt (l.map mkB)).length ≤ 50 * l.length := fun l => by
    induction l with
    | nil => exact fun _ => Nat.le_refl _
    | cons p l ih =>
      intro k
      have := ih (all_tl k)
      have k0 : p.1.length ≤ 50 := k p (.head _)
      rw [List.map_cons, allSt_cons, List.length_append, List.length_cons]
      show p.1.length + _ ≤ _
      omega
  unfold chkRun at h
  cases e1 : postP (ps.map mkB) with
  | none => rw [e1] at h; cases h
  | some W0 =>
  rw [e1] at h
  obtain ⟨c1, h⟩ := and2 h
  obtain ⟨c2, h⟩ := and2 h
  cases e2 : naGo [(size, 1), (4, 4)] (slotRegsP [0, 1, 2] (allSt (ps.map mkB))).1 (ps.map mkB) (predsP (ps.map mkB)) 100 W0 0 (AH0 W0) (IW0 W0) with
  | none => have h := h; dsimp only at h; rw [e2] at h; cases h
  | some AH =>
  dsimp only at h
  rw [e2] at h
  obtain ⟨c3, c4⟩ := and2 h
  obtain ⟨d1, d2⟩ := and2 c1
  refine ⟨W0, AH, fun p q => ⟨(chkEnd_ok _ (hp p q).2.2.1).2.2, (chkEnd_ok _ (hp p q).2.2.1).1⟩, ok, Nat.le_trans (hlen ps fun p q => (hp p q).1) (by omega), fun p q => chkSlot_ok (sl := [(size, 1), (4, 4)]) p (and2 (and2 (hs p q)).2).1, e1, ⟨Nat.le_of_ble_eq_true d1, all_of d2 fun i z => ?_⟩, all_of c2 fun l z => Nat.le_of_ble_eq_true z, e2, c3, eq_of_beq c4, fun l hl p q => ?_, all_of h4 fun l z => all_of z fun p z => isMore_ok _ z⟩
  · obtain ⟨z1, z2⟩ := and2 z
    refine ⟨of_decide_eq_true z1, ?_⟩
    cases e3 : (ps.map mkB)[i.toNat]? with
    | none => rw [e3] at z2; cases z2
    | some B =>
      rw [e3] at z2
      exact ⟨B, rfl, all_of z2 fun j z => by
        obtain ⟨x, hx, hx'⟩ := List.any_eq_true.mp z
        exact eq_of_beq hx' ▸ hx⟩
  · obtain ⟨x, hx, rfl⟩ := List.mem_map.mp hl
    exact isMore_ok _ (and2 (and2 ((hp x hx).2.1 p q)).2).2
end
noncomputable section
noncomputable abbrev aheadP : List PS := [⟨9, 3, [], .int 0, false⟩, ⟨9, 4, [], .int 0, false⟩, ⟨10, 5, [r' 3], .int 0, false⟩]
noncomputable abbrev middleP : List PS := [⟨9, 4, [], .int 1, false⟩]
noncomputable abbrev lastP : List PS := [⟨3, -1, [r' 3, r' 4, r' 5], .str "see", false⟩]
noncomputable abbrev chainP : List PS := [⟨13, 10, [r' 9, k' 1], .int 0, false⟩, ⟨18, 11, [r' 10, r' 9], .int 0, false⟩, ⟨10, 11, [r' 11], .int 0, false⟩]
noncomputable abbrev jumpP (i : Int) : PS := ⟨32, -1, [], .int i, false⟩
noncomputable abbrev giveP (o : Opd) : PS := ⟨35, -1, [o], .int 0, false⟩
noncomputable abbrev branP (o : Opd) (i j : Int) : PS := ⟨33, -1, [o], .tup [.int i, .int j], false⟩
noncomputable def s124 (i : Nat) : Int := if Nat.beq i 0 then 1 else if Nat.beq i 1 then 2 else 4
noncomputable def idleChk (s : Nat) (p : PS) (due : List PS) : Bool :=
  chkR (s124 s) [(aheadP ++ [p] ++ lastP, jumpP 1), (middleP ++ lastP, giveP (r' 1))] [aheadP ++ due ++ lastP, middleP ++ lastP] && (!due.isEmpty || chkR (s124 s) [(aheadP ++ [p] ++ chainP ++ lastP, jumpP 1), (middleP ++ lastP, giveP (r' 1))] [aheadP ++ lastP, middleP ++ lastP])
noncomputable def all2 (f : Nat → Nat → Bool) (a b : Nat) : Bool := (List.range a).all fun i => (List.range b).all fun j => f i j
theorem all2_ok {f : Nat → Nat → Bool} {a b : Nat} (h : all2 f a b = true) {i j : Nat} (hi : i < a) (hj : j < b) : f i j = true :=
  List.all_eq_true.mp (List.all_eq_true.mp h i (List.mem_range.mpr hi)) j (List.mem_range.mpr hj)
theorem idle_two0 : all2 (fun s i => idleChk s (twoRow i 0 0) (twoDue i 0 0)) 3 17 = true := by decide +kernel
theorem idle_two1 : all2 (fun s i => idleChk s (twoRow i 1 0) (twoDue i 1 0)) 3 17 = true := by decide +kernel
theorem idle_two3 : all2 (fun s i => idleChk s (twoRow i 3 0) (twoDue i 3 0)) 3 17 = true := by decide +kernel
theorem idle_two2 : all2 (fun s i => (List.range 9).all fun b => idleChk s (twoRow i 2 b) (twoDue i 2 b)) 3 17 = true := by decide +kernel
theorem idle_one : all2 (fun s i => idleChk s ⟨oneOp i, 9, [r' 1], .int 0, false⟩ []) 3 7 = true := by decide +kernel
theorem idle_load : all2 (fun s w => ([r' 3, r' 4, r' 5, r' 0] : List Opd).all fun o => [true, false].all fun x => [true, false].all fun f => idleChk s (loadRow o w x f) (loadDue (s124 s) o w x f)) 3 3 = true := by decide +kernel
theorem idle_rest : all2 (fun s _ => [true, false].all (fun c => idleChk s (callRow c 9) [callRow c (-1)]) && othersP.all fun p => idleChk s p []) 3 1 = true := by decide +kernel
theorem bool_mem (b : Bool) : b ∈ [true, false] := by cases b; exact .tail _ (.head _); exact .head _
theorem idle_ok {s : Nat} (hs : s < 3) {p : PS} {due : List PS} (h : Idle (s124 s) p due) : idleChk s p due = true := by
  cases h with
  | two i j b hi hj hb =>
    have e : j = 0 ∨ j = 1 ∨ j = 2 ∨ j = 3 := by omega
    rcases e with rfl | rfl | rfl | rfl
    · exact all2_ok idle_two0 hs hi
    · exact all2_ok idle_two1 hs hi
    · exact List.all_eq_true.mp (all2_ok idle_two2 hs hi) b (List.mem_range.mpr hb)
    · exact all2_ok idle_two3 hs hi
  | one i hi => exact all2_ok idle_one hs hi
  | load o w x f ho hw => exact List.all_eq_true.mp (List.all_eq_true.mp (List.all_eq_true.mp (all2_ok idle_load hs hw) o ho) x (bool_mem x)) f (bool_mem f)
  | call c => exact List.all_eq_true.mp (and2 (all2_ok idle_rest hs (Nat.zero_lt_one))).1 c (bool_mem c)
  | other i p h => exact List.all_eq_true.mp (and2 (all2_ok idle_rest hs (Nat.zero_lt_one))).2 p (List.mem_of_getElem? h)
end
noncomputable section
noncomputable abbrev lpAhead (b : Int) : List PS := [⟨11, 9, [k' b], .int 0, false⟩, ⟨10, 10, [r' 2], .int 0, false⟩]
noncomputable abbrev lpInner : List PS := [⟨13, 9, [r' 9, r' 10], .int 0, false⟩, ⟨15, 10, [r' 10, r' 9], .int 0, false⟩]
noncomputable abbrev lpCount : List PS := [⟨14, 1, [r' 1, k' 1], .int 0, false⟩]
noncomputable def lpGiven (i : Nat) : Int := if Nat.beq i 0 then 2 else if Nat.beq i 1 then 9 else 10
noncomputable def lpParts (i b : Nat) : Parts := [(lpAhead b, jumpP 1), (lpInner ++ lpCount, branP (r' 1) 1 2), ([], giveP (r' (lpGiven i)))]
theorem loop_chk : all2 (fun i b => chkR 4 (lpParts i b) (cond (Nat.beq i 0) [[], lpCount, []] [lpAhead b, lpInner ++ lpCount, []])) 3 50 = true := by decide +kernel
noncomputable abbrev sSlot (i : Int) : PS := ⟨9, i, [], .int 0, false⟩
noncomputable abbrev sName : PS := ⟨12, 3, [], .tup [.str "g", .int 0], false⟩
noncomputable abbrev sSt2 : PS := ⟨1, -1, [r' 2, r' 1], .int 1, false⟩
noncomputable abbrev sStore (w : Int) : List PS := [⟨1, -1, [r' 3, r' 1], .int w, false⟩]
noncomputable def stA1 (way : Nat) : List PS := cond (Nat.beq way 1) ([sName] ++ [sSlot 3]) [sSlot 3]
noncomputable def stAhead (way : Nat) : List PS := cond (Nat.beq way 2) (stA1 way ++ [sSlot 2]) (stA1 way)
noncomputable def stRows (U : List PS) (way : Nat) : List PS := cond (Nat.beq way 2) (U ++ [sSt2]) U
noncomputable def stL1 (U : List PS × List PS × Bool) (way k : Nat) : List PS := cond (decide ((way : Int) > 0) && ([PyData.int 8, .int 9].any fun e => e.eqv (.int (k : Int)))) (stRows U.1 way) (stRows U.2.1 way)
noncomputable def stLeft (U : List PS × List PS × Bool) (way k : Nat) : List PS := cond (Nat.beq way 1 && Nat.beq k 1) (stRows U.1 way) (stL1 U way k)
noncomputable def stE3 (way : Nat) : PS := cond (Nat.beq way 3) (giveP (r' 3)) (giveP (r' 1))
noncomputable def stEnd (way : Nat) : PS := cond (Nat.beq way 4) (branP (r' 3) 1 1) (stE3 way)
noncomputable def stTail (way : Nat) : Parts := cond (Nat.beq way 4) [([], giveP (r' 1))] []
noncomputable def stDue (U : List PS × List PS × Bool) (way k : Nat) (w : Int) : List PS := cond (Nat.beq way 1) [sSlot 3] (stAhead way) ++ cond (U.2.2 || decide ((way : Int) > 0)) (sStore w) [] ++ stLeft U way k
noncomputable def stChk (k way : Nat) (s x i : Nat) (f : Bool) : Bool :=
  chkR (s124 s) ([(stAhead way ++ sStore (s124 x) ++ stRows (useP k (w3 i) f (s124 s)).1 way, stEnd way)] ++ stTail way) ([stDue (useP k (w3 i) f (s124 s)) way k (s124 x)] ++ (stTail way).map (·.1))
noncomputable def stAll (s : Nat) : Bool := all2 (fun k way => (List.range (s + 1)).all fun x => (List.range 3).all fun i => [true, false].all fun f => stChk k way s x i f) 10 5
theorem st_chk0 : stAll 0 = true := by decide +kernel
theorem st_chk1 : stAll 1 = true := by decide +kernel
theorem st_chk2 : stAll 2 = true := by decide +kernel
theorem st_ok {k way s x i : Nat} {f : Bool} (hk : k < 10) (hw : way < 5) (hs : s < 3) (hx : x < s + 1) (hi : i < 3) : stChk k way s x i f = true := by
  have h : stAll s = true := by
    have e : s = 0 ∨ s = 1 ∨ s = 2 := by omega
    rcases e with rfl | rfl | rfl
    · exact st_chk0
    · exact st_chk1
    · exact st_chk2
  exact List.all_eq_true.mp (List.all_eq_true.mp (List.all_eq_true.mp (all2_ok h hk hw) x (List.mem_range.mpr hx)) i (List.mem_range.mpr hi)) f (bool_mem f)
end
noncomputable section
variable {X : Cx} {n : Nat} {G : Gh} {sc : Scope} {os os' os'' : List (Option Val)} {m : M} {v w : Val}
theorem SnB.partsL {Q : QS} {x : Str} {es : List PySem.Expr} {p p1 pos : Pos} {sts : List PySem.Stmt} (ps : Parts) (h : PartsE X n sc es (L sc os) G ps) (hl : Nat.ble ps.length 1000 = true) (kk : ∀ a vs G', Ext G G' → G' a = some (.list vs) → PartsV G' ps vs → ∃ os', Upd false sc.names os x (.ref a) os' ∧ SnB X n sc sts (L sc os') G' Q) (hsw : ∀ env, swapsWith (.List es p) (some (.Name x p1)) pos.line env = pure false := by intro _; rfl) : SnB X n sc (.Assign [.Name x p1] (.List es p) pos :: sts) (L sc os) G Q :=
  SnB.assignQ (Sn.listE (h G _ .refl fun vs G1 x1 r1 => ⟨by rw [r1.length]; exact hl, fun a G2 ha x2 e2 => kk a vs G2 (x1.trans x2) e2 (r1.ext x2)⟩)) hsw
theorem Sn.isRight {e1 e2 : PySem.Expr} {es : List PySem.Expr} {p1 p2 p3 : Pos} {pa : Addr} {size : Int} {vs : List Val} {ps : Parts} {due : List (List PS)} {Q : QE} (T : Tops X) (hk : GlobIn sc "_law_is_right") (hn : NoStar [e1, e2, .List es p1]) (h1 : ∀ G, Rd X (n + 9) sc e1 m G (.ref pa)) (h2 : ∀ G, Rd X (n + 9) sc e2 m G (.int size)) (h3 : LsE X (n + 9) sc es m G due) (hl : Nat.ble due.length 1000 = true)
    (e : G pa = some (.list vs)) (hv : PartsV G ps vs) (R : Right size ps due) (kk : ∀ G', Ext G G' → Q (.bool true) G') (n1 : NS e1 := by intro _ _; rfl) (n2 : NS e2 := by intro _ _; rfl) : Sn X (n + 9) sc (.Call (.Name "_law_is_right" p2) [e1, e2, .List es p1] [] p3) m G Q :=
  Sn.call T.f_law_is_right hk hn (SnEs.cons ((h1 G).to (SnEs.cons ((h2 G).to (SnEs.cons (Sn.listE (h3 G _ .refl fun as G1 x1 r1 => ⟨by rw [List.length_map, r1.length]; exact hl, fun a G2 ha x2 e2 => SnEs.nil (sp_law_is_right T ((x1.trans x2) _ _ e) (hv.ext (x1.trans x2)) e2 (r1.map fun _ _ h => h.ext x2) R fun G3 x3 => kk G3 ((x1.trans x2).trans x3))⟩)) (fun _ => rfl))) (n2 _))) (n1 _))
theorem s124_at (i : Nat) (h : i < 3) : seqAt [Val.int 1, .int 2, .int 4] (i : Int) = some (.int (s124 i)) := by
  have : i = 0 ∨ i = 1 ∨ i = 2 := by omega
  rcases this with rfl | rfl | rfl <;> rfl
theorem Idle.more {size : Int} {p : PS} {due : List PS} (h : Idle size p due) : MoresOK [due] ∧ due.length ≤ 1 := by
  have one : ∀ q : PS, MoreOK q.more → MoresOK [[q]] := fun q h => all_cons (all_cons h all_nil) all_nil
  have non : MoresOK [[]] := all_cons all_nil all_nil
  have sel : ∀ (b : Bool) (q : PS), MoreOK q.more → (MoresOK [cond b [q] []] ∧ (cond b [q] []).length ≤ 1) ∧ (MoresOK [cond b [] [q]] ∧ (cond b [] [q]).length ≤ 1) := fun b q h => by
    cases b
    · exact ⟨⟨non, Nat.zero_le _⟩, one q h, Nat.le_refl _⟩
    · exact ⟨⟨one q h, Nat.le_refl _⟩, non, Nat.zero_le _⟩
  cases h with
  | two i j b hi hj hb => exact (sel _ _ (.atom (.int _))).1
  | one i hi => exact ⟨non, Nat.zero_le _⟩
  | load o w s f ho hw => exact (sel _ _ (.tup (all_cons (.int _) (all_cons (.bool _) all_nil)))).2
  | call c => exact ⟨one _ (by cases c; exact .atom (.str _ (by decide +kernel)); exact .atom (.int _)), Nat.le_refl _⟩
  | other i p h => exact ⟨non, Nat.zero_le _⟩
inductive IfQ (G0 : Gh) (P : Prop) (t : Bool) (G : Gh) : Prop where
  | mk (h : t = true → P) (x : Ext G0 G)
theorem sp_law_idle_right {a b c : Int} {Q : QE} (T : Tops X) (kk : ∀ G', Ext G G' → Q (.bool true) G') : Cal X (n + 10) a_law_idle_right [.int a, .int b, .int c] G Q := by
  refine' Cal.start (os := ?os) T.d_law_idle_right ?q ?b; case q => walk_at "r"
  case b =>
  obtain ⟨s, hs, es⟩ := fmod_nat c 3 (by decide)
  obtain ⟨c2, hc2, ec2⟩ := fmod_nat (c.fdiv 3) 2 (by decide)
  refine SnB.assign (v := .int (s124 s)) (.idxT (j := s) (.tup (by walk_at "r")) (es ▸ .bin (by walk_at "r") .int (.mod (by decide) ⟨rfl, rfl⟩)) (small_cap (by omega)) (s124_at s hs)) (by walk_at "r") ?_
  refine SnB.assign2Q (Sn.ref T.f_law_idle (by walk_at "r") (fun _ _ => rfl) (vs := [.int a, .int b, .int (s124 s)]) (by walk_at "r") (sp_law_idle T fun p due v l G1 hI x1 r1 r2 => ⟨v, .ref l, _, _, rfl, by walk_at "r", by walk_at "r", ?_⟩))
  obtain ⟨hm, hdl⟩ := hI.more
  obtain ⟨c1, c2'⟩ := and2 (idle_ok hs hI)
  refine SnB.rowL aheadP (by walk_at "d") fun ah G2 x2 r3 => ⟨_, by walk_at "r", ?_⟩
  refine SnB.rowL middleP (by walk_at "d") fun mi G3 x3 r4 => ⟨_, by walk_at "r", ?_⟩
  refine SnB.rowL lastP (by walk_at "d") fun la G4 x4 r5 => ⟨_, by walk_at "r", ?_⟩
  have x24 := (x2.trans x3).trans x4
  have r1 := r1.ext x24
  have r2 := r2.ext x24
  have r3 := r3.ext (x3.trans x4)
  have r4 := r4.ext x4
  have x14 := x1.trans x24
  refine .cons (.ifs (SnT.mono (Q := IfQ G4 (due = [])) (SnT.and ((RdT.cmp (t := (c2 : Int) == 1) (ec2 ▸ .bin (.bin (by walk_at "r") .int (.fdiv (by decide) (by decide) ⟨rfl, rfl⟩)) .int (.mod (by decide) ⟨rfl, rfl⟩)) .int (.eqI ⟨rfl, rfl⟩)).to ⟨fun e => SnT.and1 (SnT.cmp (Rd.to (v := .ref l) (by walk_at "r") (Sn.listN .nil fun ne G5 hne x5 e5 => Op2.eq (RowL.rd (k := 8) (r2.ext x5) (hm due (.head _))) (.list' e5 .nil) ⟨_, .bool _, fun e => ?_, x5⟩))), fun e => ⟨fun q => Bool.noConfusion q, .refl⟩⟩)) fun t G5 hQ => ?_))
  · cases due with
    | nil => rfl
    | cons q qs => cases e
  obtain ⟨hQ, x5⟩ := hQ
  have r1 := r1.ext x5
  have r2 := r2.ext x5
  have r3 := r3.ext x5
  have r4 := r4.ext x5
  have r5 := r5.ext x5
  refine ⟨fun e => ?_, fun e => .nilT ?_⟩
  · obtain rfl := hQ e
    refine SnB.rowL chainP (by walk_at "d") fun ch G6 x6 r6 => ⟨_, by walk_at "r", ?_⟩
    have r1 := r1.ext x6
    have r3 := r3.ext x6
    have r4 := r4.ext x6
    have r5 := r5.ext x6
    refine SnB.partsL [(aheadP ++ [p] ++ chainP ++ lastP, jumpP 1), (middleP ++ lastP, giveP (r' 1))] (by walk_at "d") rfl fun pa vs G7 x7 e7 r7 => ⟨_, by walk_at "r", ?_⟩
    have r3 := r3.ext x7
    have r4 := r4.ext x7
    have r5 := r5.ext x7
    exact SnB.retT (Sn.isRight (due := [aheadP ++ lastP, middleP ++ lastP]) T (by walk_at "r") (fun _ _ => rfl) (fun _ => by walk_at "r") (fun _ => by walk_at "r") (by walk_at "d") rfl e7 r7 (chkR_ok c2') fun G8 x8 => kk G8 ((((x14.trans x5).trans x6).trans x7).trans x8))
  · refine SnB.partsL [(aheadP ++ [p] ++ lastP, jumpP 1), (middleP ++ lastP, giveP (r' 1))] (by walk_at "d") rfl fun pa vs G7 x7 e7 r7 => ⟨_, by walk_at "r", ?_⟩
    have r2 := r2.ext x7
    have r3 := r3.ext x7
    have r4 := r4.ext x7
    have r5 := r5.ext x7
    exact SnB.retB (Sn.isRight (due := [aheadP ++ due ++ lastP, middleP ++ lastP]) T (by walk_at "r") (fun _ _ => rfl) (fun _ => by walk_at "r") (fun _ => by walk_at "r") (by walk_at "d") rfl e7 r7 (chkR_ok c1) fun G8 x8 => kk G8 (((x14.trans x5).trans x7).trans x8))
end
noncomputable section
variable {X : Cx} {n : Nat} {G : Gh} {sc : Scope} {os os' os'' : List (Option Val)} {m : M} {v w : Val}
theorem given_at (i : Nat) (h : i < 3) : seqAt [Val.int 2, .int 9, .int 10] (i : Int) = some (.int (lpGiven i)) := by
  have : i = 0 ∨ i = 1 ∨ i = 2 := by omega
  rcases this with rfl | rfl | rfl <;> rfl
theorem sp_law_loop_right {a b : Int} {Q : QE} (T : Tops X) (kk : ∀ G', Ext G G' → Q (.bool true) G') : Cal X (n + 10) a_law_loop_right [.int a, .int b] G Q := by
  refine' Cal.start (os := ?os) T.d_law_loop_right ?q ?b; case q => walk_at "r"
  case b =>
  obtain ⟨i, hi, ei⟩ := fmod_nat a 3 (by decide)
  obtain ⟨j, hj, ej⟩ := fmod_nat b 50 (by decide)
  have hc := chkR_ok (all2_ok loop_chk hi hj)
  refine SnB.rowL (lpAhead j) (.list (.cons (RowE.row (fun _ => by walk_at "r") (fun _ => by walk_at "r") (fun _ => .cons (.opdC (b := false) (i := (j : Int)) rfl (ej ▸ .bin (by walk_at "r") .int (.mod (by decide) ⟨rfl, rfl⟩))) .nil) (fun _ => by walk_at "r") (fun _ => by walk_at "r") (by rfl) (by rfl) (by rfl)) (by walk_at "d"))) fun ah G1 x1 r1 => ⟨_, by walk_at "r", ?_⟩
  refine SnB.rowL lpInner (by walk_at "d") fun inn G2 x2 r2 => ⟨_, by walk_at "r", ?_⟩
  refine SnB.rowL lpCount (by walk_at "d") fun co G3 x3 r3 => ⟨_, by walk_at "r", ?_⟩
  have x13 := (x1.trans x2).trans x3
  have r1 := r1.ext (x2.trans x3)
  have r2 := r2.ext x3
  refine SnB.assign (v := opdV (r' (lpGiven i))) (.opdC rfl (.idxT (j := i) (.tup (by walk_at "r")) (ei ▸ .bin (by walk_at "r") .int (.mod (by decide) ⟨rfl, rfl⟩)) (small_cap (by omega)) (given_at i hi))) (by walk_at "r") ?_
  refine SnB.partsL (lpParts i j) (by unfold lpParts; walk_at "d") rfl fun pa vs G4 x4 e4 r4 => ⟨_, by walk_at "r", ?_⟩
  have r1 := r1.ext x4
  have r2 := r2.ext x4
  have r3 := r3.ext x4
  refine SnB.ifs (r := (i : Int) == 0) (.cmp (ei ▸ .bin (by walk_at "r") .int (.mod (by decide) ⟨rfl, rfl⟩)) .int (.eqI ⟨rfl, rfl⟩)) (fun e => ?_) fun e => .nilT ?_
  · obtain rfl : i = 0 := by have := eq_of_beq e; omega
    exact SnB.retT (Sn.isRight (due := [[], lpCount, []]) (size := 4) T (by walk_at "r") (fun _ _ => rfl) (fun _ => by walk_at "r") (fun _ => by walk_at "r") (by walk_at "d") rfl e4 r4 hc fun G5 x5 => kk G5 ((x13.trans x4).trans x5))
  · have e0 : Nat.beq i 0 = false := by rw [← natEq]; exact e
    rw [e0] at hc
    exact SnB.retB (Sn.isRight (due := [lpAhead j, lpInner ++ lpCount, []]) (size := 4) T (by walk_at "r") (fun _ _ => rfl) (fun _ => by walk_at "r") (fun _ => by walk_at "r") (by walk_at "d") rfl e4 r4 hc fun G5 x5 => kk G5 ((x13.trans x4).trans x5))
end
noncomputable section
variable {X : Cx} {n : Nat} {G : Gh} {sc : Scope} {os os' os'' os3 : List (Option Val)} {m : M} {v w : Val}
theorem SnB.assign3S {Q : QS} {e : PySem.Expr} {x y z : Str} {u : Val} {k : Nat} {p1 p2 p3 p pos : Pos} {sts : List PySem.Stmt} (h : Rd X n sc e (L sc os) G (.tup [u, v, w])) (u1 : Upd false sc.names os z w os') (u2 : Upd false sc.names os' y v os'') (u3 : Upd false sc.names os'' x u os3) (kk : SnB X n sc sts (L sc os3) G Q)
    (hw : swappedStores [.Tuple [.Name x p1, .Name y p2, .Name z p3] k p] e (envOf sc) = pure (some [x, y, z]) := by rfl) (hsw : ∀ env, swapsWithSole [.Tuple [.Name x p1, .Name y p2, .Name z p3] k p] e pos.line env = pure false := by intro _; rfl) : SnB X n sc (.Assign [.Tuple [.Name x p1, .Name y p2, .Name z p3] k p] e pos :: sts) (L sc os) G Q :=
  .cons (.assignSw [x, y, z] (h.to ⟨_, _, rfl, .cons u1.put (.cons u2.put (.cons u3.put .nil)), .next kk⟩) hw hsw)
theorem SnB.assign2SQ {Q : QS} {e : PySem.Expr} {x y : Str} {k : Nat} {p1 p2 p pos : Pos} {sts : List PySem.Stmt} (h : Sn X n sc e (L sc os) G fun t G' => ∃ v w os' os'', t = .tup [v, w] ∧ Upd false sc.names os y w os' ∧ Upd false sc.names os' x v os'' ∧ SnB X n sc sts (L sc os'') G' Q)
    (hw : swappedStores [.Tuple [.Name x p1, .Name y p2] k p] e (envOf sc) = pure (some [x, y]) := by rfl) (hsw : ∀ env, swapsWithSole [.Tuple [.Name x p1, .Name y p2] k p] e pos.line env = pure false := by intro _; rfl) : SnB X n sc (.Assign [.Tuple [.Name x p1, .Name y p2] k p] e pos :: sts) (L sc os) G Q :=
  .cons (.assignSw [x, y] (h.mono fun t G' q => by obtain ⟨v, w, os', os'', e, u1, u2, kk⟩ := q; exact ⟨_, _, e, .cons u1.put (.cons u2.put .nil), .next kk⟩) hw hsw)
theorem SnB.ifRow {Q : QS} {t e : PySem.Expr} {x : Str} {p1 pos p2 : Pos} {sts : List PySem.Stmt} {r : Bool} {a : Addr} {ps qs : List PS} (F : Val → List (Option Val)) (h : RdT X n sc t (L sc (F (.ref a))) G r) (hr : RowL G ps a) (he : r = true → RowLE X n sc e (L sc (F (.ref a))) G qs) (u : ∀ v, Upd false sc.names (F (.ref a)) x v (F v))
    (k : ∀ a' G', Ext G G' → RowL G' (cond r qs ps) a' → SnB X n sc sts (L sc (F (.ref a'))) G' Q) (hsw : ∀ env, swapsWith e (some (.Name x p1)) pos.line env = pure false := by intro _; rfl) : SnB X n sc (.If t [.Assign [.Name x p1] e pos] [] p2 :: sts) (L sc (F (.ref a))) G Q :=
  SnB.ifs h (fun q => SnB.rowL qs (he q) (fun a' G' x r' => ⟨_, u _, .nilT (k a' G' x (by rw [q]; exact r'))⟩) hsw) fun q => .nilT (k a G .refl (by rw [q]; exact hr))
theorem SnB.ifEnd {Q : QS} {t e : PySem.Expr} {x : Str} {p1 pos p2 : Pos} {sts : List PySem.Stmt} {r : Bool} {w : Val} {p q : PS} (F : Val → List (Option Val)) (h : RdT X n sc t (L sc (F w)) G r) (hr : EndV G p w) (he : EndE X n sc e (L sc (F w)) G q) (u : ∀ v, Upd false sc.names (F w) x v (F v))
    (k : ∀ v G', Ext G G' → EndV G' (cond r q p) v → SnB X n sc sts (L sc (F v)) G' Q) (hsw : ∀ env, swapsWith e (some (.Name x p1)) pos.line env = pure false := by intro _; rfl) : SnB X n sc (.If t [.Assign [.Name x p1] e pos] [] p2 :: sts) (L sc (F w)) G Q :=
  SnB.ifs h (fun z => SnB.assignQ (he G _ .refl fun v G' x r' => ⟨_, u _, .nilT (k v G' x (by rw [z]; exact r'))⟩) hsw) fun z => .nilT (k w G .refl (by rw [z]; exact hr))
theorem RowLE.last {G0 : Gh} {x : Str} {a : Addr} {p q : PS} {k : Nat} {p1 p2 p3 p4 pos : Pos} (h : Loc sc.names os x (.ref a)) (r : RowL G0 [p, q] a) : RowLE X n sc (.Subscript (.Name x p1) (.Slice (some (.UnaryOp .USub (.Constant (.int 1) k p2) p3)) .none .none p4) pos) (L sc os) G0 [q] := fun G Q x0 kk => by
  obtain ⟨vs, e, h'⟩ := r.ext x0
  cases h' with | cons h1 h2 => cases h2 with | cons h2 h3 =>
  cases h3
  exact Sn.slice ((Rd.var h).to (.some ((Rd.neg Rd.int).to ⟨-1, rfl, .none (SlOp.list e (NewL.nl (vs := [_]) fun c G' hc x1 e1 => kk c G' x1 ⟨_, e1, .cons (h2.ext x1) .nil⟩))⟩)))
theorem SnT.beqN {x : Str} {k c : Nat} {kd : Nat} {p1 p2 p3 : Pos} (h : Loc sc.names os x (.int k)) : RdT X n sc (.Compare (.Name x p1) [.Eq] [.Constant (.int (c : Int)) kd p2] p3) (L sc os) G (Nat.beq k c) := natEq k c ▸ .cmp (.var h) .int (.eqI ⟨rfl, rfl⟩)
noncomputable def PLE (X : Cx) (n : Nat) (sc : Scope) (e : PySem.Expr) (m : M) (G0 : Gh) (ps : Parts) : Prop := ∀ (G : Gh) (Q : QE), Ext G0 G → (∀ a vs G', Ext G G' → G' a = some (.list vs) → PartsV G' ps vs → Q (.ref a) G') → Sn X n sc e m G Q
noncomputable def LLE (X : Cx) (n : Nat) (sc : Scope) (e : PySem.Expr) (m : M) (G0 : Gh) (qs : List (List PS)) : Prop := ∀ (G : Gh) (Q : QE), Ext G0 G → (∀ a as G', Ext G G' → G' a = some (.list (as.map .ref)) → RLs G' qs as → Q (.ref a) G') → Sn X n sc e m G Q
theorem PartsV.append {ps qs : Parts} {vs ws : List Val} (h : PartsV G ps vs) (k : PartsV G qs ws) : PartsV G (ps ++ qs) (vs ++ ws) := by
  induction h with
  | nil => exact k
  | cons a _ ih => exact .cons a ih
theorem RLs.append {qs rs : List (List PS)} {as bs : List Addr} (h : RLs G qs as) (k : RLs G rs bs) : RLs G (qs ++ rs) (as ++ bs) := by
  induction h with
  | nil => exact k
  | cons a _ ih => exact .cons a ih
section
variable {G0 : Gh} {ps ps' : Parts} {qs qs' : List (List PS)} {e e2 e3 : PySem.Expr} {es : List PySem.Expr}
theorem PLE.list {pos : Pos} (h : PartsE X n sc es m G0 ps) (hl : Nat.ble ps.length 1000 = true := by rfl) : PLE X n sc (.List es pos) m G0 ps := fun G Q x0 kk =>
  Sn.listE (h G _ x0 fun vs G1 x1 r1 => ⟨by rw [r1.length]; exact hl, fun a G2 ha x2 e2 => kk a vs G2 (x1.trans x2) e2 (r1.ext x2)⟩)
theorem PLE.var {x : Str} {a : Addr} {vs : List Val} {pos : Pos} (h : Loc sc.names os x (.ref a)) (e : G0 a = some (.list vs)) (r : PartsV G0 ps vs) : PLE X n sc (.Name x pos) (L sc os) G0 ps := fun G Q x0 kk => (Rd.var h).to (kk _ _ _ .refl (x0 _ _ e) (r.ext x0))
theorem PLE.add {pos : Pos} (h1 : PLE X n sc e m G0 ps) (h2 : PLE X n sc e2 m G0 ps') (hl : ps.length + ps'.length ≤ 1000) : PLE X n sc (.BinOp e .Add e2 pos) m G0 (ps ++ ps') := fun G Q x0 kk =>
  Sn.bin (h1 G _ x0 fun a vs G1 x1 e1 r1 => h2 G1 _ (x0.trans x1) fun b ws G2 x2 e2 r2 => Op2.addL (x2 _ _ e1) e2 (by rw [r1.length, r2.length]; unfold cap; omega) (NewL.nl fun c G3 hc x3 e3 => kk c _ G3 ((x1.trans x2).trans x3) e3 ((r1.ext (x2.trans x3)).append (r2.ext x3))))
theorem LLE.list {pos : Pos} (h : LsE X n sc es m G0 qs) (hl : Nat.ble qs.length 1000 = true := by rfl) : LLE X n sc (.List es pos) m G0 qs := fun G Q x0 kk =>
  Sn.listE (h G _ x0 fun as G1 x1 r1 => ⟨by rw [List.length_map, r1.length]; exact hl, fun a G2 ha x2 e2 => kk a as G2 (x1.trans x2) e2 (r1.map fun _ _ h => h.ext x2)⟩)
theorem LLE.add {pos : Pos} (h1 : LLE X n sc e m G0 qs) (h2 : LLE X n sc e2 m G0 qs') (hl : qs.length + qs'.length ≤ 1000) : LLE X n sc (.BinOp e .Add e2 pos) m G0 (qs ++ qs') := fun G Q x0 kk =>
  Sn.bin (h1 G _ x0 fun a as G1 x1 e1 r1 => h2 G1 _ (x0.trans x1) fun b bs G2 x2 e2 r2 => Op2.addL (x2 _ _ e1) e2 (by rw [List.length_map, List.length_map, r1.length, r2.length]; unfold cap; omega) (NewL.nl fun c G3 hc x3 e3 => kk c (as ++ bs) G3 ((x1.trans x2).trans x3) (by rw [e3, List.map_append]) ((r1.map fun _ _ h => h.ext (x2.trans x3)).append (r2.map fun _ _ h => h.ext x3))))
theorem Sn.isRightG {p2 p3 : Pos} {size : Int} {Q : QE} (T : Tops X) (hk : GlobIn sc "_law_is_right") (hn : NoStar [e, e2, e3]) (h1 : PLE X (n + 9) sc e m G ps) (h2 : ∀ G, Rd X (n + 9) sc e2 m G (.int size)) (h3 : LLE X (n + 9) sc e3 m G qs) (R : Right size ps qs) (kk : ∀ G', Ext G G' → Q (.bool true) G')
    (n1 : NS e := by intro _ _; rfl) (n2 : NS e2 := by intro _ _; rfl) (n3 : NS e3 := by intro _ _; rfl) : Sn X (n + 9) sc (.Call (.Name "_law_is_right" p2) [e, e2, e3] [] p3) m G Q :=
  Sn.call T.f_law_is_right hk hn (SnEs.cons (h1 G _ .refl fun a vs G1 x1 e1 r1 => SnEs.cons ((h2 G1).to (SnEs.cons (h3 G1 _ x1 fun b bs G2 x2 e2 r2 => SnEs.nil (sp_law_is_right T (x2 _ _ e1) (r1.ext x2) e2 r2 R fun G3 x3 => kk G3 ((x1.trans x2).trans x3))) (n3 _))) (n2 _)) (n1 _))
end
end
noncomputable section
variable {X : Cx} {n : Nat} {G : Gh} {sc : Scope} {os os' os'' os3 : List (Option Val)} {m : M} {v w : Val}
theorem useP_len (k : Nat) (w : Int) (f : Bool) (size : Int) : (useP k w f size).1.length ≤ 2 ∧ (useP k w f size).2.1.length ≤ 2 := by
  have key : ∀ (b : Bool) (x y : List PS × List PS × Bool), (x.1.length ≤ 2 ∧ x.2.1.length ≤ 2) → (y.1.length ≤ 2 ∧ y.2.1.length ≤ 2) → ((cond b x y).1.length ≤ 2 ∧ (cond b x y).2.1.length ≤ 2) := fun b x y hx hy => by cases b; exact hy; exact hx
  have sel : ∀ (b : Bool) (p : PS), (cond b [p] []).length ≤ 2 := fun b p => by cases b <;> exact Nat.le_of_ble_eq_true rfl
  unfold useP
  refine key _ _ _ ⟨Nat.le_of_ble_eq_true rfl, sel _ _⟩ (key _ _ _ ⟨Nat.le_of_ble_eq_true rfl, Nat.le_of_ble_eq_true rfl⟩ (key _ _ _ ⟨Nat.le_of_ble_eq_true rfl, Nat.le_of_ble_eq_true rfl⟩ (key _ _ _ ⟨Nat.le_of_ble_eq_true rfl, Nat.le_of_ble_eq_true rfl⟩ (key _ _ _ ⟨Nat.le_of_ble_eq_true rfl, Nat.le_of_ble_eq_true rfl⟩ (key _ _ _ ⟨Nat.le_of_ble_eq_true rfl, Nat.le_of_ble_eq_true rfl⟩ (key _ _ _ ⟨Nat.le_of_ble_eq_true rfl, Nat.le_of_ble_eq_true rfl⟩ (key _ _ _ ⟨Nat.le_of_ble_eq_true rfl, sel _ _⟩ (key _ _ _ ⟨Nat.le_of_ble_eq_true rfl, Nat.le_of_ble_eq_true rfl⟩ ⟨Nat.le_of_ble_eq_true rfl, Nat.le_of_ble_eq_true rfl⟩))))))))
theorem SnB.assign3Q {Q : QS} {e : PySem.Expr} {x y z : Str} {k : Nat} {p1 p2 p3 p pos : Pos} {sts : List PySem.Stmt} (h : Sn X n sc e (L sc os) G fun v G' => ∃ v1 v2 v3 os' os'' os3, v = .tup [v1, v2, v3] ∧ Upd false sc.names os x v1 os' ∧ Upd false sc.names os' y v2 os'' ∧ Upd false sc.names os'' z v3 os3 ∧ SnB X n sc sts (L sc os3) G' Q)
    (hsw : ∀ env, swapsWithSole [.Tuple [.Name x p1, .Name y p2, .Name z p3] k p] e pos.line env = pure false := by intro _; rfl) (hw : ∀ env, swappedStores [.Tuple [.Name x p1, .Name y p2, .Name z p3] k p] e env = pure .none := by intro _; rfl) : SnB X n sc (.Assign [.Tuple [.Name x p1, .Name y p2, .Name z p3] k p] e pos :: sts) (L sc os) G Q :=
  .cons (.assignT (h.mono fun v G' q => by obtain ⟨v1, v2, v3, os', os'', os3, rfl, u1, u2, u3, q⟩ := q; exact ⟨_, .tup (.cons u1.bnd (.cons u2.bnd (.cons u3.bnd .nil))), .next q⟩) hsw hw)
theorem SnB.ifRow2 {Q : QS} {t e1 e2 : PySem.Expr} {x y : Str} {kk k2 : Nat} {p1 p2 p p3 pos p4 : Pos} {sts : List PySem.Stmt} {r : Bool} {a b : Addr} {ps qs ps' qs' : List PS} (F : Val → Val → List (Option Val)) (h : RdT X n sc t (L sc (F (.ref a) (.ref b))) G r) (hx : RowL G ps a) (hy : RowL G qs b)
    (h1 : RowLE X n sc e1 (L sc (F (.ref a) (.ref b))) G ps') (h2 : RowLE X n sc e2 (L sc (F (.ref a) (.ref b))) G qs') (u1 : ∀ w, Upd false sc.names (F (.ref a) (.ref b)) y w (F (.ref a) w)) (u2 : ∀ v w, Upd false sc.names (F (.ref a) w) x v (F v w))
    (k : ∀ a' b' G', Ext G G' → RowL G' (cond r ps' ps) a' → RowL G' (cond r qs' qs) b' → SnB X n sc sts (L sc (F (.ref a') (.ref b'))) G' Q) (hw : swappedStores [.Tuple [.Name x p1, .Name y p2] kk p] (.Tuple [e1, e2] k2 p3) (envOf sc) = pure (some [x, y]) := by rfl) (hsw : ∀ env, swapsWithSole [.Tuple [.Name x p1, .Name y p2] kk p] (.Tuple [e1, e2] k2 p3) pos.line env = pure false := by intro _; rfl) (n1 : NS e1 := by intro _ _; rfl) (n2 : NS e2 := by intro _ _; rfl) :
    SnB X n sc (.If t [.Assign [.Tuple [.Name x p1, .Name y p2] kk p] (.Tuple [e1, e2] k2 p3) pos] [] p4 :: sts) (L sc (F (.ref a) (.ref b))) G Q :=
  SnB.ifs h (fun q => SnB.assign2SQ (Sn.tup (SnEs.cons (h1 G _ .refl fun a' G1 x1 r1 => SnEs.cons (h2 G1 _ x1 fun b' G2 x2 r2 => SnEs.nil ⟨by show 2 < cap; decide, _, _, _, _, rfl, u1 _, u2 _ _, .nilT (k a' b' G2 (x1.trans x2) (by rw [q]; exact r1.ext x2) (by rw [q]; exact r2))⟩) (n2 _)) (n1 _))) hw hsw) fun q => .nilT (k a b G .refl (by rw [q]; exact hx) (by rw [q]; exact hy))
noncomputable abbrev srL (a b c : Int) (size : Int) (k way : Nat) (w : Int) (ah st rw le ir en ot ta du : Option Val) : List (Option Val) := [some (.int a), some (.int b), some (.int c), some (.int size), some (.int k), some (.int way), some (.int w), ah, st, rw, le, ir, en, ot, ta, du, none, none]
inductive TaI (G0 : Gh) (way : Nat) (v : Val) (G : Gh) : Prop where
  | mk (a : Addr) (vs : List Val) (e : v = .ref a) (x : Ext G0 G) (h : G a = some (.list vs)) (hv : PartsV G (stTail way) vs)
theorem sp_law_stores_right {a b c : Int} {Q : QE} (T : Tops X) (kk : ∀ G', Ext G G' → Q (.bool true) G') : Cal X (n + 10) a_law_stores_right [.int a, .int b, .int c] G Q := by
  refine' Cal.start (os := ?os) T.d_law_stores_right ?q ?b; case q => walk_at "r"
  case b =>
  obtain ⟨s, hs, es⟩ := fmod_nat c 3 (by decide)
  obtain ⟨k, hk, ek⟩ := fmod_nat a 10 (by decide)
  obtain ⟨way, hway, ew⟩ := fmod_nat b 5 (by decide)
  obtain ⟨x, hx, ex⟩ := fmod_nat (c.fdiv 3) (1 + s) (by omega)
  have ex : (c.fdiv 3).fmod (1 + (s : Int)) = x := by rw [← ex, Int.natCast_add]; rfl
  refine SnB.assign (v := .int (s124 s)) (.idxT (j := s) (.tup (by walk_at "r")) (es ▸ .bin (by walk_at "r") .int (.mod (by decide) ⟨rfl, rfl⟩)) (small_cap (by omega)) (s124_at s hs)) (by walk_at "r") ?_
  refine SnB.assign3S (u := .int k) (v := .int way) (w := .int (s124 x)) (.tup (.cons (ek ▸ .bin (by walk_at "r") .int (.mod (by decide) ⟨rfl, rfl⟩)) (.cons (ew ▸ .bin (by walk_at "r") .int (.mod (by decide) ⟨rfl, rfl⟩)) (.cons (.idxT (j := x) (.tup (by walk_at "r")) (ex ▸ .bin (w := .int (1 + (s : Int))) (.bin (by walk_at "r") .int (.fdiv (by decide) (by decide) ⟨rfl, rfl⟩)) (.bin (w := .int (s : Int)) .int (es ▸ .bin (by walk_at "r") .int (.mod (by decide) ⟨rfl, rfl⟩)) (.add ⟨rfl, rfl⟩)) (.mod (by omega) ⟨rfl, rfl⟩)) (small_cap (by omega)) (s124_at x (by omega))) .nil)))) (by walk_at "r") (by walk_at "r") (by walk_at "r") ?_
  refine SnB.rowL [sSlot 3] (by walk_at "d") fun a0 G1 x1 r1 => ⟨_, by walk_at "r", ?_⟩
  refine SnB.ifRow (qs := [sName] ++ [sSlot 3]) (fun v => srL a b c (s124 s) k way (s124 x) (some v) none none none none none none none none) (SnT.beqN (c := 1) (by walk_at "r")) r1 (fun _ => .add (by walk_at "d") (by walk_at "d") (Nat.le_of_ble_eq_true rfl)) (fun _ => by walk_at "r") fun a1 G2 x2 r2 => ?_
  refine SnB.ifRow (qs := stA1 way ++ [sSlot 2]) (fun v => srL a b c (s124 s) k way (s124 x) (some v) none none none none none none none none) (SnT.beqN (c := 2) (by walk_at "r")) r2 (fun _ => .add (.var (by walk_at "r") r2) (by walk_at "d") (by unfold stA1; cases Nat.beq way 1 <;> exact Nat.le_of_ble_eq_true rfl)) (fun _ => by walk_at "r") fun a2 G3 x3 r3 => ?_
  have r3 : RowL G3 (stAhead way) a2 := r3
  have x03 := (x1.trans x2).trans x3
  refine SnB.rowL (sStore (s124 x)) (by walk_at "d") fun ast G4 x4 r4 => ⟨_, by walk_at "r", ?_⟩
  have r3 := r3.ext x4
  refine SnB.assign3Q (Sn.ref T.f_law_use (by walk_at "r") (fun _ _ => rfl) (vs := [.int k, .int (a.fdiv 10), .int (s124 s)]) (.cons (by walk_at "r") (.cons (.bin (by walk_at "r") .int (.fdiv (by decide) (by decide) ⟨rfl, rfl⟩)) (.cons (by walk_at "r") .nil))) (sp_law_use T fun i j hi hj ar al G5 x5 r5 r6 => ⟨.ref ar, .ref al, _, _, _, _, rfl, by walk_at "r", by walk_at "r", by walk_at "r", ?_⟩))
  have hc := chkR_ok (st_ok (x := x) (f := Nat.beq j 2) hk hway hs (by omega) hi)
  obtain ⟨ul1, ul2⟩ := useP_len k (w3 i) (Nat.beq j 2) (s124 s)
  generalize useP k (w3 i) (Nat.beq j 2) (s124 s) = U at *
  have x05 := (x03.trans x4).trans x5
  have r3 := r3.ext x5
  have r4 := r4.ext x5
  refine SnB.assign (v := .bool (U.2.2 || decide ((way : Int) > 0))) (.or (by walk_at "r") fun _ => .or1 (.cmp (by walk_at "r") .int (.gt ⟨rfl, rfl⟩))) (by walk_at "r") ?_
  refine SnB.assign2SQ (Sn.tup (SnEs.cons ((show EndE X (n + 9) sc_law_stores_right _ _ G5 (giveP (r' 1)) by walk_at "d") G5 _ .refl fun v1 G6 x6 q1 => SnEs.cons ((show EndE X (n + 9) sc_law_stores_right _ _ G5 (giveP (r' 1)) by walk_at "d") G6 _ x6 fun v2 G7 x7 q2 => SnEs.nil ⟨by show 2 < cap; decide, v1, v2, _, _, rfl, by walk_at "r", by walk_at "r", ?_⟩))))
  have x67 := x6.trans x7
  have q1 := q1.ext x7
  have r3 := r3.ext x67
  have r4 := r4.ext x67
  have r5 := r5.ext x67
  have r6 := r6.ext x67
  refine SnB.ifEnd (q := giveP (r' 3)) (fun v => srL a b c (s124 s) k way (s124 x) (some (.ref a2)) (some (.ref ast)) (some (.ref ar)) (some (.ref al)) (some (.bool (U.2.2 || decide ((way : Int) > 0)))) (some v) (some v2) none none) (SnT.beqN (c := 3) (by walk_at "r")) q1 (by walk_at "d") (fun _ => by walk_at "r") fun v3 G8 x8 q3 => ?_
  refine SnB.ifEnd (q := branP (r' 3) 1 1) (fun v => srL a b c (s124 s) k way (s124 x) (some (.ref a2)) (some (.ref ast)) (some (.ref ar)) (some (.ref al)) (some (.bool (U.2.2 || decide ((way : Int) > 0)))) (some v) (some v2) none none) (SnT.beqN (c := 4) (by walk_at "r")) q3 (by walk_at "d") (fun _ => by walk_at "r") fun v4 G9 x9 q4 => ?_
  have q4 : EndV G9 (stEnd way) v4 := q4
  have x79 := x8.trans x9
  have q2 := q2.ext x79
  have r3 := r3.ext x79
  have r4 := r4.ext x79
  have r5 := r5.ext x79
  have r6 := r6.ext x79
  have x09 := (x05.trans x67).trans x79
  refine SnB.assignQ (Sn.mono (Q := TaI G9 way) (Sn.ite ((SnT.beqN (c := 4) (by walk_at "r")).to ⟨fun e => Sn.listE ((show PartsE X (n + 9) sc_law_stores_right _ _ G9 [([], giveP (r' 1))] by walk_at "d") G9 _ .refl fun vs G10 x10 r10 => ⟨by rw [r10.length]; rfl, fun ta G11 hta x11 e11 => .mk ta vs rfl (x10.trans x11) e11 (by unfold stTail; rw [e]; exact r10.ext x11)⟩), fun e => Sn.listN .nil fun ta G11 hta x11 e11 => .mk ta [] rfl x11 e11 (by unfold stTail; rw [e]; exact .nil)⟩)) fun v G10 hT => ?_)
  obtain ⟨ta, tvs, rfl, x10, e10, q10⟩ := hT
  refine ⟨_, by walk_at "r", ?_⟩
  have q4 := q4.ext x10
  have r3 := r3.ext x10
  have r4 := r4.ext x10
  have r5 := r5.ext x10
  have r6 := r6.ext x10
  refine SnB.ifRow2 (ps' := U.1 ++ [sSt2]) (qs' := U.2.1 ++ [sSt2]) (fun v w => srL a b c (s124 s) k way (s124 x) (some (.ref a2)) (some (.ref ast)) (some v) (some w) (some (.bool (U.2.2 || decide ((way : Int) > 0)))) (some v4) (some v2) (some (.ref ta)) none) (SnT.beqN (c := 2) (by walk_at "r")) r5 r6 (.add (.var (by walk_at "r") r5) (by walk_at "d") (by rw [List.length_singleton]; omega)) (.add (.var (by walk_at "r") r6) (by walk_at "d") (by rw [List.length_singleton]; omega)) (fun _ => by walk_at "r") (fun _ _ => by walk_at "r") fun ar' al' G11 x11 r5 r6 => ?_
  have r5 : RowL G11 (stRows U.1 way) ar' := r5
  have r6 : RowL G11 (stRows U.2.1 way) al' := r6
  have q4 := q4.ext x11
  have r3 := r3.ext x11
  have r4 := r4.ext x11
  refine SnB.ifRow (r := decide ((way : Int) > 0) && ([PyData.int 8, .int 9].any fun e => e.eqv (.int (k : Int)))) (qs := stRows U.1 way) (fun v => srL a b c (s124 s) k way (s124 x) (some (.ref a2)) (some (.ref ast)) (some (.ref ar')) (some v) (some (.bool (U.2.2 || decide ((way : Int) > 0)))) (some v4) (some v2) (some (.ref ta)) none) (.and (.cmp (by walk_at "r") .int (.gt ⟨rfl, rfl⟩)) fun _ => .and1 (.cmp (w := .tup [.int 8, .int 9]) (by walk_at "r") (by walk_at "r") (.inD (.int _) (.inl (.tup' (.cons (.int _) (.cons (.int _) .nil)))) ⟨rfl, rfl⟩))) r6 (fun _ => .var (by walk_at "r") r5) (fun _ => by walk_at "r") fun al1 G12 x12 r6 => ?_
  have r6 : RowL G12 (stL1 U way k) al1 := r6
  have r5 := r5.ext x12
  refine SnB.ifRow (r := Nat.beq way 1 && Nat.beq k 1) (qs := stRows U.1 way) (fun v => srL a b c (s124 s) k way (s124 x) (some (.ref a2)) (some (.ref ast)) (some (.ref ar')) (some v) (some (.bool (U.2.2 || decide ((way : Int) > 0)))) (some v4) (some v2) (some (.ref ta)) none) (.and (SnT.beqN (c := 1) (by walk_at "r")) fun _ => .and1 (SnT.beqN (c := 1) (by walk_at "r"))) r6 (fun _ => .var (by walk_at "r") r5) (fun _ => by walk_at "r") fun al2 G13 x13 r6 => ?_
  have r6 : RowL G13 (stLeft U way k) al2 := r6
  have x1213 := x12.trans x13
  have r5 := r5.ext x13
  have q4 := q4.ext x1213
  have r3 := r3.ext x1213
  have r4 := r4.ext x1213
  have x013 := ((x09.trans x10).trans x11).trans x1213
  have al : (stAhead way).length ≤ 3 := by unfold stAhead stA1; cases Nat.beq way 1 <;> cases Nat.beq way 2 <;> exact Nat.le_of_ble_eq_true rfl
  have rl : ∀ l : List PS, l.length ≤ 2 → (stRows l way).length ≤ 3 := fun l hl => by unfold stRows; cases Nat.beq way 2; exact Nat.le_succ_of_le hl; show (l ++ [sSt2]).length ≤ 3; rw [List.length_append, List.length_singleton]; omega
  have ll : (stLeft U way k).length ≤ 3 := by
    unfold stLeft stL1
    cases Nat.beq way 1 && Nat.beq k 1
    · cases decide ((way : Int) > 0) && ([PyData.int 8, .int 9].any fun e => e.eqv (.int (k : Int)))
      · exact rl _ ul2
      · exact rl _ ul1
    · exact rl _ ul1
  refine SnB.rowL (cond (Nat.beq way 1) [sSlot 3] (stAhead way)) (.ite (fun _ => SnT.beqN (c := 1) (by walk_at "r")) (fun e => ?_) fun _ => .var (by walk_at "r") r3) fun ad G14 x14 r7 => ⟨_, by walk_at "r", ?_⟩
  · obtain rfl := Nat.eq_of_beq_eq_true e
    exact RowLE.last (p := sName) (by walk_at "r") r3
  have r3 := r3.ext x14
  have r4 := r4.ext x14
  have r6 := r6.ext x14
  refine SnB.rowL (stDue U way k (s124 x)) (.add (.add (.var (by walk_at "r") r7) (.ite (b := U.2.2 || decide ((way : Int) > 0)) (fun _ => .val (by walk_at "r") (.bool _)) (fun _ => .var (by walk_at "r") r4) fun _ => by walk_at "d") ?_) (.var (by walk_at "r") r6) ?_) fun ad2 G15 x15 r7 => ⟨_, by walk_at "r", ?_⟩
  · cases Nat.beq way 1 <;> cases (U.2.2 || decide ((way : Int) > 0)) <;> simp only [cond, List.length_cons, List.length_nil] <;> omega
  · rw [List.length_append]
    cases Nat.beq way 1 <;> cases (U.2.2 || decide ((way : Int) > 0)) <;> simp only [cond, List.length_cons, List.length_nil] <;> omega
  have x1415 := x14.trans x15
  have r3 := r3.ext x15
  have r4 := r4.ext x15
  have r5 := r5.ext x1415
  have q4 := q4.ext x1415
  have xT : Ext G10 G15 := (x11.trans x1213).trans x1415
  have e10 := xT _ _ e10
  have q10 := q10.ext xT
  have x015 := x013.trans x1415
  have tl : tvs.length ≤ 1 := by rw [q10.length]; unfold stTail; cases Nat.beq way 4 <;> exact Nat.le_of_ble_eq_true rfl
  refine SnB.retB (Sn.isRightG T (by walk_at "r") (fun _ _ => rfl) (.add (.list (ps := [(stAhead way ++ sStore (s124 x) ++ stRows U.1 way, stEnd way)]) ?_) (.var (by walk_at "r") e10 q10) ?_) (fun _ => by walk_at "r") (.add (.list (qs := [stDue U way k (s124 x)]) (.cons (.var (by walk_at "r") r7) .nil)) (fun G16 Q' x16 kk' => Sn.comp (by decide +kernel) (.seq (Rd.to (v := .ref ta) (by walk_at "r") ⟨_, _, .list (x16 _ _ e10), by unfold cap; omega, RiI G16 ((stTail way).map (·.1)), .cap (sc' := sc_law_stores_right_c1) [none, none] ⟨fun v xs acc G17 hI => ?_, fun acc G17 hI => ?_⟩ (fun y w h => by cases h with | s h => cases h with | s h => cases h), ⟨stTail way, [], [], rfl, rfl, q10.ext x16, .nil, rfl⟩⟩))) ?_) hc fun G' x => kk G' (x015.trans x))
  · exact .cons (.mk (.add (.add (.var (by walk_at "r") r3) (.var (by walk_at "r") r4) (by rw [List.length_singleton]; omega)) (.var (by walk_at "r") r5) (by have := rl _ ul1; rw [List.length_append, List.length_singleton]; omega)) (.var (by walk_at "r") q4)) .nil
  · rw [List.length_singleton, ← q10.length]; omega
  · obtain ⟨ps', qs, as, rfl, rfl, hv', hr, hg⟩ := hI
    cases hv' with | @cons p ps' _ _ h1 h2 =>
    obtain ⟨rl, ve, rfl, e1, _⟩ := h1
    exact ⟨x16 _ _ e10, _, Upd.bnd (os := [none, none]) (os' := [none, some (.tup [.ref rl, ve])]) (by walk_at "r"), .nil ⟨fun _ => Rd.to (v := .ref rl) (.idxT (vs := [.ref rl, ve]) (by walk_at "r") .int (by decide) rfl) ⟨ps', qs ++ [p.1], as ++ [rl], by rw [List.map_append]; rfl, rfl, h2, hr.snoc e1, by rw [← hg, List.append_assoc]; rfl⟩, fun q => nomatch q⟩⟩
  · obtain ⟨ps', qs, as, rfl, rfl, hv', hr, hg⟩ := hI
    cases hv'
    have hg : qs = (stTail way).map (·.1) := by rw [← hg]; exact (List.append_nil qs).symm
    subst hg
    exact ⟨x16 _ _ e10, NewL.nl fun rr G18 hrr x18 e18 => kk' rr as G18 x18 e18 (hr.map fun _ _ h => h.ext x18)⟩
  · rw [List.length_singleton, List.length_map, ← q10.length]; omega
end
noncomputable section
variable {X : Cx} {n : Nat} {G : Gh} {sc : Scope} {os os' os'' os3 : List (Option Val)} {m : M} {v w : Val}
theorem slice_ints (ns : List Int) (lo hi : Option Int) : slice (ns.map Val.int) lo hi = (slice ns lo hi).map .int := by unfold slice; rw [List.length_map, List.map_take, List.map_drop]
theorem slice12 (ns : List Int) : (slice ns none (some 12)).length ≤ 12 := by
  unfold slice
  rw [List.length_take]
  exact Nat.le_trans (Nat.min_le_left ..) (Nat.le_trans (Nat.sub_le ..) (Nat.min_le_left ..))
theorem slice4 (ns : List Int) (h : ns.length = 12) (j : Nat) (hj : j + 4 ≤ 12) : ∃ a b c d, slice (ns.map Val.int) (some (j : Int)) (some ((j : Int) + 4)) = [.int a, .int b, .int c, .int d] := by
  have hl : (slice ns (some (j : Int)) (some ((j : Int) + 4))).length = 4 := by
    have e1 : ∀ k : Nat, k ≤ 12 → kms_lo (some (k : Int)) 12 = k := fun k hk => by
      show (if (k : Int) < 0 then 12 - (-(k : Int)).toNat else min (k : Int).toNat 12) = k
      rw [if_neg (Int.not_lt.mpr (Int.natCast_nonneg k))]; exact Nat.min_eq_left hk
    have e2 : kms_hi (some ((j : Int) + 4)) 12 = j + 4 := e1 (j + 4) hj
    unfold slice
    rw [h, e1 j (Nat.le_trans (Nat.le_add_right ..) hj), e2, List.length_take, List.length_drop, h, Nat.add_sub_cancel_left]
    exact Nat.min_eq_left (Nat.le_sub_of_add_le' hj)
  rw [slice_ints]
  obtain ⟨a, l, e⟩ := List.exists_cons_of_length_eq_add_one hl
  rw [e] at hl ⊢
  obtain ⟨b, l, rfl⟩ := List.exists_cons_of_length_eq_add_one (Nat.succ.inj hl)
  obtain ⟨c, l, rfl⟩ := List.exists_cons_of_length_eq_add_one (Nat.succ.inj (Nat.succ.inj hl))
  obtain ⟨d, l, rfl⟩ := List.exists_cons_of_length_eq_add_one (Nat.succ.inj (Nat.succ.inj (Nat.succ.inj hl)))
  cases List.eq_nil_of_length_eq_zero (Nat.succ.inj (Nat.succ.inj (Nat.succ.inj (Nat.succ.inj hl))))
  exact ⟨a, b, c, d, rfl⟩
theorem range12 (k : Nat) (h : k ≤ 12) : ∃ ms : List Int, rangeL k 12 1 = ms.map .int ∧ ms.length = 12 - k := by
  refine ⟨(List.range ((12 - (k : Int) + 1 - 1) / 1).toNat).map fun (i : Nat) => (k : Int) + 1 * i, by unfold rangeL; rw [List.map_map]; rfl, ?_⟩
  rw [List.length_map, List.length_range, Int.ediv_one, Int.add_sub_cancel]
  exact Int.toNat_sub 12 k
inductive NuI (G0 : Gh) (N : Nat) (xs acc : List Val) (G : Gh) : Prop where
  | mk (is ks : List Int) (e1 : xs = is.map .int) (e2 : acc = ks.map .int) (x : G = G0) (hl : ks.length + is.length = N)
noncomputable abbrev laL (l nu : Addr) (t k a b c : Option Val) : M := L sc_law [some (.ref l), some (.ref nu), t, k, a, b, c, none, none, none, none, none, none]
inductive LaI (l nu : Addr) (ns : List Int) (xs : List Val) (m : M) (G : Gh) : Prop where
  | mk (js : List Nat) (t k a b c : Option Val) (e1 : xs = js.map fun j : Nat => Val.int j) (e2 : m = laL l nu t k a b c) (hj : ∀ j ∈ js, j + 4 ≤ 12) (hn : G nu = some (.list (ns.map .int)))
theorem SnB.ifNot {Q : QS} {t e : PySem.Expr} {p1 p2 p3 p4 p5 : Pos} {kd : Nat} {sts : List PySem.Stmt} {r : Bool} (h : RdT X n sc t m G r) (hc : r = true → Sn X n sc e m G fun v G' => v = .bool true ∧ Ext G G') (k : ∀ G', Ext G G' → SnB X n sc sts m G' Q) (hp : ∀ env whole, isTrue e env whole = (do let v ← whole; standAt e.pos; holding [v] (truthy v)) := by intro _ _; rfl) :
    SnB X n sc (.If (.BoolOp .And [t, .UnaryOp .Not e p1] p2) [.Return (some (.Constant (.bool false) kd p3)) p4] [] p5 :: sts) m G Q :=
  .cons (.ifs (SnT.mono (Q := IfQ G False) (SnT.and (h.to ⟨fun e => SnT.and1 (SnT.not (SnT.val ((hc e).mono fun v G' ⟨ev, x⟩ => ⟨true, ev ▸ .bool _, (fun q => Bool.noConfusion q), x⟩) hp)), fun e => ⟨(fun q => Bool.noConfusion q), .refl⟩⟩)) fun t G' ⟨hq, x⟩ => ⟨fun e => (hq e).elim, fun e => .nilT (k G' x)⟩))
theorem sp_law {l : Addr} {ns : List Int} {Q : QE} (T : Tops X) (hl : (ns.map Val.int).length ≤ 2 * cap ∧ ∃ ys, X.H0.IsList l ys ∧ VRs X.H0 (ns.map .int) ys.toList) (kk : ∀ G', Q (.bool true) G') : Cal X (n + 11) a_law [.ref l] G Q := by
  refine' Cal.start (os := ?os) T.d_law ?q ?b; case q => walk_at "r"
  case b =>
  refine .cons (SnS.assignComp (by decide +kernel) (.seq (Sn.slice (Rd.to (v := .ref l) (by walk_at "r") (.none (.some (Rd.int.to ⟨12, rfl, SlOp.ground hl (NewL.nl fun sa G1 h1 x1 e1 => ⟨_, _, .list e1, ?_, NuI G1 (slice ns none (some 12)).length, .cap (sc' := sc_law_c1) [none, none] ⟨fun v xs acc G2 hI => ?_, fun acc G2 hI => ?_⟩ (fun y w h => by cases h with | s h => cases h with | s h => cases h), ⟨slice ns none (some 12), [], slice_ints _ _ _, rfl, rfl, Nat.zero_add _⟩⟩)⟩)))))))
  · rw [slice_ints, List.length_map]; have := slice12 ns; unfold cap; omega
  · obtain ⟨is, ks, e2, rfl, rfl, hk⟩ := hI
    obtain ⟨i, is, rfl, rfl, rfl⟩ := cons_of_map e2
    rw [List.length_cons] at hk
    exact ⟨e1, _, Upd.bnd (os := [none, none]) (os' := [none, some (.int i)]) (by walk_at "r"), .nil ⟨fun _ => Rd.to (.bin (by walk_at "r") .int (.mod (by decide) ⟨rfl, rfl⟩)) ⟨is, ks ++ [_], rfl, by rw [List.map_append]; rfl, rfl, by rw [List.length_append, List.length_singleton]; omega⟩, fun q => nomatch q⟩⟩
  · obtain ⟨is, ks, e2, rfl, rfl, hk⟩ := hI
    obtain rfl := nil_of_map e2
    have hk12 : ks.length ≤ 12 := by rw [List.length_nil] at hk; have := slice12 ns; omega
    refine ⟨e1, NewL.nl fun nu G3 h3 x3 e3 => ⟨_, Upd.put (os' := [some (.ref l), some (.ref nu), none, none, none, none, none, none, none, none, none, none, none]) (by walk_at "r"), .next ?_⟩⟩
    obtain ⟨ms, hms, hml⟩ := range12 ks.length hk12
    refine SnB.assignQ (Sn.bin (Rd.to (v := .ref nu) (by walk_at "r") (Sn.listRange T.blt (by walk_at "r") (by walk_at "r") (fun _ _ => rfl) (Rds.to (vs := [.int ks.length, .int 12]) (.cons (.fn (id := "len") T.blt (by decide) (by decide) (by walk_at "r") (fun _ _ => rfl) (vs := [.ref nu]) (by walk_at "r") (Blt.lenL e3 (by rw [List.length_map]; unfold cap; omega) ⟨by rw [List.length_map], rfl⟩)) (.cons .int .nil)) ⟨ks.length, 12, 1, .two (by unfold cap; omega) (by decide), NewL.nl fun ra G4 h4 x4 e4 => ?_⟩))))
    rw [hms] at e4
    refine Op2.addL (x4 _ _ e3) e4 (by rw [List.length_map, List.length_map]; unfold cap; omega) (NewL.nl fun nb G5 h5 x5 e5 => ⟨_, by walk_at "r", ?_⟩)
    rw [← List.map_append] at e5
    have h12 : (ks ++ ms).length = 12 := by rw [List.length_append]; omega
    generalize ks ++ ms = ns' at *
    refine .cons (SnS.fors (SnI.range T.blt (by walk_at "r") (fun _ _ => rfl) (Rds.to (vs := [.int 0, .int 12, .int 4]) (by walk_at "r") ⟨0, 12, 4, .three (by decide) (by decide) (by decide), LaI l nb ns', ⟨fun v xs m G6 hI => ?_, fun m G6 hI => ?_⟩, ⟨[0, 4, 8], none, none, none, none, none, rfl, rfl, all_cons (by decide) (all_cons (by decide) (all_cons (by decide) all_nil)), e5⟩⟩)))
    · obtain ⟨js, t, k, a, b, c, e6, rfl, hj, hn⟩ := hI
      obtain ⟨j, js, rfl, rfl, rfl⟩ := cons_of_map (f := fun j : Nat => Val.int j) e6
      have j4 := hj j (.head _)
      obtain ⟨kd, a', b', c', h4⟩ := slice4 ns' h12 j j4
      refine ⟨trivial, _, .name (Upd.put (os' := [some (.ref l), some (.ref nb), some (.int j), k, a, b, c, none, none, none, none, none, none]) (by walk_at "r")), ?_⟩
      refine .cons (SnS.unpack (Sn.slice (Rd.to (v := .ref nb) (by walk_at "r") (.some (Rd.to (v := .int j) (by walk_at "r") ⟨j, rfl, .some (Rd.to (v := .int ((j : Int) + 4)) (.bin (by walk_at "r") .int (.add ⟨rfl, rfl⟩)) ⟨_, rfl, SlOp.list hn (NewL.nl fun sb G7 h7 x7 e7 => ?_)⟩)⟩)))))
      rw [h4] at e7
      refine ⟨sb, _, _, rfl, e7, .cons (Upd.bnd (os' := [some (.ref l), some (.ref nb), some (.int j), some (.int kd), a, b, c, none, none, none, none, none, none]) (by walk_at "r")) (.cons (Upd.bnd (os' := [some (.ref l), some (.ref nb), some (.int j), some (.int kd), some (.int a'), b, c, none, none, none, none, none, none]) (by walk_at "r")) (.cons (Upd.bnd (os' := [some (.ref l), some (.ref nb), some (.int j), some (.int kd), some (.int a'), some (.int b'), c, none, none, none, none, none, none]) (by walk_at "r")) (.cons (Upd.bnd (os' := [some (.ref l), some (.ref nb), some (.int j), some (.int kd), some (.int a'), some (.int b'), some (.int c'), none, none, none, none, none, none]) (by walk_at "r")) .nil))), .next ?_⟩
      have hn7 := x7 _ _ hn
      refine SnB.ifNot (r := decide (kd.fmod 5 < 2)) (.cmp (v := .int (kd.fmod 5)) (.bin (v := .int kd) (by walk_at "r") .int (.mod (by decide) ⟨rfl, rfl⟩)) .int (.lt ⟨rfl, rfl⟩)) (fun _ => Sn.ref T.f_law_idle_right (by walk_at "r") (fun _ _ => rfl) (vs := [.int a', .int b', .int c']) (by walk_at "r") (sp_law_idle_right T fun G' x => ⟨rfl, x⟩)) fun G8 x8 => ?_
      refine SnB.ifNot (r := kd.fmod 5 == 2) (.cmp (v := .int (kd.fmod 5)) (.bin (v := .int kd) (by walk_at "r") .int (.mod (by decide) ⟨rfl, rfl⟩)) .int (.eqI ⟨rfl, rfl⟩)) (fun _ => Sn.ref T.f_law_loop_right (by walk_at "r") (fun _ _ => rfl) (vs := [.int a', .int b']) (by walk_at "r") (sp_law_loop_right T fun G' x => ⟨rfl, x⟩)) fun G9 x9 => ?_
      refine SnB.ifNot (r := decide (kd.fmod 5 > 2)) (.cmp (v := .int (kd.fmod 5)) (.bin (v := .int kd) (by walk_at "r") .int (.mod (by decide) ⟨rfl, rfl⟩)) .int (.gt ⟨rfl, rfl⟩)) (fun _ => Sn.ref T.f_law_stores_right (by walk_at "r") (fun _ _ => rfl) (vs := [.int a', .int b', .int c']) (by walk_at "r") (sp_law_stores_right T fun G' x => ⟨rfl, x⟩)) fun G10 x10 => ?_
      exact .nil (.next ⟨js, _, _, _, _, _, rfl, rfl, all_tl hj, x10 _ _ (x9 _ _ (x8 _ _ hn7))⟩)
    · obtain ⟨js, t, k, a, b, c, e6, rfl, hj, hn⟩ := hI
      exact ⟨trivial, .next (SnB.retB (Rd.tru.to (kk G6)))⟩
end
noncomputable section
set_option maxRecDepth 100000
set_option maxHeartbeats 4000000
noncomputable def BindOK (fd : FuncData) (ps : List Str) : Prop := ∀ ys : List Value, ys.length = ps.length → bindArgs fd ⟨ys, []⟩ = pure (ps.zip ys)
theorem un {P : List Value → Prop} {n : Nat} (h : ∀ y ys, ys.length = n → P (y :: ys)) : ∀ ys : List Value, ys.length = n + 1 → P ys := fun ys hl => by
  cases ys with
  | nil => cases hl
  | cons y ys => exact h y ys (Nat.succ.inj hl)
theorem nl {P : List Value → Prop} (h : P []) : ∀ ys : List Value, ys.length = 0 → P ys := fun ys hl => by
  cases ys with
  | nil => exact h
  | cons y ys => cases hl
theorem bind1 {fd : FuncData} {x1 : Str} (h : ∀ y1, bindArgs fd ⟨[y1], []⟩ = pure [(x1, y1)]) : BindOK fd [x1] :=
  un (P := fun ys => bindArgs fd ⟨ys, []⟩ = pure (List.zip [x1] (ys))) fun y1 => nl (P := fun ys => bindArgs fd ⟨y1 :: ys, []⟩ = pure (List.zip [x1] (y1 :: ys))) (h y1)
theorem bind2 {fd : FuncData} {x1 x2 : Str} (h : ∀ y1 y2, bindArgs fd ⟨[y1, y2], []⟩ = pure [(x1, y1), (x2, y2)]) : BindOK fd [x1, x2] :=
  un (P := fun ys => bindArgs fd ⟨ys, []⟩ = pure (List.zip [x1, x2] (ys))) fun y1 => un (P := fun ys => bindArgs fd ⟨y1 :: ys, []⟩ = pure (List.zip [x1, x2] (y1 :: ys))) fun y2 => nl (P := fun ys => bindArgs fd ⟨y1 :: y2 :: ys, []⟩ = pure (List.zip [x1, x2] (y1 :: y2 :: ys))) (h y1 y2)
theorem bind3 {fd : FuncData} {x1 x2 x3 : Str} (h : ∀ y1 y2 y3, bindArgs fd ⟨[y1, y2, y3], []⟩ = pure [(x1, y1), (x2, y2), (x3, y3)]) : BindOK fd [x1, x2, x3] :=
  un (P := fun ys => bindArgs fd ⟨ys, []⟩ = pure (List.zip [x1, x2, x3] (ys))) fun y1 => un (P := fun ys => bindArgs fd ⟨y1 :: ys, []⟩ = pure (List.zip [x1, x2, x3] (y1 :: ys))) fun y2 => un (P := fun ys => bindArgs fd ⟨y1 :: y2 :: ys, []⟩ = pure (List.zip [x1, x2, x3] (y1 :: y2 :: ys))) fun y3 => nl (P := fun ys => bindArgs fd ⟨y1 :: y2 :: y3 :: ys, []⟩ = pure (List.zip [x1, x2, x3] (y1 :: y2 :: y3 :: ys))) (h y1 y2 y3)
theorem bind4 {fd : FuncData} {x1 x2 x3 x4 : Str} (h : ∀ y1 y2 y3 y4, bindArgs fd ⟨[y1, y2, y3, y4], []⟩ = pure [(x1, y1), (x2, y2), (x3, y3), (x4, y4)]) : BindOK fd [x1, x2, x3, x4] :=
  un (P := fun ys => bindArgs fd ⟨ys, []⟩ = pure (List.zip [x1, x2, x3, x4] (ys))) fun y1 => un (P := fun ys => bindArgs fd ⟨y1 :: ys, []⟩ = pure (List.zip [x1, x2, x3, x4] (y1 :: ys))) fun y2 => un (P := fun ys => bindArgs fd ⟨y1 :: y2 :: ys, []⟩ = pure (List.zip [x1, x2, x3, x4] (y1 :: y2 :: ys))) fun y3 => un (P := fun ys => bindArgs fd ⟨y1 :: y2 :: y3 :: ys, []⟩ = pure (List.zip [x1, x2, x3, x4] (y1 :: y2 :: y3 :: ys))) fun y4 => nl (P := fun ys => bindArgs fd ⟨y1 :: y2 :: y3 :: y4 :: ys, []⟩ = pure (List.zip [x1, x2, x3, x4] (y1 :: y2 :: y3 :: y4 :: ys))) (h y1 y2 y3 y4)
theorem bind5 {fd : FuncData} {x1 x2 x3 x4 x5 : Str} (h : ∀ y1 y2 y3 y4 y5, bindArgs fd ⟨[y1, y2, y3, y4, y5], []⟩ = pure [(x1, y1), (x2, y2), (x3, y3), (x4, y4), (x5, y5)]) : BindOK fd [x1, x2, x3, x4, x5] :=
  un (P := fun ys => bindArgs fd ⟨ys, []⟩ = pure (List.zip [x1, x2, x3, x4, x5] (ys))) fun y1 => un (P := fun ys => bindArgs fd ⟨y1 :: ys, []⟩ = pure (List.zip [x1, x2, x3, x4, x5] (y1 :: ys))) fun y2 => un (P := fun ys => bindArgs fd ⟨y1 :: y2 :: ys, []⟩ = pure (List.zip [x1, x2, x3, x4, x5] (y1 :: y2 :: ys))) fun y3 => un (P := fun ys => bindArgs fd ⟨y1 :: y2 :: y3 :: ys, []⟩ = pure (List.zip [x1, x2, x3, x4, x5] (y1 :: y2 :: y3 :: ys))) fun y4 => un (P := fun ys => bindArgs fd ⟨y1 :: y2 :: y3 :: y4 :: ys, []⟩ = pure (List.zip [x1, x2, x3, x4, x5] (y1 :: y2 :: y3 :: y4 :: ys))) fun y5 => nl (P := fun ys => bindArgs fd ⟨y1 :: y2 :: y3 :: y4 :: y5 :: ys, []⟩ = pure (List.zip [x1, x2, x3, x4, x5] (y1 :: y2 :: y3 :: y4 :: y5 :: ys))) (h y1 y2 y3 y4 y5)
noncomputable def isEmp {α : Type} : List α → Bool | [] => true | _ => false
theorem isEmp_ok {α : Type} {l : List α} (h : isEmp l = true) : l = [] := by cases l; rfl; cases h
noncomputable def fdOf (o : Option Obj) : Option FuncData := match o with | some o => (match o.data with | .func fd => some fd | _ => none) | none => none
noncomputable def kindB (sc : Scope) (x : Str) : Bool := sc.names.any fun p => p.1 == x && (match p.2 with | .local => true | .cell => true | _ => false)
noncomputable def chkFd (K : Frag) (fd : FuncData) (ps : List Str) : Bool := decide ps.Nodup && (isEmp fd.closure && (decide (fd.globals = mainGlobals) && (decide (fd.builtins = builtinsNs) && (codeIn K fd.code fd.qualname &&
  (!fd.scope.isCoroutine && (!fd.scope.isGenerator && (decide (fd.scope.kind = .function) && (ps.all (kindB fd.scope) && scOK fd.scope))))))))
theorem kindB_ok {sc : Scope} {x : Str} (h : kindB sc x = true) : StoreIn false sc x := by
  obtain ⟨⟨y, k⟩, hp, h⟩ := List.any_eq_true.mp h
  obtain ⟨h1, h2⟩ := and2 h
  obtain rfl : y = x := eq_of_beq h1
  cases k with
  | «local» => exact .inl hp
  | cell => exact .inr ⟨rfl, hp⟩
  | _ => cases h2
structure DefK (K : Frag) (a : Addr) (ps : List Str) (scope : Scope) (body : List PySem.Stmt) : Prop where
  body : (fdOf (K.lookup a)).map (·.body) = some (.stmts body)
  scope : (fdOf (K.lookup a)).map (·.scope) = some scope
  chk : (fdOf (K.lookup a)).any (fun fd => chkFd K fd ps) = true
  bind : ∀ fd, fdOf (K.lookup a) = some fd → BindOK fd ps
theorem fdIs {K : Frag} {a : Addr} {o : Obj} {fd0 : FuncData} {ps : List Str} (h : K.lookup a = some o) (hd : o.data = .func fd0) (hb : BindOK fd0 ps) : ∀ fd, fdOf (K.lookup a) = some fd → BindOK fd ps := fun fd e => by
  rw [h] at e
  unfold fdOf at e
  dsimp only at e
  rw [hd] at e
  rw [← Option.some.inj e]; exact hb
theorem DefK.at {X : Cx} {a : Addr} {ps : List Str} {scope : Scope} {body : List PySem.Stmt} (h : DefK X.K a ps scope body) : DefAt X a ps scope body := by
  obtain ⟨hb, hs, hc, hbd⟩ := h
  cases ho : X.K.lookup a with
  | none => rw [ho] at hb; cases hb
  | some o =>
  rw [ho] at hb hs hc hbd
  cases hd : o.data with
  | func fd =>
    have e : fdOf (some o) = some fd := by unfold fdOf; dsimp only; rw [hd]
    have hbd := hbd fd e
    rw [e] at hb hs hc
    have hb := Option.some.inj hb
    obtain rfl := Option.some.inj hs
    have hc : chkFd X.K fd ps = true := hc
    obtain ⟨g2, h⟩ := and2 hc; obtain ⟨g4, h⟩ := and2 h; obtain ⟨g5, h⟩ := and2 h; obtain ⟨g6, h⟩ := and2 h; obtain ⟨g7, h⟩ := and2 h
    obtain ⟨g8, h⟩ := and2 h; obtain ⟨g9, h⟩ := and2 h; obtain ⟨g10, h⟩ := and2 h; obtain ⟨g11, g12⟩ := and2 h
    have nt : ∀ {b : Bool}, (!b) = true → b = false := fun {b} h => by cases b; rfl; cases h
    exact ⟨⟨o, fd, ho, hd, hb, rfl, isEmp_ok g4, of_decide_eq_true g5, of_decide_eq_true g6, g7, hbd⟩, nt g8, nt g9, of_decide_eq_true g10, fun p hp => kindB_ok (List.all_eq_true.mp g11 p hp), of_decide_eq_true g2, g12⟩
  | _ => have e : fdOf (some o) = none := by { unfold fdOf; dsimp only; rw [hd] }; rw [e] at hb; cases hb
theorem key_all : ∀ (l : List DictEntry) (xs : List Str), l.map (fun e => match e.key with | .str x _ => some x | _ => none) = xs.map some → ∀ x, (l.find? fun e => Value.isStrOf x e.key).isSome = xs.contains x
  | [], [], _, x => rfl
  | [], _ :: _, h, _ => by simp at h
  | _ :: _, [], h, _ => by simp at h
  | e :: l, y :: xs, h, x => by
    rw [List.map_cons, List.map_cons, List.cons.injEq] at h
    obtain ⟨h1, h2⟩ := h
    rw [List.find?_cons, List.contains_cons, ← key_all l xs h2 x]
    cases hk : e.key with
    | str z t =>
      rw [hk] at h1
      obtain rfl : z = y := Option.some.inj h1
      have e2 : (x == z) = (z == x) := by
        by_cases q : x = z
        · subst q; rfl
        · rw [beq_eq_false_iff_ne.mpr q, beq_eq_false_iff_ne.mpr (Ne.symm q)]
      rw [e2]
      show (match z == x with | true => some e | false => _).isSome = _
      cases z == x <;> rfl
    | _ => rw [hk] at h1; cases h1
theorem keysLit_of {P : Params} : ∀ {l : List DictEntry} {xs : List Str} {ts : List Tok}, l.map (fun e => (e.hash, e.key)) = (xs.zip ts).map (fun x => (PyData.keyHash P x.1, Value.str x.1 x.2)) → KeysLit P l
  | [], _, _, _ => trivial
  | e :: l, [], _, h => by simp at h
  | e :: l, _ :: _, [], h => by simp at h
  | e :: l, x :: xs, t :: ts, h => by
    rw [List.map_cons, List.zip_cons_cons, List.map_cons, List.cons.injEq, Prod.mk.injEq] at h
    exact ⟨⟨x, t, h.1.2, h.1.1⟩, keysLit_of h.2⟩
theorem vrs_strs {h : Heap} : ∀ (xs : List Str) (ts : List Tok), xs.length = ts.length → VRs h (xs.map .str) ((xs.zip ts).map fun x => Value.str x.1 x.2)
  | [], [], _ => .nil
  | [], _ :: _, h => by simp at h
  | _ :: _, [], h => by simp at h
  | x :: xs, t :: ts, h => .cons (.str x t) (vrs_strs xs ts (by simpa using h))
structure TabK (P : Params) (K : Frag) (es0 : Array DictEntry) (x : Str) (a : Addr) (es : Array DictEntry) (k : Nat) (ks : List Str) (ts : List Tok) : Prop where
  mg : nsFind es0 x = some (.ref a)
  look : K.lookup a = some ⟨.type "dict", none, .dict es k, #[]⟩
  keys : es.toList.map (fun e => (e.hash, e.key)) = (ks.zip ts).map (fun x => (PyData.keyHash P x.1, Value.str x.1 x.2))
  names : es.toList.map (fun e => match e.key with | .str x _ => some x | _ => none) = ks.map some
theorem TabK.at {X : Cx} {es0 es : Array DictEntry} {x : Str} {a : Addr} {k : Nat} {ks : List Str} {ts : List Tok} (hm : ∀ x, X.mg x = nsFind es0 x) (h : TabK X.w.params X.K es0 x a es k ks ts) (hs : (a == sysModules) = false) : GlobD X x ks :=
  ⟨a, es, k, (hm _).trans h.mg, h.look, keysLit_of h.keys, hs, fun z => by
    rw [← key_all _ _ h.names z]
    unfold findBy
    rw [Option.isSome_map, ← Array.find?_toList]⟩
theorem mainK (P : Params) : (K0 P).lookup 3 = some (ko3 P) := by kernel_rfl
noncomputable def esMain (P : Params) : Array DictEntry := match (ko3 P).data with | .dict es _ => es | _ => #[]
theorem mg_main {w : World} {mg : Str → Option Value} {h : Heap} (kin : (K0 w.params).In h) (ng : h.Ns mainGlobals mg) : ∀ x, mg x = nsFind (esMain w.params) x := by
  intro x
  obtain ⟨o, es, ep, h1, h2, _, h3⟩ := ng
  have e := kin 3 _ (mainK w.params)
  have : o = ko3 w.params := Option.some.inj (h1.symm.trans e)
  subst this
  rw [← h3 x]
  unfold esMain
  rw [h2]
noncomputable def cA0 : Cls → Addr | .step => 31 | .block => 52 | .func => 73
theorem cls0 (X : Cx) (hK : X.K = K0 X.w.params) (hc : X.cA = cA0) : ClsOK X := by
  refine ⟨?_, ?_, ?_, ?_, ?_, ?_⟩ <;> rw [hK, hc] <;> generalize X.w.params = P
  · intro c f; cases c <;> kernel_rfl
  · intro c; cases c <;> kernel_rfl
  · intro c f; cases c <;> cases f <;> kernel_rfl
  · intro c; cases c <;> kernel_rfl
  · intro c; cases c <;> kernel_rfl
  · intro c; cases c <;> kernel_rfl
theorem mgB (P : Params) : (["len", "list", "sorted", "any", "all", "sum", "int", "abs", "min", "set", "range", "enumerate", "zip", "isinstance", "bool"] : List String).all (fun x => (nsFind (esMain P) (Str.ofString x)).isNone) = true := by kernel_rfl
theorem fnB (x : String) (h : x ∈ (["len", "sorted", "any", "all", "sum", "abs", "min", "isinstance"] : List String)) : Str.ofString x ≠ "__name__" ∧ bootBuiltins (Str.ofString x) = some (.builtin x) := by
  simp only [List.mem_cons, List.not_mem_nil, or_false] at h
  rcases h with rfl | rfl | rfl | rfl | rfl | rfl | rfl | rfl <;> exact ⟨by decide +kernel, by kernel_rfl⟩
theorem tyB (x : String) (h : x ∈ (["list", "int", "set", "range", "enumerate", "zip", "bool"] : List String)) : Str.ofString x ≠ "__name__" ∧ bootBuiltins (Str.ofString x) = some (.type x) := by
  simp only [List.mem_cons, List.not_mem_nil, or_false] at h
  rcases h with rfl | rfl | rfl | rfl | rfl | rfl | rfl <;> exact ⟨by decide +kernel, by kernel_rfl⟩
theorem blt0 (X : Cx) (hm : ∀ x, X.mg x = nsFind (esMain X.w.params) x) (hb : ∀ x : Str, x ≠ "__name__" → X.mb x = bootBuiltins x) : BltOK X :=
  ⟨fun x hx => by rw [hm]; exact Option.isNone_iff_eq_none.mp (List.all_eq_true.mp (mgB X.w.params) x hx), fun x hx => (hb _ (fnB x hx).1).trans (fnB x hx).2, fun x hx => (hb _ (tyB x hx).1).trans (tyB x hx).2⟩
theorem defName {X : Cx} {x : Str} {a : Addr} (hK : X.K = K0 X.w.params) (hm : ∀ x, X.mg x = nsFind (esMain X.w.params) x) (h : ∀ P, nsFind (esMain P) x = some (.ref a) ∧ keepIn (K0 P) (.ref a) = true) : DefName X x a := ⟨(hm _).trans (h _).1, by rw [hK]; exact (h _).2⟩
theorem clsName {X : Cx} {x : Str} {k : Cls} {a : Addr} (hK : X.K = K0 X.w.params) (hc : X.cA = cA0) (hm : ∀ x, X.mg x = nsFind (esMain X.w.params) x) (h : ∀ P, nsFind (esMain P) x = some (.ref (cA0 k)) ∧ keepIn (K0 P) (.ref (cA0 k)) = true ∧ findIn (K0 P) (.ref (cA0 k)) "__init__" = some (some (.ref a)) ∧ typeIn (K0 P) (.ref a) = some (.type "function")) : ClsName X x k a := by
  obtain ⟨h1, h2, h3, h4⟩ := h X.w.params
  exact ⟨by rw [hc]; exact (hm _).trans h1, by rw [hK, hc]; exact h2, by rw [hK, hc]; exact h3, by rw [hK]; exact h4⟩
theorem kf_Step (P : Params) : nsFind (esMain P) "Step" = some (.ref (cA0 .step)) ∧ keepIn (K0 P) (.ref (cA0 .step)) = true ∧ findIn (K0 P) (.ref (cA0 .step)) "__init__" = some (some (.ref a_Step)) ∧ typeIn (K0 P) (.ref a_Step) = some (.type "function") := ⟨by kernel_rfl, by kernel_rfl, by kernel_rfl, by kernel_rfl⟩
theorem kd_Step (P : Params) : DefK (K0 P) a_Step ["self", "op", "dst", "args", "more"] sc_Step (fdB (cst (pst 1))) := ⟨by kernel_rfl, by kernel_rfl, by kernel_rfl, fdIs (o := ko28 P) (by kernel_rfl) rfl (bind5 fun _ _ _ _ _ => by kernel_rfl)⟩
theorem kf_Block (P : Params) : nsFind (esMain P) "Block" = some (.ref (cA0 .block)) ∧ keepIn (K0 P) (.ref (cA0 .block)) = true ∧ findIn (K0 P) (.ref (cA0 .block)) "__init__" = some (some (.ref a_Block)) ∧ typeIn (K0 P) (.ref a_Block) = some (.type "function") := ⟨by kernel_rfl, by kernel_rfl, by kernel_rfl, by kernel_rfl⟩
theorem kd_Block (P : Params) : DefK (K0 P) a_Block ["self", "number"] sc_Block (fdB (cst (pst 2))) := ⟨by kernel_rfl, by kernel_rfl, by kernel_rfl, fdIs (o := ko49 P) (by kernel_rfl) rfl (bind2 fun _ _ => by kernel_rfl)⟩
theorem kf_Func (P : Params) : nsFind (esMain P) "Func" = some (.ref (cA0 .func)) ∧ keepIn (K0 P) (.ref (cA0 .func)) = true ∧ findIn (K0 P) (.ref (cA0 .func)) "__init__" = some (some (.ref a_Func)) ∧ typeIn (K0 P) (.ref a_Func) = some (.type "function") := ⟨by kernel_rfl, by kernel_rfl, by kernel_rfl, by kernel_rfl⟩
theorem kd_Func (P : Params) : DefK (K0 P) a_Func ["self", "name"] sc_Func (fdB (cst (pst 3))) := ⟨by kernel_rfl, by kernel_rfl, by kernel_rfl, fdIs (o := ko70 P) (by kernel_rfl) rfl (bind2 fun _ _ => by kernel_rfl)⟩
theorem kf_followers (P : Params) : nsFind (esMain P) "followers" = some (.ref a_followers) ∧ keepIn (K0 P) (.ref a_followers) = true := ⟨by kernel_rfl, by kernel_rfl⟩
theorem kd_followers (P : Params) : DefK (K0 P) a_followers ["block"] sc_followers (fdB (pst 4)) := ⟨by kernel_rfl, by kernel_rfl, by kernel_rfl, fdIs (o := ko84 P) (by kernel_rfl) rfl (bind1 fun _ => by kernel_rfl)⟩
theorem kg_ROUND (P : Params) : nsFind (esMain P) "ROUND" = some (.int 4294967296 304) := by kernel_rfl
noncomputable def esg_EFFECTS (P : Params) : Array DictEntry := match (ko85 P).data with | .dict es _ => es | _ => #[]
theorem kg_EFFECTS (P : Params) : TabK P (K0 P) (esMain P) "EFFECTS" 85 (esg_EFFECTS P) 4 ["store", "move", "call", "callreg"] [306, 308, 310, 312] := ⟨by kernel_rfl, by kernel_rfl, by kernel_rfl, by kernel_rfl⟩
noncomputable def esg_DIVISIONS (P : Params) : Array DictEntry := match (ko86 P).data with | .dict es _ => es | _ => #[]
theorem kg_DIVISIONS (P : Params) : TabK P (K0 P) (esMain P) "DIVISIONS" 86 (esg_DIVISIONS P) 4 ["div", "divu", "rem", "remu"] [319, 321, 323, 325] := ⟨by kernel_rfl, by kernel_rfl, by kernel_rfl, by kernel_rfl⟩
theorem kf_has_effect (P : Params) : nsFind (esMain P) "has_effect" = some (.ref a_has_effect) ∧ keepIn (K0 P) (.ref a_has_effect) = true := ⟨by kernel_rfl, by kernel_rfl⟩
theorem kd_has_effect (P : Params) : DefK (K0 P) a_has_effect ["step"] sc_has_effect (fdB (pst 9)) := ⟨by kernel_rfl, by kernel_rfl, by kernel_rfl, fdIs (o := ko93 P) (by kernel_rfl) rfl (bind1 fun _ => by kernel_rfl)⟩
theorem kf_can_fault (P : Params) : nsFind (esMain P) "can_fault" = some (.ref a_can_fault) ∧ keepIn (K0 P) (.ref a_can_fault) = true := ⟨by kernel_rfl, by kernel_rfl⟩
theorem kd_can_fault (P : Params) : DefK (K0 P) a_can_fault ["step"] sc_can_fault (fdB (pst 10)) := ⟨by kernel_rfl, by kernel_rfl, by kernel_rfl, fdIs (o := ko100 P) (by kernel_rfl) rfl (bind1 fun _ => by kernel_rfl)⟩
theorem kf_is_plain (P : Params) : nsFind (esMain P) "is_plain" = some (.ref a_is_plain) ∧ keepIn (K0 P) (.ref a_is_plain) = true := ⟨by kernel_rfl, by kernel_rfl⟩
theorem kd_is_plain (P : Params) : DefK (K0 P) a_is_plain ["step"] sc_is_plain (fdB (pst 11)) := ⟨by kernel_rfl, by kernel_rfl, by kernel_rfl, fdIs (o := ko107 P) (by kernel_rfl) rfl (bind1 fun _ => by kernel_rfl)⟩
theorem kf_preds (P : Params) : nsFind (esMain P) "preds" = some (.ref a_preds) ∧ keepIn (K0 P) (.ref a_preds) = true := ⟨by kernel_rfl, by kernel_rfl⟩
theorem kd_preds (P : Params) : DefK (K0 P) a_preds ["func"] sc_preds (fdB (pst 12)) := ⟨by kernel_rfl, by kernel_rfl, by kernel_rfl, fdIs (o := ko112 P) (by kernel_rfl) rfl (bind1 fun _ => by kernel_rfl)⟩
theorem kf_postorder (P : Params) : nsFind (esMain P) "postorder" = some (.ref a_postorder) ∧ keepIn (K0 P) (.ref a_postorder) = true := ⟨by kernel_rfl, by kernel_rfl⟩
theorem kd_postorder (P : Params) : DefK (K0 P) a_postorder ["func"] sc_postorder (fdB (pst 13)) := ⟨by kernel_rfl, by kernel_rfl, by kernel_rfl, fdIs (o := ko119 P) (by kernel_rfl) rfl (bind1 fun _ => by kernel_rfl)⟩
theorem kf_in_place_of (P : Params) : nsFind (esMain P) "in_place_of" = some (.ref a_in_place_of) ∧ keepIn (K0 P) (.ref a_in_place_of) = true := ⟨by kernel_rfl, by kernel_rfl⟩
theorem kd_in_place_of (P : Params) : DefK (K0 P) a_in_place_of ["step", "op", "dst", "args", "more"] sc_in_place_of (fdB (pst 14)) := ⟨by kernel_rfl, by kernel_rfl, by kernel_rfl, fdIs (o := ko126 P) (by kernel_rfl) rfl (bind5 fun _ _ _ _ _ => by kernel_rfl)⟩
noncomputable def esg_CALLS (P : Params) : Array DictEntry := match (ko127 P).data with | .dict es _ => es | _ => #[]
theorem kg_CALLS (P : Params) : TabK P (K0 P) (esMain P) "CALLS" 127 (esg_CALLS P) 2 ["call", "callreg"] [387, 389] := ⟨by kernel_rfl, by kernel_rfl, by kernel_rfl, by kernel_rfl⟩
noncomputable def esg_SELDOM_FREE (P : Params) : Array DictEntry := match (ko128 P).data with | .dict es _ => es | _ => #[]
theorem kg_SELDOM_FREE (P : Params) : TabK P (K0 P) (esMain P) "SELDOM_FREE" 128 (esg_SELDOM_FREE P) 9 ["load", "store", "move", "call", "callreg", "div", "divu", "rem", "remu"] [394, 396, 398, 400, 402, 404, 406, 408, 410] := ⟨by kernel_rfl, by kernel_rfl, by kernel_rfl, by kernel_rfl⟩
theorem kf_slot_steps (P : Params) : nsFind (esMain P) "slot_steps" = some (.ref a_slot_steps) ∧ keepIn (K0 P) (.ref a_slot_steps) = true := ⟨by kernel_rfl, by kernel_rfl⟩
theorem kd_slot_steps (P : Params) : DefK (K0 P) a_slot_steps ["func"] sc_slot_steps (fdB (pst 18)) := ⟨by kernel_rfl, by kernel_rfl, by kernel_rfl, fdIs (o := ko135 P) (by kernel_rfl) rfl (bind1 fun _ => by kernel_rfl)⟩
theorem kf_times_set (P : Params) : nsFind (esMain P) "times_set" = some (.ref a_times_set) ∧ keepIn (K0 P) (.ref a_times_set) = true := ⟨by kernel_rfl, by kernel_rfl⟩
theorem kd_times_set (P : Params) : DefK (K0 P) a_times_set ["func", "registers"] sc_times_set (fdB (pst 19)) := ⟨by kernel_rfl, by kernel_rfl, by kernel_rfl, fdIs (o := ko142 P) (by kernel_rfl) rfl (bind2 fun _ _ => by kernel_rfl)⟩
theorem kf_slot_registers (P : Params) : nsFind (esMain P) "slot_registers" = some (.ref a_slot_registers) ∧ keepIn (K0 P) (.ref a_slot_registers) = true := ⟨by kernel_rfl, by kernel_rfl⟩
theorem kd_slot_registers (P : Params) : DefK (K0 P) a_slot_registers ["func"] sc_slot_registers (fdB (pst 20)) := ⟨by kernel_rfl, by kernel_rfl, by kernel_rfl, fdIs (o := ko149 P) (by kernel_rfl) rfl (bind1 fun _ => by kernel_rfl)⟩
theorem kf_is_free (P : Params) : nsFind (esMain P) "is_free" = some (.ref a_is_free) ∧ keepIn (K0 P) (.ref a_is_free) = true := ⟨by kernel_rfl, by kernel_rfl⟩
theorem kd_is_free (P : Params) : DefK (K0 P) a_is_free ["func", "addresses", "step"] sc_is_free (fdB (pst 21)) := ⟨by kernel_rfl, by kernel_rfl, by kernel_rfl, fdIs (o := ko156 P) (by kernel_rfl) rfl (bind3 fun _ _ _ => by kernel_rfl)⟩
theorem kf_need_ahead (P : Params) : nsFind (esMain P) "need_ahead" = some (.ref a_need_ahead) ∧ keepIn (K0 P) (.ref a_need_ahead) = true := ⟨by kernel_rfl, by kernel_rfl⟩
theorem kd_need_ahead (P : Params) : DefK (K0 P) a_need_ahead ["func", "addresses", "block", "here"] sc_need_ahead (fdB (pst 22)) := ⟨by kernel_rfl, by kernel_rfl, by kernel_rfl, fdIs (o := ko163 P) (by kernel_rfl) rfl (bind4 fun _ _ _ _ => by kernel_rfl)⟩
theorem kf_need_behind (P : Params) : nsFind (esMain P) "need_behind" = some (.ref a_need_behind) ∧ keepIn (K0 P) (.ref a_need_behind) = true := ⟨by kernel_rfl, by kernel_rfl⟩
theorem kd_need_behind (P : Params) : DefK (K0 P) a_need_behind ["block", "ahead"] sc_need_behind (fdB (pst 23)) := ⟨by kernel_rfl, by kernel_rfl, by kernel_rfl, fdIs (o := ko170 P) (by kernel_rfl) rfl (bind2 fun _ _ => by kernel_rfl)⟩
theorem kf_needs_ahead (P : Params) : nsFind (esMain P) "needs_ahead" = some (.ref a_needs_ahead) ∧ keepIn (K0 P) (.ref a_needs_ahead) = true := ⟨by kernel_rfl, by kernel_rfl⟩
theorem kd_needs_ahead (P : Params) : DefK (K0 P) a_needs_ahead ["func", "addresses"] sc_needs_ahead (fdB (pst 24)) := ⟨by kernel_rfl, by kernel_rfl, by kernel_rfl, fdIs (o := ko177 P) (by kernel_rfl) rfl (bind2 fun _ _ => by kernel_rfl)⟩
theorem kf_without_register (P : Params) : nsFind (esMain P) "without_register" = some (.ref a_without_register) ∧ keepIn (K0 P) (.ref a_without_register) = true := ⟨by kernel_rfl, by kernel_rfl⟩
theorem kd_without_register (P : Params) : DefK (K0 P) a_without_register ["step"] sc_without_register (fdB (pst 25)) := ⟨by kernel_rfl, by kernel_rfl, by kernel_rfl, fdIs (o := ko184 P) (by kernel_rfl) rfl (bind1 fun _ => by kernel_rfl)⟩
theorem kf_swept_steps (P : Params) : nsFind (esMain P) "swept_steps" = some (.ref a_swept_steps) ∧ keepIn (K0 P) (.ref a_swept_steps) = true := ⟨by kernel_rfl, by kernel_rfl⟩
theorem kd_swept_steps (P : Params) : DefK (K0 P) a_swept_steps ["func", "addresses", "block", "here"] sc_swept_steps (fdB (pst 26)) := ⟨by kernel_rfl, by kernel_rfl, by kernel_rfl, fdIs (o := ko191 P) (by kernel_rfl) rfl (bind4 fun _ _ _ _ => by kernel_rfl)⟩
theorem kf_sweep_steps (P : Params) : nsFind (esMain P) "sweep_steps" = some (.ref a_sweep_steps) ∧ keepIn (K0 P) (.ref a_sweep_steps) = true := ⟨by kernel_rfl, by kernel_rfl⟩
theorem kd_sweep_steps (P : Params) : DefK (K0 P) a_sweep_steps ["func", "addresses"] sc_sweep_steps (fdB (pst 27)) := ⟨by kernel_rfl, by kernel_rfl, by kernel_rfl, fdIs (o := ko196 P) (by kernel_rfl) rfl (bind2 fun _ _ => by kernel_rfl)⟩
theorem kf_is_plain_store (P : Params) : nsFind (esMain P) "is_plain_store" = some (.ref a_is_plain_store) ∧ keepIn (K0 P) (.ref a_is_plain_store) = true := ⟨by kernel_rfl, by kernel_rfl⟩
theorem kd_is_plain_store (P : Params) : DefK (K0 P) a_is_plain_store ["func", "step", "place", "slot"] sc_is_plain_store (fdB (pst 28)) := ⟨by kernel_rfl, by kernel_rfl, by kernel_rfl, fdIs (o := ko203 P) (by kernel_rfl) rfl (bind4 fun _ _ _ _ => by kernel_rfl)⟩
theorem kf_taken_slots (P : Params) : nsFind (esMain P) "taken_slots" = some (.ref a_taken_slots) ∧ keepIn (K0 P) (.ref a_taken_slots) = true := ⟨by kernel_rfl, by kernel_rfl⟩
theorem kd_taken_slots (P : Params) : DefK (K0 P) a_taken_slots ["func", "addresses", "taken"] sc_taken_slots (fdB (pst 29)) := ⟨by kernel_rfl, by kernel_rfl, by kernel_rfl, fdIs (o := ko210 P) (by kernel_rfl) rfl (bind3 fun _ _ _ => by kernel_rfl)⟩
theorem kf_is_store_to (P : Params) : nsFind (esMain P) "is_store_to" = some (.ref a_is_store_to) ∧ keepIn (K0 P) (.ref a_is_store_to) = true := ⟨by kernel_rfl, by kernel_rfl⟩
theorem kd_is_store_to (P : Params) : DefK (K0 P) a_is_store_to ["step", "addresses", "taken"] sc_is_store_to (fdB (pst 30)) := ⟨by kernel_rfl, by kernel_rfl, by kernel_rfl, fdIs (o := ko217 P) (by kernel_rfl) rfl (bind3 fun _ _ _ => by kernel_rfl)⟩
theorem kf_sweep_stores (P : Params) : nsFind (esMain P) "sweep_stores" = some (.ref a_sweep_stores) ∧ keepIn (K0 P) (.ref a_sweep_stores) = true := ⟨by kernel_rfl, by kernel_rfl⟩
theorem kd_sweep_stores (P : Params) : DefK (K0 P) a_sweep_stores ["func", "addresses", "taken"] sc_sweep_stores (fdB (pst 31)) := ⟨by kernel_rfl, by kernel_rfl, by kernel_rfl, fdIs (o := ko222 P) (by kernel_rfl) rfl (bind3 fun _ _ _ => by kernel_rfl)⟩
theorem kf_sweep_func (P : Params) : nsFind (esMain P) "sweep_func" = some (.ref a_sweep_func) ∧ keepIn (K0 P) (.ref a_sweep_func) = true := ⟨by kernel_rfl, by kernel_rfl⟩
theorem kd_sweep_func (P : Params) : DefK (K0 P) a_sweep_func ["func"] sc_sweep_func (fdB (pst 32)) := ⟨by kernel_rfl, by kernel_rfl, by kernel_rfl, fdIs (o := ko229 P) (by kernel_rfl) rfl (bind1 fun _ => by kernel_rfl)⟩
theorem kg_law_TWO (P : Params) : nsFind (esMain P) "_law_TWO" = some (.ref 230) ∧ (K0 P).lookup 230 = some ⟨.type "tuple", none, .seq (((["add", "sub", "mul", "and", "or", "xor", "shl", "shr", "sar", "lt", "ltu", "eq", "ne", "div", "divu", "rem", "remu"] : List Str).zip [590, 591, 592, 593, 594, 595, 596, 597, 598, 599, 600, 601, 602, 603, 604, 605, 606]).map fun x => Value.str x.1 x.2).toArray 0, #[]⟩ := ⟨by kernel_rfl, by kernel_rfl⟩
theorem kg_law_ONE (P : Params) : nsFind (esMain P) "_law_ONE" = some (.ref 231) ∧ (K0 P).lookup 231 = some ⟨.type "tuple", none, .seq (((["neg", "not", "sx8", "sx16", "zx8", "zx16", "copy"] : List Str).zip [608, 609, 610, 611, 612, 613, 614]).map fun x => Value.str x.1 x.2).toArray 0, #[]⟩ := ⟨by kernel_rfl, by kernel_rfl⟩
theorem kf_law_swept (P : Params) : nsFind (esMain P) "_law_swept" = some (.ref a_law_swept) ∧ keepIn (K0 P) (.ref a_law_swept) = true := ⟨by kernel_rfl, by kernel_rfl⟩
theorem kd_law_swept (P : Params) : DefK (K0 P) a_law_swept ["parts", "size"] sc_law_swept (fdB (pst 36)) := ⟨by kernel_rfl, by kernel_rfl, by kernel_rfl, fdIs (o := ko236 P) (by kernel_rfl) rfl (bind2 fun _ _ => by kernel_rfl)⟩
theorem kf_law_is_right (P : Params) : nsFind (esMain P) "_law_is_right" = some (.ref a_law_is_right) ∧ keepIn (K0 P) (.ref a_law_is_right) = true := ⟨by kernel_rfl, by kernel_rfl⟩
theorem kd_law_is_right (P : Params) : DefK (K0 P) a_law_is_right ["parts", "size", "due"] sc_law_is_right (fdB (pst 37)) := ⟨by kernel_rfl, by kernel_rfl, by kernel_rfl, fdIs (o := ko241 P) (by kernel_rfl) rfl (bind3 fun _ _ _ => by kernel_rfl)⟩
theorem kf_law_idle (P : Params) : nsFind (esMain P) "_law_idle" = some (.ref a_law_idle) ∧ keepIn (K0 P) (.ref a_law_idle) = true := ⟨by kernel_rfl, by kernel_rfl⟩
theorem kd_law_idle (P : Params) : DefK (K0 P) a_law_idle ["a", "b", "size"] sc_law_idle (fdB (pst 38)) := ⟨by kernel_rfl, by kernel_rfl, by kernel_rfl, fdIs (o := ko248 P) (by kernel_rfl) rfl (bind3 fun _ _ _ => by kernel_rfl)⟩
theorem kf_law_idle_right (P : Params) : nsFind (esMain P) "_law_idle_right" = some (.ref a_law_idle_right) ∧ keepIn (K0 P) (.ref a_law_idle_right) = true := ⟨by kernel_rfl, by kernel_rfl⟩
theorem kd_law_idle_right (P : Params) : DefK (K0 P) a_law_idle_right ["a", "b", "c"] sc_law_idle_right (fdB (pst 39)) := ⟨by kernel_rfl, by kernel_rfl, by kernel_rfl, fdIs (o := ko255 P) (by kernel_rfl) rfl (bind3 fun _ _ _ => by kernel_rfl)⟩
theorem kf_law_loop_right (P : Params) : nsFind (esMain P) "_law_loop_right" = some (.ref a_law_loop_right) ∧ keepIn (K0 P) (.ref a_law_loop_right) = true := ⟨by kernel_rfl, by kernel_rfl⟩
theorem kd_law_loop_right (P : Params) : DefK (K0 P) a_law_loop_right ["a", "b"] sc_law_loop_right (fdB (pst 40)) := ⟨by kernel_rfl, by kernel_rfl, by kernel_rfl, fdIs (o := ko262 P) (by kernel_rfl) rfl (bind2 fun _ _ => by kernel_rfl)⟩
theorem kf_law_use (P : Params) : nsFind (esMain P) "_law_use" = some (.ref a_law_use) ∧ keepIn (K0 P) (.ref a_law_use) = true := ⟨by kernel_rfl, by kernel_rfl⟩
theorem kd_law_use (P : Params) : DefK (K0 P) a_law_use ["kind", "a", "size"] sc_law_use (fdB (pst 41)) := ⟨by kernel_rfl, by kernel_rfl, by kernel_rfl, fdIs (o := ko269 P) (by kernel_rfl) rfl (bind3 fun _ _ _ => by kernel_rfl)⟩
theorem kf_law_stores_right (P : Params) : nsFind (esMain P) "_law_stores_right" = some (.ref a_law_stores_right) ∧ keepIn (K0 P) (.ref a_law_stores_right) = true := ⟨by kernel_rfl, by kernel_rfl⟩
theorem kd_law_stores_right (P : Params) : DefK (K0 P) a_law_stores_right ["a", "b", "c"] sc_law_stores_right (fdB (pst 42)) := ⟨by kernel_rfl, by kernel_rfl, by kernel_rfl, fdIs (o := ko274 P) (by kernel_rfl) rfl (bind3 fun _ _ _ => by kernel_rfl)⟩
theorem kf_law (P : Params) : nsFind (esMain P) "law" = some (.ref a_law) ∧ keepIn (K0 P) (.ref a_law) = true := ⟨by kernel_rfl, by kernel_rfl⟩
theorem kd_law (P : Params) : DefK (K0 P) a_law ["script"] sc_law (fdB (pst 43)) := ⟨by kernel_rfl, by kernel_rfl, by kernel_rfl, fdIs (o := ko279 P) (by kernel_rfl) rfl (bind1 fun _ => by kernel_rfl)⟩
theorem tops0 (X : Cx) (hK : X.K = K0 X.w.params) (hc : X.cA = cA0) (hm : ∀ x, X.mg x = nsFind (esMain X.w.params) x) (hb : ∀ x : Str, x ≠ "__name__" → X.mb x = bootBuiltins x) : Tops X :=
  ⟨cls0 X hK hc, blt0 X hm hb,
   clsName hK hc hm kf_Step,
   DefK.at (by rw [hK]; exact kd_Step _),
   clsName hK hc hm kf_Block,
   DefK.at (by rw [hK]; exact kd_Block _),
   clsName hK hc hm kf_Func,
   DefK.at (by rw [hK]; exact kd_Func _),
   defName hK hm kf_followers,
   DefK.at (by rw [hK]; exact kd_followers _),
   ⟨_, (hm _).trans (kg_ROUND _), .int _ _⟩,
   TabK.at (es := esg_EFFECTS X.w.params) hm (by rw [hK]; exact kg_EFFECTS _) (by decide),
   TabK.at (es := esg_DIVISIONS X.w.params) hm (by rw [hK]; exact kg_DIVISIONS _) (by decide),
   defName hK hm kf_has_effect,
   DefK.at (by rw [hK]; exact kd_has_effect _),
   defName hK hm kf_can_fault,
   DefK.at (by rw [hK]; exact kd_can_fault _),
   defName hK hm kf_is_plain,
   DefK.at (by rw [hK]; exact kd_is_plain _),
   defName hK hm kf_preds,
   DefK.at (by rw [hK]; exact kd_preds _),
   defName hK hm kf_postorder,
   DefK.at (by rw [hK]; exact kd_postorder _),
   defName hK hm kf_in_place_of,
   DefK.at (by rw [hK]; exact kd_in_place_of _),
   TabK.at (es := esg_CALLS X.w.params) hm (by rw [hK]; exact kg_CALLS _) (by decide),
   TabK.at (es := esg_SELDOM_FREE X.w.params) hm (by rw [hK]; exact kg_SELDOM_FREE _) (by decide),
   defName hK hm kf_slot_steps,
   DefK.at (by rw [hK]; exact kd_slot_steps _),
   defName hK hm kf_times_set,
   DefK.at (by rw [hK]; exact kd_times_set _),
   defName hK hm kf_slot_registers,
   DefK.at (by rw [hK]; exact kd_slot_registers _),
   defName hK hm kf_is_free,
   DefK.at (by rw [hK]; exact kd_is_free _),
   defName hK hm kf_need_ahead,
   DefK.at (by rw [hK]; exact kd_need_ahead _),
   defName hK hm kf_need_behind,
   DefK.at (by rw [hK]; exact kd_need_behind _),
   defName hK hm kf_needs_ahead,
   DefK.at (by rw [hK]; exact kd_needs_ahead _),
   defName hK hm kf_without_register,
   DefK.at (by rw [hK]; exact kd_without_register _),
   defName hK hm kf_swept_steps,
   DefK.at (by rw [hK]; exact kd_swept_steps _),
   defName hK hm kf_sweep_steps,
   DefK.at (by rw [hK]; exact kd_sweep_steps _),
   defName hK hm kf_is_plain_store,
   DefK.at (by rw [hK]; exact kd_is_plain_store _),
   defName hK hm kf_taken_slots,
   DefK.at (by rw [hK]; exact kd_taken_slots _),
   defName hK hm kf_is_store_to,
   DefK.at (by rw [hK]; exact kd_is_store_to _),
   defName hK hm kf_sweep_stores,
   DefK.at (by rw [hK]; exact kd_sweep_stores _),
   defName hK hm kf_sweep_func,
   DefK.at (by rw [hK]; exact kd_sweep_func _),
   ⟨_, (hm _).trans (kg_law_TWO _).1, .tup' (X.kin _ _ (by rw [hK]; exact (kg_law_TWO _).2)) (vrs_strs (["add", "sub", "mul", "and", "or", "xor", "shl", "shr", "sar", "lt", "ltu", "eq", "ne", "div", "divu", "rem", "remu"] : List Str) [590, 591, 592, 593, 594, 595, 596, 597, 598, 599, 600, 601, 602, 603, 604, 605, 606] rfl)⟩,
   ⟨_, (hm _).trans (kg_law_ONE _).1, .tup' (X.kin _ _ (by rw [hK]; exact (kg_law_ONE _).2)) (vrs_strs (["neg", "not", "sx8", "sx16", "zx8", "zx16", "copy"] : List Str) [608, 609, 610, 611, 612, 613, 614] rfl)⟩,
   defName hK hm kf_law_swept,
   DefK.at (by rw [hK]; exact kd_law_swept _),
   defName hK hm kf_law_is_right,
   DefK.at (by rw [hK]; exact kd_law_is_right _),
   defName hK hm kf_law_idle,
   DefK.at (by rw [hK]; exact kd_law_idle _),
   defName hK hm kf_law_idle_right,
   DefK.at (by rw [hK]; exact kd_law_idle_right _),
   defName hK hm kf_law_loop_right,
   DefK.at (by rw [hK]; exact kd_law_loop_right _),
   defName hK hm kf_law_use,
   DefK.at (by rw [hK]; exact kd_law_use _),
   defName hK hm kf_law_stores_right,
   DefK.at (by rw [hK]; exact kd_law_stores_right _),
   defName hK hm kf_law,
   DefK.at (by rw [hK]; exact kd_law _)⟩
end
section
set_option maxRecDepth 100000
set_option maxHeartbeats 4000000
theorem said0 : OpenLaw.wellSaid PySem.Challenge.rw_nm0021_03 = true := by decide +kernel
theorem hd0 (H : WalkO q0 loose0 (XL q0 []) (kHook K0 as0 K0e).says rw0.row.toRowW ⟨"law", fdA (pst 43), fdB (pst 43), fdS (pst 43), (match pst 43 with | .FunctionDef _ _ _ _ _ _ _ _ _ p => p | _ => ⟨0,0,0,0⟩)⟩ [] fun f vs => PySem.call f vs) : PySem.Challenge.rw_nm0021_03.Holds := by
  w_on
  refine holds_law said0 fun said => ?_
  refine holds_open (q := q0) (loose := loose0) (Xt := fun s => xlAt q0 [] s && recOk (RowW.records rw0.row.toRowW) s) (XP := XL q0 []) (Yf := (kHook K0 as0 K0e).obs) (Ya := (kHook K0 as0 K0e).val) (YP := (kHook K0 as0 K0e).says) (N := 4250) left0
    (Hook.of _) (Hook.keeps _) (fun s e => xl_of s (Bool.and_eq_true_iff.mp e).1) XL.keeps (by rfl) (by rfl) (by rfl) (fun s e => recFacts_of (Bool.and_eq_true_iff.mp e).2) (by rfl) (by first | assumption | decide +kernel) (by decide +kernel) ⟨rfl, rfl, rfl, rfl, rfl, by decide +kernel⟩ ?hw H
  case hw => w_witness2
theorem rep_start {X : Cx} {h : Heap} : Rep X h.get? (fun _ => none) h where
  keep := fun _ _ e => e
  low := fun a g e => by cases e
  own := fun a g e => by cases e
  dsep := fun a c fs o d e => by cases e
theorem cap_ints {ns : List Int} (h : ns.length ≤ 63) : (ns.map Val.int).length ≤ 2 * cap := by rw [List.length_map]; unfold cap; omega
theorem law_of : PySem.Challenge.rw_nm0021_03.Holds := by
  refine hd0 ?_
  intro w s₀ s₁ mg mb G Y fa o pm cd doc dV kV ho hd hcd hD hmg hg args vals as hpre hlay hrd hwl hlo
  have KX := kIn_of Y
  wrow_args hpre hlay hrd hwl hlo
  rename_i ns _ _ _ _ _ _ _ l lv _ hL _ _ _ hI _ hlen _
  have hm := mg_main KX G.T.g
  have T := tops0 { prog := rw0.row.prog, w := w, K := K0 w.params, H0 := s₁.heap, mg := mg, mb := mb, cA := cA0, kin := KX, ng := G.T.g, nb := G.T.b, lim := G.T.nolimit } rfl rfl hm G.T.builtins
  have hfa : fa = a_law := by
    have e2 := (hm "law").trans (kf_law w.params).1
    have e3 : mg "law" = some (.ref fa) := hmg
    rw [e3] at e2
    cases e2; rfl
  subst hfa
  have hv0 : VRs s₁.heap (ns.map .int) lv.toArray.toList := by rw [List.toList_toArray]; exact vrs_ints hI
  refine wpAny_call (Cal.go (sp_law (n := 9) (G := fun _ => none) (Q := fun v _ => v = .bool true) T ⟨cap_ints (by omega), _, hL, hv0⟩ fun _ => rfl) (b := s₁.heap.get?) ⟨rfl, by decide +kernel, by decide +kernel⟩ ?_ rep_start (.cons (.ref _) .nil) ?_)
  · exact fun _ _ e => e
  rintro v s' ⟨u, G', hv, hr, ⟨tk, hgen, hos⟩, rfl⟩
  rw [hv.bool_inv]
  exact ⟨.inl ⟨_, .bool true, [], rfl, fun _ => rfl, .bool _, by kernel_rfl, fun _ => ⟨List.nodup_nil, fun a h => by cases h⟩⟩, .of_keep fun b o e => hr.keep b o e, hos, .of_eq (hgen.trans hg)⟩
end
end Mine
theorem PySem.Challenge.cw_nm0021_03_holds : PySem.Challenge.rw_nm0021_03.Holds :=
  Mine.law_of
