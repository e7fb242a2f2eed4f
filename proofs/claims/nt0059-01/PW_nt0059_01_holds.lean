import PyProof.Rows.All
import Wide.All
import OpenK.AllK
import Wide.FinOn
import PySem.Challenge.RW_nt0059_01
set_option Elab.async false
set_option autoImplicit false
set_option genSizeOf false
set_option genInjectivity false
set_option bootstrap.genMatcherCode false
set_option maxRecDepth 1000000
set_option linter.all false
set_option tactic.hygienic false
open PySem PySem.W PyProof.Rows
namespace Mine
section
set_option genInjectivity true
theorem mid_lt {l r : Nat} (h : l < r) : (l + r) / 2 < r := Nat.div_lt_of_lt_mul (Nat.two_mul r ▸ Nat.add_lt_add_right h r)
theorem mid_le {l r : Nat} (h : l ≤ r) : l ≤ (l + r) / 2 := (Nat.le_div_iff_mul_le Nat.two_pos).mpr (Nat.mul_two l ▸ Nat.add_le_add_left h l)
theorem sb_le {a i f : Nat} (h : a - i ≤ f + 1) : a - (i + 1) ≤ f := Nat.pred_le_pred h
theorem sb_k {a i k : Nat} (h : a - i = k + 1) : a - (i + 1) = k := congrArg Nat.pred h
theorem sb_eq {a i : Nat} (h : i < a) : a - i = a - (i + 1) + 1 := (Nat.sub_add_cancel (Nat.sub_pos_of_lt h)).symm
theorem sb_lt {a i : Nat} (h : i < a) : a - (i + 1) < a - i := Nat.sub_succ_lt_self a i h
theorem pr_eq {a : Nat} (h : a ≠ 0) : a = a - 1 + 1 := (Nat.succ_pred h).symm
theorem pr_lt {a n : Nat} (h : 1 ≤ a) (h' : a ≤ n) : a - 1 < n := Nat.lt_of_lt_of_le (Nat.sub_one_lt_of_lt h) h'
theorem mid_s1 {l r f : Nat} (h : l < r) (h3 : r - l ≤ f + 1) : (l + r) / 2 - l ≤ f :=
  Nat.le_of_lt_succ (Nat.lt_of_lt_of_le (Nat.sub_lt_sub_right (mid_le (Nat.le_of_lt h)) (mid_lt h)) h3)
theorem mid_s2 {l r f : Nat} (h : l ≤ r) (h3 : r - l ≤ f + 1) : r - ((l + r) / 2 + 1) ≤ f :=
  Nat.le_trans (Nat.sub_le_sub_left (Nat.succ_le_succ (mid_le h)) r) (Nat.pred_le_pred h3)
theorem cast_pr {a : Nat} (h : 0 < a) : (a : Int) - 1 = ((a - 1 : Nat) : Int) := (Int.ofNat_sub h).symm
theorem nab {a b : Nat} (h : a < b) : (a : Int).natAbs < b := h
theorem lmap {α β : Type} {f : α → β} {l : List α} {n : Nat} (h : l.length ≤ n) : (l.map f).length ≤ n := (List.length_map f).symm ▸ h
theorem ldrop {α : Type} {l : List α} {k n : Nat} (h : l.length ≤ n) : (l.drop k).length ≤ n := List.length_drop (l := l) ▸ Nat.le_trans (Nat.sub_le _ _) h
theorem ltake {α : Type} {l : List α} {k n : Nat} (h : l.length ≤ n) : (l.take k).length ≤ n := Nat.le_trans (List.length_take_le' _ _) h
theorem half {a m : Nat} (h : a + 2 * m ≤ 100) : m ≤ 50 := Nat.le_of_mul_le_mul_left (Nat.le_trans (Nat.le_add_left _ _) h) Nat.two_pos
theorem ar9 {a e m : Nat} (h : a + 2 * (m + 1) ≤ 100) (he : e ≤ 2) : a + e + 2 * m ≤ 100 := by lia
theorem nab1 {a b : Nat} (h : a + 1 ≤ b) : ((a : Int) + 1).natAbs ≤ b := h
theorem g_lt {α : Type} {l : List α} {i : Nat} {x : α} (h : l[i]? = some x) : i < l.length := (List.getElem?_eq_some_iff.mp h).1
theorem ga_lt {α : Type} {l : Array α} {i : Nat} {x : α} (h : l[i]? = some x) : i < l.size := (Array.getElem?_eq_some_iff.mp h).1
theorem two_le {a b : Nat} (h : a ≤ b) : a ≤ 2 * b := Nat.le_trans h (Nat.le_mul_of_pos_left b Nat.two_pos)
theorem nrng {a : Int} (h : a.natAbs ≤ 1000000000) : -(2 ^ 62) ≤ a ∧ a < 2 ^ 62 := by lia
theorem sub1z (n : Nat) : ((n : Int) - 1 = ((n - 1 : Nat) : Int)) ∨ (n - 1 = 0 ∧ (n : Int) - 1 ≤ 0) := by
  cases n with
  | zero => exact .inr ⟨rfl, by decide⟩
  | succ n => exact .inl (Int.add_sub_cancel (n : Int) 1)
theorem nabs1 {n b : Nat} (h : n ≤ b) (hb : 1 ≤ b) : ((n : Int) - 1).natAbs ≤ b := by
  cases n with
  | zero => exact hb
  | succ n => exact (Int.add_sub_cancel (n : Int) 1).symm ▸ Nat.le_of_succ_le h
theorem lt_sub1 {a b : Nat} (h : a < b - 1) : a + 1 < b := Nat.add_lt_of_lt_sub h
theorem ad1 {a b x y : Nat} (h : a + x ≤ b) (e : x = y + 1) : a + 1 + y ≤ b := by subst e; exact Nat.succ_add_eq_add_succ a y ▸ h
theorem small4 {a b : Nat} (h : a + 1 + b ≤ 900) : a ≤ 1000 := Nat.le_trans (Nat.le_of_succ_le (Nat.le_trans (Nat.le_add_right _ _) h)) (by decide)
theorem max1 (x : Nat) : max (1 : Int) x = ((max 1 x : Nat) : Int) := by
  cases x with
  | zero => rfl
  | succ k =>
    have h := Nat.succ_le_succ (Nat.zero_le k)
    exact (Int.max_eq_right (Int.ofNat_le.mpr h)).trans (congrArg Int.ofNat (Nat.max_eq_right h).symm)
theorem lapp {α : Type} {l m : List α} {a b n : Nat} (h1 : l.length ≤ a) (h2 : m.length ≤ b) (h3 : a + b ≤ n) : (l ++ m).length ≤ n := by
  rw [List.length_append]; exact Nat.le_trans (Nat.add_le_add h1 h2) h3
theorem nabs2 {n : Nat} (h : n ≤ 100) : ((n : Int) - 1).natAbs < 2 ^ 60 := Nat.lt_of_le_of_lt (nabs1 h (by decide)) (by decide)
inductive V where
  | none | bool (b : Bool) | int (i : Int) | str (s : Str) | tup (l : List V) | ref (a : Addr)
mutual
inductive VR (h : Heap) : V → Value → Prop
  | none : VR h .none .none
  | bool (b : Bool) : VR h (.bool b) (.bool b)
  | int (i : Int) (t : Tok) : VR h (.int i) (.int i t)
  | str (s : Str) (t : Tok) : VR h (.str s) (.str s t)
  | tup {a : Addr} {l : List V} {items : Array Value} : IsTup h a items → VRs h l items.toList → VR h (.tup l) (.ref a)
  | ref (a : Addr) : VR h (.ref a) (.ref a)
inductive VRs (h : Heap) : List V → List Value → Prop
  | nil : VRs h [] []
  | cons {v : V} {x : Value} {l : List V} {xs : List Value} : VR h v x → VRs h l xs → VRs h (v :: l) (x :: xs)
end
inductive O where
  | list (l : List V)
  | idict (l : List (Int × V))
  | sdict (l : List (Str × V))
  | tdict (l : List (List Int × V)) (e : Option Nat)
  | inst (C dx : Addr)
  | ns (l : List (Nat × V))
  | tab (pos : Pos) (qual : Str)
noncomputable abbrev AH := Addr → Option O
noncomputable def upd (H : AH) (a : Addr) (o : O) : AH := fun b => if b = a then some o else H b
theorem uS (H : AH) (a : Addr) (o : O) : upd H a o a = some o := if_pos rfl
theorem upd_ne (H : AH) {a b : Addr} (o : O) (h : b ≠ a) : upd H a o b = H b := if_neg h
inductive G where
  | fn (a : Addr) | cls (a : Addr) | int (i : Int) | blt (id : String) | typ (n : String)
  deriving DecidableEq
set_option genInjectivity false in
structure Wd where
  prog : Program
  w : World
  K : Frag
  base : Heap
  mg : Str → Option Value
  mb : Str → Option Value
  attr : Nat → Str
  ainj : ∀ i j, attr i = attr j → i = j
  gt : Str → Option G
  KX : K.In base
  g : base.Ns mainGlobals mg
  b : base.Ns builtinsNs mb
  nolimit : base.NoLimit
  sysm : ∃ o, base.get? sysModules = some o
  gok : ∀ x y, gt x = some y → match y with
    | .fn a => mg x = some (.ref a) ∧ keepIn K (.ref a) = true
    | .cls a => mg x = some (.ref a) ∧ keepIn K (.ref a) = true
    | .int i => ∃ t, mg x = some (.int i t)
    | .blt id => mg x = Option.none ∧ mb x = some (.builtin id)
    | .typ n => mg x = Option.none ∧ mb x = some (.type n)
  cattr : Addr → Nat → Bool
  aok : ∀ C k, cattr C k = true → findIn K (.ref C) (attr k) = some Option.none ∧ takerIn K C (attr k) = some Option.none
  cplain : Addr → Bool
  cok : ∀ C, cplain C = true → (findIn K (.ref C) "__getattribute__" = some (some (.builtin "object.__getattribute__")) ∧ findIn K (.ref C) "__getattr__" = some Option.none ∧ hasDictIn K C = true) ∧
    findIn K (.ref C) "__setattr__" = some (some (.builtin "object.__setattr__")) ∧ plainOver K C = true ∧ makesIn K C = true ∧ keepIn K (.ref C) = true
  cinit : Addr → Option Addr
  iok : ∀ C f, cinit C = some f → findIn K (.ref C) "__init__" = some (some (.ref f)) ∧ typeIn K (.ref f) = some (.type "function")
  cmeth : Addr → Str → Option Addr
  mok : ∀ C m f, cmeth C m = some f → findIn K (.ref C) m = some (some (.ref f)) ∧ typeIn K (.ref f) = some (.type "function") ∧ keepIn K (.ref f) = true ∧ ∀ k, attr k ≠ m
variable (W : Wd)
noncomputable abbrev Wd.M (W : Wd) : Model := model W.prog W.w
inductive NsR (h : Heap) : List (Nat × V) → List DictEntry → Prop
  | nil : NsR h [] []
  | cons {k : Nat} {v : V} {e : DictEntry} {t : Tok} {l : List (Nat × V)} {es : List DictEntry} : e.key = .str (W.attr k) t → VR h v e.val → NsR h l es → NsR h ((k, v) :: l) (e :: es)
inductive OLst (h : Heap) (a : Addr) (l : List V) : Prop
  | mk (items : Array Value) (n : Nat) (e : h.get? a = some ⟨.type "list", none, .seq items n, #[]⟩) (r : VRs h l items.toList)
inductive ODic {K : Type} [DecidableEq K] (knd : PySem.KeyKind W.prog W.w K) (h : Heap) (a : Addr) (l : List (K × V)) : Prop
  | mk (kvs : List (K × Value)) (d : h.DictOf knd a kvs) (e : kvs.map (·.1) = l.map (·.1)) (r : VRs h (l.map (·.2)) (kvs.map (·.2)))
noncomputable def OR (h : Heap) (a : Addr) : O → Prop
  | .list l => OLst h a l
  | .idict l => ODic W (intKind W.prog W.w) h a l
  | .sdict l => ODic W (strKind W.prog W.w) h a l
  | .tdict l ep => ∃ xs, h.DictOfH (tupleKind (intKind W.prog W.w)) a xs ∧ xs.map (·.1) = l.map (·.1) ∧ VRs h (l.map (·.2)) (xs.map (·.2.2)) ∧ ∀ n, ep = some n → ∃ ob es, h.get? a = some ob ∧ ob.data = .dict es n
  | .inst C dx => h.get? a = some (instObj C dx)
  | .ns l => ∃ es n, h.get? a = some (dictOf es n) ∧ NsR W h l es
  | .tab pos qual => ∃ ps, h.get? a = some (tabObj ps) ∧ TriplesOk ps.toList ∧ ∀ cv, codeAmong pos ps.toList = some cv → ∃ c' ob vs t, cv = .ref c' ∧ h.get? c' = some ob ∧ ob.cls = .type "code" ∧ ob.data = .fields vs ∧ vs[1]? = some (.str qual t)
structure Rel (H : AH) (h : Heap) : Prop where
  base : ∀ a o, W.base.get? a = some o → h.get? a = some o ∧ H a = none
  objs : ∀ a o, H a = some o → OR W h a o
noncomputable def Ext (H H' : AH) (h h' : Heap) : Prop := ∀ b o, h.get? b = some o → H b = none → h'.get? b = some o ∧ H' b = none
noncomputable abbrev SmH (s s' : Shared) : Prop := ∃ hp tk, s' = { s with heap := hp, toks := tk }
theorem SmH.trans {s s' s'' : Shared} (x : SmH s s') (y : SmH s' s'') : SmH s s'' := by
  obtain ⟨hp, tk, rfl⟩ := x
  obtain ⟨hp', tk', rfl⟩ := y
  exact ⟨hp', tk', rfl⟩
structure Step (H : AH) (s : Shared) (H' : AH) (s' : Shared) : Prop where
  rel : Rel W H' s'.heap
  ext : Ext H H' s.heap s'.heap
  same : SmH s s'
theorem Ext.refl (H : AH) (h : Heap) : Ext H H h h := fun _ _ a b => ⟨a, b⟩
theorem Ext.trans {H H' H'' : AH} {h h' h'' : Heap} (x : Ext H H' h h') (y : Ext H' H'' h' h'') : Ext H H'' h h'' :=
  fun b o e n => let ⟨a, c⟩ := x b o e n; y b o a c
variable {W}
theorem Step.refl {H : AH} {s : Shared} (R : Rel W H s.heap) : Step W H s H s := ⟨R, Ext.refl _ _, _, _, rfl⟩
theorem Step.trans {H H' H'' : AH} {s s' s'' : Shared} (x : Step W H s H' s') (y : Step W H' s' H'' s'') : Step W H s H'' s'' := by
  refine ⟨y.rel, x.ext.trans y.ext, ?_⟩
  exact x.same.trans y.same
theorem Step.tok {H H' : AH} {s s' : Shared} (x : Step W H s H' s') (t : Nat) : Step W H s H' { s' with toks := t } := by
  refine ⟨x.rel, x.ext, ?_⟩
  exact x.same.trans ⟨_, t, rfl⟩
noncomputable def isTup (o : Obj) : Prop := (o.cls = .type "tuple" ∨ o.cls = .type "code") ∧ ((∃ its n, o.data = .seq its n) ∨ ∃ vs, o.data = .fields vs)
theorem isTup.no {o : Obj} {c : Value} (hc : o.cls = c) (ht : isTup o) (h1 : c ≠ .type "tuple") (h2 : c ≠ .type "code") {p : Prop} : p := by
  rcases ht.1 with h | h
  · exact absurd (hc.symm.trans h) h1
  · exact absurd (hc.symm.trans h) h2
theorem OR.not_tuple {h : Heap} {a : Addr} {o : O} (x : OR W h a o) {ob : Obj} (e : h.get? a = some ob) : ¬ isTup ob := by
  rintro ⟨hc, -⟩
  cases o with
  | list l => obtain ⟨its, n, e', _⟩ := x; rw [e] at e'; cases e'; exact absurd hc (by simp)
  | idict l => obtain ⟨kvs, ⟨o', es, ep, e', hx, _⟩, _⟩ := x; rw [e] at e'; cases e'; rw [hx.1] at hc; exact absurd hc (by simp)
  | sdict l => obtain ⟨kvs, ⟨o', es, ep, e', hx, _⟩, _⟩ := x; rw [e] at e'; cases e'; rw [hx.1] at hc; exact absurd hc (by simp)
  | tdict l ep => obtain ⟨kvs, ⟨o', es, ep, e', hx, _⟩, _⟩ := x; rw [e] at e'; cases e'; rw [hx.1] at hc; exact absurd hc (by simp)
  | inst C dx => have e' : h.get? a = some (instObj C dx) := x; rw [e] at e'; cases e'; exact absurd hc (by simp)
  | ns l => obtain ⟨es, n, e', _⟩ := x; rw [e] at e'; cases e'; exact absurd hc (by simp)
  | tab pos qual => obtain ⟨ps, e', _⟩ := x; rw [e] at e'; cases e'; exact absurd hc (by simp [tabObj])
theorem OR.there {h : Heap} {a : Addr} {o : O} (x : OR W h a o) : ∃ ob, h.get? a = some ob := by
  cases o with
  | list l => obtain ⟨its, n, e', _⟩ := x; exact ⟨_, e'⟩
  | idict l => obtain ⟨kvs, ⟨o', es, ep, e', _⟩, _⟩ := x; exact ⟨_, e'⟩
  | sdict l => obtain ⟨kvs, ⟨o', es, ep, e', _⟩, _⟩ := x; exact ⟨_, e'⟩
  | tdict l ep => obtain ⟨kvs, ⟨o', es, ep, e', _⟩, _⟩ := x; exact ⟨_, e'⟩
  | inst C dx => exact ⟨_, x⟩
  | ns l => obtain ⟨es, n, e', _⟩ := x; exact ⟨_, e'⟩
  | tab pos qual => obtain ⟨ps, e', _⟩ := x; exact ⟨_, e'⟩
theorem Rel.tup_none {H : AH} {h : Heap} (R : Rel W H h) {a : Addr} {ob : Obj} (e : h.get? a = some ob) (hc : isTup ob) : H a = none := by
  cases q : H a with
  | none => rfl
  | some o => exact absurd hc ((R.objs a o q).not_tuple e)
theorem Rel.lt {H : AH} {h : Heap} (R : Rel W H h) {a : Addr} {o : O} (e : H a = some o) : a < h.objs.size :=
  let ⟨_, e'⟩ := (R.objs a o e).there; Heap.lt_size e'
theorem Rel.fresh {H : AH} {h : Heap} (R : Rel W H h) {a : Addr} (e : h.objs.size ≤ a) : H a = none := by
  cases q : H a with
  | none => rfl
  | some o => exact absurd (R.lt q) (Nat.not_lt.mpr e)
noncomputable def TupKeep (h h' : Heap) : Prop := ∀ a o, h.get? a = some o → isTup o → h'.get? a = some o
theorem Ext.tups {H H' : AH} {h h' : Heap} (R : Rel W H h) (x : Ext H H' h h') : TupKeep h h' := fun a o e hc => (x a o e (R.tup_none e hc)).1
theorem istup_keep {h h' : Heap} (k : TupKeep h h') {a : Addr} {its : Array Value} (e : IsTup h a its) : IsTup h' a its := by
  obtain ⟨o, e1, e2, n, e3⟩ := e
  exact ⟨o, k _ _ e1 ⟨.inl e2, .inl ⟨_, n, e3⟩⟩, e2, n, e3⟩
theorem VR.keep {h h' : Heap} (k : TupKeep h h') {v : V} {x : Value} (r : VR h v x) : VR h' v x :=
  VR.rec (motive_1 := fun v x _ => VR h' v x) (motive_2 := fun l xs _ => VRs h' l xs) .none .bool .int .str (fun e _ ih => .tup (istup_keep k e) ih) .ref .nil (fun _ _ p q => .cons p q) r
theorem VRs.keep {h h' : Heap} (k : TupKeep h h') {v : List V} {x : List Value} (r : VRs h v x) : VRs h' v x :=
  VRs.rec (motive_1 := fun v x _ => VR h' v x) (motive_2 := fun l xs _ => VRs h' l xs) .none .bool .int .str (fun e _ ih => .tup (istup_keep k e) ih) .ref .nil (fun _ _ p q => .cons p q) r
theorem VRs.unnil {h : Heap} {x : List Value} (r : VRs h [] x) : x = [] := by cases r; rfl
theorem VRs.uncons {h : Heap} {a : V} {v : List V} {x : List Value} (r : VRs h (a :: v) x) : ∃ y ys, x = y :: ys ∧ VR h a y ∧ VRs h v ys := by
  cases r with
  | cons p q => exact ⟨_, _, rfl, p, q⟩
theorem NsR.keep {h h' : Heap} (k : TupKeep h h') {l : List (Nat × V)} {es : List DictEntry} (x : NsR W h l es) : NsR W h' l es := by
  induction x with
  | nil => exact .nil
  | cons a b _ ih => exact .cons a (b.keep k) ih
theorem VRs.length {h : Heap} {v : List V} {x : List Value} (r : VRs h v x) : v.length = x.length := by
  induction v generalizing x with
  | nil => rw [r.unnil]; rfl
  | cons a v ih =>
    obtain ⟨y, ys, rfl, _, q⟩ := r.uncons
    exact congrArg (· + 1) (ih q)
theorem VRs.append {h : Heap} {v v' : List V} {x x' : List Value} (r : VRs h v x) (r' : VRs h v' x') : VRs h (v ++ v') (x ++ x') := by
  induction v generalizing x with
  | nil => rw [r.unnil]; exact r'
  | cons a v ih =>
    obtain ⟨y, ys, rfl, p, q⟩ := r.uncons
    exact .cons p (ih q)
theorem VRs.one {h : Heap} {v : V} {x : Value} (r : VR h v x) : VRs h [v] [x] := .cons r .nil
theorem VRs.get {h : Heap} {v : List V} {x : List Value} {i : Nat} {a : V} (r : VRs h v x) (e : v[i]? = some a) : ∃ y, x[i]? = some y ∧ VR h a y := by
  induction v generalizing x i with
  | nil => rw [List.getElem?_nil] at e; cases e
  | cons b v ih =>
    obtain ⟨y, ys, rfl, p, q⟩ := r.uncons
    cases i with
    | zero => cases Option.some.inj e; exact ⟨y, rfl, p⟩
    | succ i => exact ih (i := i) q e
theorem VRs.get' {h : Heap} {v : List V} {x : List Value} {i : Nat} {y : Value} (r : VRs h v x) (e : x[i]? = some y) : ∃ a, v[i]? = some a ∧ VR h a y := by
  induction v generalizing x i with
  | nil => rw [r.unnil, List.getElem?_nil] at e; cases e
  | cons b v ih =>
    obtain ⟨y, ys, rfl, p, q⟩ := r.uncons
    cases i with
    | zero => cases Option.some.inj e; exact ⟨b, rfl, p⟩
    | succ i => exact ih (x := ys) (i := i) q e
theorem VRs.take {h : Heap} {v : List V} {x : List Value} (n : Nat) (r : VRs h v x) : VRs h (v.take n) (x.take n) := by
  induction v generalizing x n with
  | nil => rw [r.unnil, List.take_nil, List.take_nil]; exact .nil
  | cons b v ih =>
    obtain ⟨y, ys, rfl, p, q⟩ := r.uncons
    cases n with
    | zero => exact .nil
    | succ n => exact .cons p (ih n q)
theorem VRs.drop {h : Heap} {v : List V} {x : List Value} (n : Nat) (r : VRs h v x) : VRs h (v.drop n) (x.drop n) := by
  induction v generalizing x n with
  | nil => rw [r.unnil, List.drop_nil, List.drop_nil]; exact .nil
  | cons b v ih =>
    obtain ⟨y, ys, rfl, p, q⟩ := r.uncons
    cases n with
    | zero => exact .cons p q
    | succ n => exact ih n q
theorem VRs.set {h : Heap} {v : List V} {x : List Value} (i : Nat) {a : V} {y : Value} (r : VRs h v x) (z : VR h a y) : VRs h (v.set i a) (x.set i y) := by
  induction v generalizing x i with
  | nil => rw [r.unnil]; exact .nil
  | cons b v ih =>
    obtain ⟨y, ys, rfl, p, q⟩ := r.uncons
    cases i with
    | zero => exact .cons z q
    | succ i => exact .cons p (ih i q)
theorem OR.keep {h h' : Heap} {a : Addr} {o : O} (x : OR W h a o) (k : TupKeep h h') (e : ∀ ob, h.get? a = some ob → h'.get? a = some ob) : OR W h' a o := by
  cases o with
  | list l => obtain ⟨its, n, e', r⟩ := x; exact ⟨its, n, e _ e', r.keep k⟩
  | idict l =>
    obtain ⟨kvs, ⟨o', es, ep, e', r⟩, q, t⟩ := x
    exact ⟨kvs, ⟨o', es, ep, e _ e', r⟩, q, t.keep k⟩
  | sdict l =>
    obtain ⟨kvs, ⟨o', es, ep, e', r⟩, q, t⟩ := x
    exact ⟨kvs, ⟨o', es, ep, e _ e', r⟩, q, t.keep k⟩
  | tdict l ep =>
    obtain ⟨xs, ⟨o', es, ep, e', r1, r2, r3, r4, r5⟩, q, t, z⟩ := x
    refine ⟨xs, ⟨o', es, ep, e _ e', r1, r2, r3, fun y hy => ?_, r5⟩, q, t.keep k, fun n hn => let ⟨ob, es, z1, z2⟩ := z n hn; ⟨ob, es, e _ z1, z2⟩⟩
    obtain ⟨ob, its, m, f1, f2, f3⟩ := r4 y hy
    exact ⟨ob, its, m, k _ _ f1 ⟨.inl f2, .inl ⟨_, _, f3.1⟩⟩, f2, f3⟩
  | inst C dx => exact e _ x
  | ns l => obtain ⟨es, n, e', r⟩ := x; exact ⟨es, n, e _ e', r.keep k⟩
  | tab pos qual =>
    obtain ⟨ps, e', t, z⟩ := x
    refine ⟨ps, e _ e', t, fun cv hcv => ?_⟩
    obtain ⟨c, oc, vs, tq, hc, hoc, hcl, hdc, hq⟩ := z cv hcv
    exact ⟨c, oc, vs, tq, hc, k _ _ hoc ⟨.inr hcl, .inr ⟨vs, hdc⟩⟩, hcl, hdc, hq⟩
theorem Rel.grow {H : AH} {h h' : Heap} (R : Rel W H h) (k : ∀ b o, h.get? b = some o → h'.get? b = some o) : Rel W H h' :=
  ⟨fun a o e => ⟨k _ _ (R.base a o e).1, (R.base a o e).2⟩, fun a o e => (R.objs a o e).keep (fun b ob e' _ => k b ob e') fun ob e' => k a ob e'⟩
theorem Step.grow {H : AH} {s : Shared} {h' : Heap} {tk : Nat} (R : Rel W H s.heap) (k : ∀ b o, s.heap.get? b = some o → h'.get? b = some o) : Step W H s H { s with heap := h', toks := tk } :=
  ⟨R.grow k, fun b o e n => ⟨k b o e, n⟩, _, _, rfl⟩
theorem Rel.but {H : AH} {h h' : Heap} {c : Addr} (R : Rel W H h) (hc : H c = none) (hb : W.base.get? c = none) (ht : ∀ o, h.get? c = some o → ¬ isTup o)
    (k : Heap.ExtBut c h h') : Rel W H h' :=
  ⟨fun a o e => ⟨k a o (by rintro rfl; rw [hb] at e; cases e) (R.base a o e).1, (R.base a o e).2⟩,
   fun a o e => (R.objs a o e).keep (fun b ob e' h2 => k b ob (by rintro rfl; exact ht ob e' h2) e') fun ob e' => k a ob (by rintro rfl; rw [hc] at e; cases e) e'⟩
theorem Rel.set {H : AH} {h h' : Heap} {c : Addr} {o : O} (R : Rel W H h) (hb : W.base.get? c = none) (ht : ∀ o, h.get? c = some o → ¬ isTup o) (k : Heap.ExtBut c h h')
    (ho : OR W h' c o) : Rel W (upd H c o) h' := by
  refine ⟨fun a ob e => ?_, fun a ob e => ?_⟩
  · have hne : a ≠ c := by rintro rfl; rw [hb] at e; cases e
    exact ⟨k a ob hne (R.base a ob e).1, by rw [upd_ne _ _ hne]; exact (R.base a ob e).2⟩
  · by_cases hac : a = c
    · subst hac; rw [uS] at e; cases e; exact ho
    · rw [upd_ne _ _ hac] at e
      exact (R.objs a ob e).keep (fun b ob' e' h2 => k b ob' (by rintro rfl; exact ht ob' e' h2) e') fun ob' e' => k a ob' hac e'
theorem Rel.base_none {H : AH} {h : Heap} {c : Addr} {o : O} (R : Rel W H h) (e : H c = some o) : W.base.get? c = none := by
  cases q : W.base.get? c with
  | none => rfl
  | some ob => rw [(R.base c ob q).2] at e; cases e
theorem Rel.new_none {H : AH} {h : Heap} {c : Addr} (R : Rel W H h) (e : h.objs.size ≤ c) : W.base.get? c = none := by
  cases q : W.base.get? c with
  | none => rfl
  | some ob => exact absurd (Heap.lt_size (R.base c ob q).1) (Nat.not_lt.mpr e)
theorem Rel.store {H : AH} {h h' : Heap} {c : Addr} {o₀ o : O} (R : Rel W H h) (e : H c = some o₀) (k : Heap.ExtBut c h h') (ho : OR W h' c o) : Rel W (upd H c o) h' :=
  R.set (R.base_none e) (fun _ e' => (R.objs c o₀ e).not_tuple e') k ho
theorem get_none_of_le {h : Heap} {a : Addr} (e : h.objs.size ≤ a) : h.get? a = none := by
  cases q : h.get? a with
  | none => rfl
  | some o => exact absurd (Heap.lt_size q) (Nat.not_lt.mpr e)
theorem Rel.make {H : AH} {h h' : Heap} {c : Addr} {o : O} (R : Rel W H h) (e : h.objs.size ≤ c) (k : ∀ b ob, h.get? b = some ob → h'.get? b = some ob) (ho : OR W h' c o) : Rel W (upd H c o) h' :=
  R.set (R.new_none e) (fun _ e' => by rw [get_none_of_le e] at e'; cases e') (fun b ob _ e' => k b ob e') ho
theorem Step.store {H : AH} {s : Shared} {h' : Heap} {tk : Nat} {c : Addr} {o₀ o : O} (R : Rel W H s.heap) (e : H c = some o₀) (k : Heap.ExtBut c s.heap h') (ho : OR W h' c o) :
    Step W H s (upd H c o) { s with heap := h', toks := tk } :=
  ⟨R.store e k ho, fun b ob e' n => have hne : b ≠ c := (by rintro rfl; rw [n] at e; cases e); ⟨k b ob hne e', by rw [upd_ne _ _ hne]; exact n⟩, _, _, rfl⟩
theorem Step.make {H : AH} {s : Shared} {h' : Heap} {tk : Nat} {c : Addr} {o : O} (R : Rel W H s.heap) (e : s.heap.objs.size ≤ c) (k : ∀ b ob, s.heap.get? b = some ob → h'.get? b = some ob) (ho : OR W h' c o) :
    Step W H s (upd H c o) { s with heap := h', toks := tk } :=
  ⟨R.make e k ho, fun b ob e' n => have hne : b ≠ c := (Nat.ne_of_lt (Nat.lt_of_lt_of_le (Heap.lt_size e') e)); ⟨k b ob e', by rw [upd_ne _ _ hne]; exact n⟩, _, _, rfl⟩
end
section
set_option backward.match.sparseCases false
structure Cx where
  kinds : List (Str × NameKind)
  slots : List (Str × Nat)
  own : Bool := true
  code : Option (Addr × Str) := none
inductive DK where
  | i | s | t
mutual
inductive E where
  | cst (v : V)
  | glb (i : Int)
  | loc (i : Nat)
  | bin (op : Operator) (a b : E)
  | neg (a : E)
  | not (a : E)
  | cmp (a : E) (op : CmpOp) (b : E)
  | cmp2 (a : E) (op : CmpOp) (b : E) (op' : CmpOp) (c : E)
  | bop (op : BoolOp) (es : Es)
  | ife (t a b : E)
  | tup (es : Es)
  | lst (es : Es)
  | dict (k : DK) (ks vs : Es)
  | idx (a i : E)
  | slTo (a hi : E)
  | slFrom (a lo : E)
  | slRev (a : E)
  | attr (a : E) (k : Nat)
  | call (f : Addr) (args : Es)
  | new (C : Addr) (args : Es)
  | meth (o : E) (m : Str) (args : Es)
  | blt (id : String) (args : Es)
  | typ (n : String) (args : Es)
  | comp (cx : Cx) (own : List Nat) (elt : E) (t : T) (it : It) (conds : Es)
  | sortk (a : E) (pos : Pos)
  | isb (a : E)
inductive Es where
  | nil | cons (e : E) (es : Es)
inductive T where
  | slot (i : Nat) | tup (ts : Ts) | attr (o : E) (k : Nat) | idx (o i : E)
inductive Ts where
  | nil | cons (t : T) (ts : Ts)
inductive It where
  | plain (e : E) | range1 (e : E) | range2 (a b : E) | enum (e : E)
end
mutual
inductive S where
  | asg (t : T) (e : E)
  | swp (is : List Nat) (e : E)
  | asgc (i : Nat) (e : E)
  | aug (i : Nat) (op : Operator) (e : E)
  | ifs (t : E) (a b : Ss)
  | whl (t : E) (b : Ss)
  | for (t : T) (it : It) (b : Ss)
  | ret (e : E)
  | brk | cnt
  | exp (e : E)
  | rse
inductive Ss where
  | nil | cons (s : S) (ss : Ss)
end
noncomputable def localish : Option NameKind → Bool
  | some .local | some .cell | some .free => true
  | _ => false
noncomputable def storable (cx : Cx) : Option NameKind → Bool
  | some .local => true
  | some .cell => cx.own
  | _ => false
noncomputable def constIs (c : Const) : V → Bool
  | .none => c == .none
  | .bool b => c == .bool b
  | .int i => c == .int i
  | .str s => c == .str s
  | _ => false
noncomputable def notSuper : Expr → Bool
  | .Call (.Name _ _) [] [] _ => false
  | _ => true
noncomputable def notSlice : Expr → Bool
  | .Slice .. => false
  | _ => true
noncomputable def notSet : Expr → Bool
  | .Set .. => false
  | _ => true
noncomputable def starFree : List Expr → Bool
  | [] => true
  | .Starred .. :: _ => false
  | _ :: r => starFree r
noncomputable def kindsIn (cx : Cx) (names : List (Str × NameKind)) : List (Str × NameKind) :=
  names.map fun (n, k) => if k == .free && cx.kinds.lookup n == some .cell then (n, .cell) else (n, k)
noncomputable def kindEq : List (Str × NameKind) → List (Str × NameKind) → Bool
  | [], [] => true
  | (n, k) :: r, (n', k') :: r' => n == n' && k == k' && kindEq r r'
  | _, _ => false
noncomputable def slotsIn (cx : Cx) (names : List (Str × NameKind)) (slots : List (Str × Nat)) : Bool :=
  slots.all (fun (n, i) => match names.lookup n with
    | some .local => slots.all fun (n', i') => n == n' || i != i'
    | some .free => cx.slots.lookup n == some i && localish (cx.kinds.lookup n) && cx.kinds.lookup n != some .local
    | _ => false) &&
  names.all fun (n, k) => match k with
    | .local => names.lookup n == some .local
    | .free => names.lookup n == some .free && (slots.lookup n).isSome
    | .globalImplicit => true
    | _ => false
inductive Tg where
  | const | name | bin | un | cmp | bop | ife | tup | lst | dict | sub | slice | attr | call | lam | comp | other
  deriving DecidableEq
noncomputable def tag : Expr → Tg
  | .Constant .. => .const | .Name .. => .name | .BinOp .. => .bin | .UnaryOp .. => .un | .Compare .. => .cmp | .BoolOp .. => .bop | .IfExp .. => .ife | .Tuple .. => .tup | .List .. => .lst | .Dict .. => .dict
  | .Subscript .. => .sub | .Slice .. => .slice | .Attribute .. => .attr | .Call .. => .call | .Lambda .. => .lam | .ListComp .. => .comp | _ => .other
noncomputable def s1 : Expr → Expr
  | .BinOp l _ _ _ => l | .UnaryOp _ x _ => x | .IfExp t _ _ _ => t | .Compare l _ _ _ => l | .Subscript v _ _ => v | .Attribute v _ _ => v | .Call f _ _ _ => f | .Lambda _ b _ _ => b | .ListComp e _ _ _ => e | x => x
noncomputable def s2 : Expr → Expr
  | .BinOp _ _ r _ => r | .IfExp _ a _ _ => a | .Subscript _ s _ => s | x => x
noncomputable def s3 : Expr → Expr
  | .IfExp _ _ b _ => b | x => x
noncomputable def ss : Expr → List Expr
  | .BoolOp _ vs _ => vs | .Tuple vs _ _ => vs | .List vs _ => vs | .Dict _ vs _ => vs | .Compare _ _ rs _ => rs | .Call _ as _ _ => as | _ => []
noncomputable def nm : Expr → Str
  | .Name x _ => x | .Attribute _ n _ => n | _ => ("" : Str)
noncomputable def cst? : Expr → Const
  | .Constant c _ _ => c | _ => .none
noncomputable def bo? : Expr → Operator
  | .BinOp _ o _ _ => o | _ => .Add
noncomputable def uo? : Expr → UnaryOp
  | .UnaryOp o _ _ => o | _ => .Not
noncomputable def lo? : Expr → BoolOp
  | .BoolOp o _ _ => o | _ => .And
noncomputable def co? : Expr → List CmpOp
  | .Compare _ os _ _ => os | _ => []
noncomputable def ks? : Expr → List (Option Expr)
  | .Dict ks _ _ => ks | _ => []
noncomputable def kw? : Expr → List Keyword
  | .Call _ _ ks _ => ks | _ => []
noncomputable def sl? : Expr → Option Expr × Option Expr × Option Expr
  | .Slice a b c _ => (a, b, c) | _ => (none, none, none)
noncomputable def po? : Expr → Pos
  | .Attribute _ _ p => p | .Call _ _ _ p => p | .Lambda _ _ _ p => p | _ => ⟨0, 0, 0, 0⟩
noncomputable def sc? : Expr → Scope
  | .Lambda _ _ s _ => s | .ListComp _ _ s _ => s | _ => ⟨.module, [], false, false, []⟩
noncomputable def ge? : Expr → List Comprehension
  | .ListComp _ g _ _ => g | _ => []
noncomputable def ar? : Expr → Arguments
  | .Lambda a _ _ _ => a | _ => ⟨[], [], none, [], [], none, []⟩
noncomputable def TgP : Tg → Expr → Prop
  | .const, x => ∃ k p, x = .Constant (cst? x) k p
  | .name, x => ∃ p, x = .Name (nm x) p
  | .bin, x => ∃ p, x = .BinOp (s1 x) (bo? x) (s2 x) p
  | .un, x => ∃ p, x = .UnaryOp (uo? x) (s1 x) p
  | .cmp, x => ∃ p, x = .Compare (s1 x) (co? x) (ss x) p
  | .bop, x => ∃ p, x = .BoolOp (lo? x) (ss x) p
  | .ife, x => ∃ p, x = .IfExp (s1 x) (s2 x) (s3 x) p
  | .tup, x => ∃ k p, x = .Tuple (ss x) k p
  | .lst, x => ∃ p, x = .List (ss x) p
  | .dict, x => ∃ p, x = .Dict (ks? x) (ss x) p
  | .sub, x => ∃ p, x = .Subscript (s1 x) (s2 x) p
  | .slice, x => ∃ p, x = .Slice (sl? x).1 (sl? x).2.1 (sl? x).2.2 p
  | .attr, x => x = .Attribute (s1 x) (nm x) (po? x)
  | .call, x => x = .Call (s1 x) (ss x) (kw? x) (po? x)
  | .lam, x => x = .Lambda (ar? x) (s1 x) (sc? x) (po? x)
  | .comp, x => ∃ p, x = .ListComp (s1 x) (ge? x) (sc? x) p
  | .other, _ => True
theorem tgP : ∀ x, TgP (tag x) x
  | .Constant .. => ⟨_, _, rfl⟩
  | .Tuple .. => ⟨_, _, rfl⟩
  | .Name .. | .BinOp .. | .UnaryOp .. | .Compare .. | .BoolOp .. | .IfExp .. | .List .. | .Dict .. | .Subscript .. | .Slice .. | .ListComp .. => ⟨_, rfl⟩
  | .Attribute .. | .Call .. | .Lambda .. => rfl
  | .NamedExpr .. | .Set .. | .SetComp .. | .DictComp .. | .GeneratorExp .. | .Await .. | .Yield .. | .YieldFrom .. | .FormattedValue .. | .JoinedStr .. | .Starred .. => trivial
theorem tg {t : Tg} {x : Expr} (h : (tag x == t) = true) : TgP t x := by
  rw [← eq_of_beq h]; exact tgP x
theorem an2 {a b : Bool} (h : (a && b) = true) : a = true ∧ b = true := Bool.and_eq_true_iff.mp h
theorem an3 {a b c : Bool} (h : (a && (b && c)) = true) : a = true ∧ b = true ∧ c = true := ⟨(an2 h).1, an2 (an2 h).2⟩
theorem an4 {a b c d : Bool} (h : (a && (b && (c && d))) = true) : a = true ∧ b = true ∧ c = true ∧ d = true := ⟨(an2 h).1, an3 (an2 h).2⟩
theorem an5 {a b c d e : Bool} (h : (a && (b && (c && (d && e)))) = true) : a = true ∧ b = true ∧ c = true ∧ d = true ∧ e = true := ⟨(an2 h).1, an4 (an2 h).2⟩
theorem an6 {a b c d e f : Bool} (h : (a && (b && (c && (d && (e && f))))) = true) : a = true ∧ b = true ∧ c = true ∧ d = true ∧ e = true ∧ f = true := ⟨(an2 h).1, an5 (an2 h).2⟩
theorem not_t {a : Bool} (h : (!a) = true) : a = false := by cases a <;> first | rfl | exact h.symm
noncomputable def one {α : Type} (l : List α) (f : α → Bool) : Bool := match l with | [x] => f x | _ => false
theorem one_inv {α : Type} {l : List α} {f : α → Bool} (h : one l f = true) : ∃ x, l = [x] ∧ f x = true := by
  match l, h with
  | [x], h => exact ⟨x, rfl, h⟩
  | [], h => exact absurd h Bool.false_ne_true
  | _ :: _ :: _, h => exact absurd h Bool.false_ne_true
noncomputable def two {α : Type} (l : List α) (f : α → α → Bool) : Bool := match l with | [x, y] => f x y | _ => false
theorem two_inv {α : Type} {l : List α} {f : α → α → Bool} (h : two l f = true) : ∃ x y, l = [x, y] ∧ f x y = true := by
  match l, h with
  | [x, y], h => exact ⟨x, y, rfl, h⟩
  | [], h => exact absurd h Bool.false_ne_true
  | [_], h => exact absurd h Bool.false_ne_true
  | _ :: _ :: _ :: _, h => exact absurd h Bool.false_ne_true
noncomputable def som {α : Type} (l : Option α) (f : α → Bool) : Bool := match l with | some x => f x | none => false
theorem som_inv {α : Type} {l : Option α} {f : α → Bool} (h : som l f = true) : ∃ x, l = some x ∧ f x = true := by
  cases l with
  | none => exact absurd h Bool.false_ne_true
  | some x => exact ⟨x, rfl, h⟩
noncomputable def argsOk (q : Str) (a : Arguments) : Bool := a.posonlyargs.isEmpty && (a.vararg.isNone && (a.kwonlyargs.isEmpty && (a.kw_defaults.isEmpty && (a.kwarg.isNone && (a.defaults.isEmpty && one a.args fun p => p.arg == q)))))
theorem argsOk_inv {q : Str} {a : Arguments} (h : argsOk q a = true) : ∃ p, a = ⟨[], [p], none, [], [], none, []⟩ ∧ p.arg = q := by
  obtain ⟨h1, h2, h3, h4, h5, h6⟩ := an6 h
  obtain ⟨p, e, h7⟩ := one_inv (an2 h6).2
  have r : a = ⟨a.posonlyargs, a.args, a.vararg, a.kwonlyargs, a.kw_defaults, a.kwarg, a.defaults⟩ := by cases a; rfl
  rw [List.isEmpty_iff.mp h1, Option.isNone_iff_eq_none.mp h2, List.isEmpty_iff.mp h3, List.isEmpty_iff.mp h4, Option.isNone_iff_eq_none.mp h5, List.isEmpty_iff.mp (an2 h6).1, e] at r
  exact ⟨p, r, eq_of_beq h7⟩
variable (gt : Str → Option G) (attr : Nat → Str)
noncomputable def isG (cx : Cx) (g : G) (x : Expr) : Bool := tag x == .name && (!(nm x == ("__debug__" : Str)) && (cx.kinds.lookup (nm x) == some .globalImplicit && gt (nm x) == some g))
theorem isG_inv {cx : Cx} {g : G} {x : Expr} (h : isG gt cx g x = true) : ∃ n p, x = .Name n p ∧ (n == ("__debug__" : Str)) = false ∧ cx.kinds.lookup n = some .globalImplicit ∧ gt n = some g := by
  obtain ⟨h1, h2, h3, h4⟩ := an4 h
  obtain ⟨p, e⟩ := tg h1
  exact ⟨nm x, p, e, not_t h2, eq_of_beq h3, eq_of_beq h4⟩
noncomputable def isC (cx : Cx) (g : G) (x : Expr) : Bool := tag x == .call && (isG gt cx g (s1 x) && ((kw? x).isEmpty && starFree (ss x)))
theorem isC_inv {cx : Cx} {g : G} {x : Expr} (h : isC gt cx g x = true) : ∃ n p q, x = .Call (.Name n p) (ss x) [] q ∧ (n == ("__debug__" : Str)) = false ∧ cx.kinds.lookup n = some .globalImplicit ∧ gt n = some g ∧ starFree (ss x) = true := by
  obtain ⟨h1, h2, h3, h4⟩ := an4 h
  obtain ⟨n, p, e, h5⟩ := isG_inv gt h2
  have r := tg h1
  rw [TgP, e, List.isEmpty_iff.mp h3] at r
  exact ⟨n, p, _, r, h5.1, h5.2.1, h5.2.2, h4⟩
noncomputable def lamOk (lp : Pos) (k : Keyword) : Bool :=
  (k.arg == some ("key" : Str) && (tag k.value == .lam && (po? k.value == lp && argsOk (nm (s1 (s1 k.value))) (ar? k.value)))) &&
  ((tag (s1 k.value) == .sub && (tag (s1 (s1 k.value)) == .name && (tag (s2 (s1 k.value)) == .const && cst? (s2 (s1 k.value)) == .int 0))) &&
  ((!(nm (s1 (s1 k.value)) == ("__debug__" : Str)) && !(nm (s1 (s1 k.value)) == ("__classdict__" : Str))) &&
  (decide ((sc? k.value).kind = .function) && (!(sc? k.value).isGenerator && (!(sc? k.value).isCoroutine && kindEq (sc? k.value).names [(nm (s1 (s1 k.value)), .local)])))))
theorem kw_eta {k : Keyword} {a : Option Str} {v : Expr} (h : k.arg = a) (e : k.value = v) : ∃ p, k = ⟨a, v, p⟩ := ⟨k.pos, by subst h e; cases k; rfl⟩
theorem lam_inv {x : Expr} {lp : Pos} {q : Str} (h : (tag x == .lam && (po? x == lp && argsOk q (ar? x))) = true) : ∃ p, x = .Lambda ⟨[], [p], none, [], [], none, []⟩ (s1 x) (sc? x) lp ∧ p.arg = q := by
  obtain ⟨h1, h2, h3⟩ := an3 h
  obtain ⟨p, e, hq⟩ := argsOk_inv h3
  have r := tg h1
  rw [TgP, e, eq_of_beq h2] at r
  exact ⟨p, r, hq⟩
theorem q0_inv {x : Expr} (h : (tag x == .sub && (tag (s1 x) == .name && (tag (s2 x) == .const && cst? (s2 x) == .int 0))) = true) : ∃ qp kk cp sp, x = .Subscript (.Name (nm (s1 x)) qp) (.Constant (.int 0) kk cp) sp := by
  obtain ⟨h1, h2, h3, h4⟩ := an4 h
  obtain ⟨sp, e⟩ := tg h1
  obtain ⟨qp, e2⟩ := tg h2
  obtain ⟨kk, cp, e3⟩ := tg h3
  rw [eq_of_beq h4] at e3
  exact ⟨qp, kk, cp, sp, e.trans (by rw [← e2, ← e3])⟩
theorem lamOk_inv {lp : Pos} {k : Keyword} (h : lamOk lp k = true) : ∃ p q qp kk cp sp sc kp, k = ⟨some ("key" : Str), .Lambda ⟨[], [p], none, [], [], none, []⟩ (.Subscript (.Name q qp) (.Constant (.int 0) kk cp) sp) sc lp, kp⟩ ∧ p.arg = q ∧
    (q == ("__debug__" : Str)) = false ∧ (q == ("__classdict__" : Str)) = false ∧ sc.kind = .function ∧ sc.isGenerator = false ∧ sc.isCoroutine = false ∧ kindEq sc.names [(q, .local)] = true := by
  obtain ⟨h1, h2, h3, h4⟩ := an4 h
  obtain ⟨h5, h6⟩ := an2 h1
  obtain ⟨p, e, hq⟩ := lam_inv h6
  obtain ⟨qp, kk, cp, sp, e2⟩ := q0_inv h2
  obtain ⟨kp, r⟩ := kw_eta (eq_of_beq h5) (e.trans (congrArg (fun b => PySem.Expr.Lambda _ b _ _) e2))
  obtain ⟨f1, f2, f3, f4⟩ := an4 h4
  exact ⟨p, _, qp, kk, cp, sp, _, kp, r, hq, not_t (an2 h3).1, not_t (an2 h3).2, of_decide_eq_true f1, not_t f2, not_t f3, f4⟩
mutual
noncomputable def sameE : Cx → E → Expr → Bool
  | _, .cst v, x => tag x == .const && constIs (cst? x) v
  | cx, .glb i, x => isG gt cx (.int i) x
  | cx, .loc i, x => tag x == .name && (!(nm x == ("__debug__" : Str)) && (!(nm x == ("__classdict__" : Str)) && (cx.slots.lookup (nm x) == some i && localish (cx.kinds.lookup (nm x)))))
  | cx, .bin op a b, x => tag x == .bin && (bo? x == op && (sameE cx a (s1 x) && sameE cx b (s2 x)))
  | cx, .neg a, x => tag x == .un && (uo? x == .USub && sameE cx a (s1 x))
  | cx, .not a, x => tag x == .un && (uo? x == .Not && sameE cx a (s1 x))
  | cx, .cmp a op b, x => tag x == .cmp && (co? x == [op] && (sameE cx a (s1 x) && one (ss x) fun r => !behindInMarks op r && sameE cx b r))
  | cx, .cmp2 a op b op' c, x => tag x == .cmp && (co? x == [op, op'] && (sameE cx a (s1 x) && two (ss x) fun r r' => !behindInMarks op' r' && (sameE cx b r && sameE cx c r')))
  | cx, .bop op es, x => tag x == .bop && (lo? x == op && sameEs cx es (ss x))
  | cx, .ife t a b, x => tag x == .ife && (sameE cx t (s1 x) && (sameE cx a (s2 x) && sameE cx b (s3 x)))
  | cx, .tup es, x => tag x == .tup && (starFree (ss x) && sameEs cx es (ss x))
  | cx, .lst es, x => tag x == .lst && (starFree (ss x) && sameEs cx es (ss x))
  | cx, .dict _ ks vs, x => tag x == .dict && (sameOs cx ks (ks? x) && (sameEs cx vs (ss x) && (decide ((ks? x).length = (ss x).length) && decide ((ks? x).length ≤ 15))))
  | cx, .idx a i, x => tag x == .sub && (notSlice (s2 x) && (sameE cx a (s1 x) && sameE cx i (s2 x)))
  | cx, .slTo a hi, x => tag x == .sub && (sameE cx a (s1 x) && (tag (s2 x) == .slice && ((sl? (s2 x)).1.isNone && ((sl? (s2 x)).2.2.isNone && som (sl? (s2 x)).2.1 fun h => sameE cx hi h))))
  | cx, .slFrom a lo, x => tag x == .sub && (sameE cx a (s1 x) && (tag (s2 x) == .slice && ((sl? (s2 x)).2.1.isNone && ((sl? (s2 x)).2.2.isNone && som (sl? (s2 x)).1 fun h => sameE cx lo h))))
  | cx, .slRev a, x => tag x == .sub && (sameE cx a (s1 x) && (tag (s2 x) == .slice && ((sl? (s2 x)).1.isNone && ((sl? (s2 x)).2.1.isNone && som (sl? (s2 x)).2.2 fun h => tag h == .un && (uo? h == .USub && (tag (s1 h) == .const && cst? (s1 h) == .int 1))))))
  | cx, .attr a k, x => tag x == .attr && (notSuper (s1 x) && (attr k == nm x && sameE cx a (s1 x)))
  | cx, .call f args, x => isC gt cx (.fn f) x && (decide ((ss x).length < 20) && sameEs cx args (ss x))
  | cx, .new C args, x => isC gt cx (.cls C) x && (decide ((ss x).length < 20) && sameEs cx args (ss x))
  | cx, .meth o m args, x => tag x == .call && (tag (s1 x) == .attr && ((kw? x).isEmpty && ((po? (s1 x)).endLine == (po? x).line && (notSuper (s1 (s1 x)) && (m == nm (s1 x) && (starFree (ss x) && (decide ((ss x).length < 20) && (sameE cx o (s1 (s1 x)) && sameEs cx args (ss x)))))))))
  | cx, .blt id args, x => isC gt cx (.blt id) x && (decide ((ss x).length < 20) && sameEs cx args (ss x))
  | cx, .typ n args, x => isC gt cx (.typ n) x && (decide ((ss x).length < 20) && sameEs cx args (ss x))
  | cx, .comp cx' own elt t it conds, x => tag x == .comp && (!cx'.own && (cx'.code.isNone && (decide ((sc? x).kind = .function) && (kindEq cx'.kinds (kindsIn cx (sc? x).names) && (slotsIn cx (sc? x).names cx'.slots && (cx'.slots.all (fun (x, i) => cx'.kinds.lookup x != some .local || own.contains i) &&
      (sameE cx' elt (s1 x) && one (ge? x) fun g => g.is_async == 0 && (sameIt cx it g.iter && (sameT cx' t g.target && sameEs cx' conds g.ifs)))))))))
  | cx, .sortk a lp, x => tag x == .call && (isG gt cx (.blt "sorted") (s1 x) && (starFree (ss x) && ((one (ss x) fun y => sameE cx a y) && one (kw? x) fun k => lamOk lp k)))
  | cx, .isb a, x => isC gt cx (.blt "isinstance") x && two (ss x) fun y z => isG gt cx (.typ "bool") z && sameE cx a y
noncomputable def sameEs : Cx → Es → List Expr → Bool
  | _, .nil, [] => true
  | cx, .cons e es, x :: r => sameE cx e x && sameEs cx es r
  | _, _, _ => false
noncomputable def sameOs : Cx → Es → List (Option Expr) → Bool
  | _, .nil, [] => true
  | cx, .cons e es, some x :: r => sameE cx e x && sameOs cx es r
  | _, _, _ => false
noncomputable def sameT : Cx → T → Expr → Bool
  | cx, .slot i, x => tag x == .name && (cx.slots.lookup (nm x) == some i && storable cx (cx.kinds.lookup (nm x)))
  | cx, .tup ts, x => tag x == .tup && (starFree (ss x) && sameTs cx ts (ss x))
  | cx, .attr o k, x => tag x == .attr && (attr k == nm x && sameE cx o (s1 x))
  | cx, .idx o i, x => tag x == .sub && (notSlice (s2 x) && (sameE cx o (s1 x) && sameE cx i (s2 x)))
noncomputable def sameTs : Cx → Ts → List Expr → Bool
  | _, .nil, [] => true
  | cx, .cons t ts, x :: r => sameT cx t x && sameTs cx ts r
  | _, _, _ => false
noncomputable def sameIt : Cx → It → Expr → Bool
  | cx, .plain e, x => sameE cx e x && notSet x
  | cx, .range1 a, x => isC gt cx (.typ "range") x && one (ss x) fun u => sameE cx a u
  | cx, .range2 a b, x => isC gt cx (.typ "range") x && two (ss x) fun u v => sameE cx a u && sameE cx b v
  | cx, .enum a, x => isC gt cx (.typ "enumerate") x && one (ss x) fun u => sameE cx a u
end
variable {gt : Str → Option G} {attr : Nat → Str} {cx : Cx} {x : Expr}
theorem es_nil {l : List Expr} (h : sameEs gt attr cx .nil l = true) : l = [] := by
  cases l with
  | nil => rfl
  | cons _ _ => exact absurd h Bool.false_ne_true
theorem es_cons {e : E} {es : Es} {l : List Expr} (h : sameEs gt attr cx (.cons e es) l = true) : ∃ x r, l = x :: r ∧ sameE gt attr cx e x = true ∧ sameEs gt attr cx es r = true := by
  cases l with
  | nil => exact absurd h Bool.false_ne_true
  | cons x r => exact ⟨x, r, rfl, an2 h⟩
theorem os_nil {l : List (Option Expr)} (h : sameOs gt attr cx .nil l = true) : l = [] := by
  cases l with
  | nil => rfl
  | cons _ _ => exact absurd h Bool.false_ne_true
theorem os_cons {e : E} {es : Es} {l : List (Option Expr)} (h : sameOs gt attr cx (.cons e es) l = true) : ∃ x r, l = some x :: r ∧ sameE gt attr cx e x = true ∧ sameOs gt attr cx es r = true := by
  cases l with
  | nil => exact absurd h Bool.false_ne_true
  | cons x r =>
    cases x with
    | none => exact absurd h Bool.false_ne_true
    | some x => exact ⟨x, r, rfl, an2 h⟩
theorem ts_nil {l : List Expr} (h : sameTs gt attr cx .nil l = true) : l = [] := by
  cases l with
  | nil => rfl
  | cons _ _ => exact absurd h Bool.false_ne_true
theorem ts_cons {e : T} {es : Ts} {l : List Expr} (h : sameTs gt attr cx (.cons e es) l = true) : ∃ x r, l = x :: r ∧ sameT gt attr cx e x = true ∧ sameTs gt attr cx es r = true := by
  cases l with
  | nil => exact absurd h Bool.false_ne_true
  | cons x r => exact ⟨x, r, rfl, an2 h⟩
theorem e_cst {v : V} {P : Expr → Prop} (h : sameE gt attr cx (.cst v) x = true) (K : ∀ c k p, constIs c v = true → P (.Constant c k p)) : P x := by
  obtain ⟨h1, h2⟩ := an2 h
  obtain ⟨k, p, e⟩ := tg h1
  exact Eq.subst (motive := P) (Eq.symm e) (K _ k p h2)
theorem e_loc {i : Nat} {P : Expr → Prop} (h : sameE gt attr cx (.loc i) x = true) (K : ∀ n p, (n == ("__debug__" : Str)) = false → (n == ("__classdict__" : Str)) = false → cx.slots.lookup n = some i → localish (cx.kinds.lookup n) = true → P (.Name n p)) : P x := by
  obtain ⟨h1, h2, h3, h4, h5⟩ := an5 h
  obtain ⟨p, e⟩ := tg h1
  exact Eq.subst (motive := P) (Eq.symm e) (K _ p (not_t h2) (not_t h3) (eq_of_beq h4) h5)
theorem e_bin {op : Operator} {a b : E} {P : Expr → Prop} (h : sameE gt attr cx (.bin op a b) x = true) (K : ∀ l r p, sameE gt attr cx a l = true → sameE gt attr cx b r = true → P (.BinOp l op r p)) : P x := by
  obtain ⟨h1, h2, h3⟩ := an3 h
  obtain ⟨p, e⟩ := tg h1
  exact Eq.subst (motive := P) (Eq.symm (eq_of_beq h2 ▸ e)) (K _ _ p (an2 h3).1 (an2 h3).2)
theorem e_neg {a : E} {P : Expr → Prop} (h : sameE gt attr cx (.neg a) x = true) (K : ∀ y p, sameE gt attr cx a y = true → P (.UnaryOp .USub y p)) : P x := by
  obtain ⟨h1, h2, h3⟩ := an3 h
  obtain ⟨p, e⟩ := tg h1
  exact Eq.subst (motive := P) (Eq.symm (eq_of_beq h2 ▸ e)) (K _ p h3)
theorem e_not {a : E} {P : Expr → Prop} (h : sameE gt attr cx (.not a) x = true) (K : ∀ y p, sameE gt attr cx a y = true → P (.UnaryOp .Not y p)) : P x := by
  obtain ⟨h1, h2, h3⟩ := an3 h
  obtain ⟨p, e⟩ := tg h1
  exact Eq.subst (motive := P) (Eq.symm (eq_of_beq h2 ▸ e)) (K _ p h3)
theorem e_cmp {a b : E} {op : CmpOp} {P : Expr → Prop} (h : sameE gt attr cx (.cmp a op b) x = true) (K : ∀ l r p, behindInMarks op r = false → sameE gt attr cx a l = true → sameE gt attr cx b r = true → P (.Compare l [op] [r] p)) : P x := by
  obtain ⟨h1, h2, h3, h4⟩ := an4 h
  obtain ⟨p, e⟩ := tg h1
  obtain ⟨r, e', h4⟩ := one_inv h4
  rw [eq_of_beq h2, e'] at e
  exact Eq.subst (motive := P) (Eq.symm e) (K _ r p (not_t (an2 h4).1) h3 (an2 h4).2)
theorem e_cmp2 {a b c : E} {op op' : CmpOp} {P : Expr → Prop} (h : sameE gt attr cx (.cmp2 a op b op' c) x = true) (K : ∀ l r r' p, behindInMarks op' r' = false → sameE gt attr cx a l = true → sameE gt attr cx b r = true → sameE gt attr cx c r' = true → P (.Compare l [op, op'] [r, r'] p)) : P x := by
  obtain ⟨h1, h2, h3, h4⟩ := an4 h
  obtain ⟨p, e⟩ := tg h1
  obtain ⟨r, r', e', h4⟩ := two_inv h4
  rw [eq_of_beq h2, e'] at e
  exact Eq.subst (motive := P) (Eq.symm e) (K _ r r' p (not_t (an2 h4).1) h3 (an2 (an2 h4).2).1 (an2 (an2 h4).2).2)
theorem e_bop {op : BoolOp} {es : Es} {P : Expr → Prop} (h : sameE gt attr cx (.bop op es) x = true) (K : ∀ vs p, sameEs gt attr cx es vs = true → P (.BoolOp op vs p)) : P x := by
  obtain ⟨h1, h2, h3⟩ := an3 h
  obtain ⟨p, e⟩ := tg h1
  exact Eq.subst (motive := P) (Eq.symm (eq_of_beq h2 ▸ e)) (K _ p h3)
theorem e_ife {t a b : E} {P : Expr → Prop} (h : sameE gt attr cx (.ife t a b) x = true) (K : ∀ t' a' b' p, sameE gt attr cx t t' = true → sameE gt attr cx a a' = true → sameE gt attr cx b b' = true → P (.IfExp t' a' b' p)) : P x := by
  obtain ⟨h1, h2⟩ := an2 h
  obtain ⟨p, e⟩ := tg h1
  exact Eq.subst (motive := P) (Eq.symm e) (K _ _ _ p (an3 h2).1 (an3 h2).2.1 (an3 h2).2.2)
theorem e_tup {es : Es} {P : Expr → Prop} (h : sameE gt attr cx (.tup es) x = true) (K : ∀ vs k p, starFree vs = true → sameEs gt attr cx es vs = true → P (.Tuple vs k p)) : P x := by
  obtain ⟨h1, h2⟩ := an2 h
  obtain ⟨k, p, e⟩ := tg h1
  exact Eq.subst (motive := P) (Eq.symm e) (K _ k p (an2 h2).1 (an2 h2).2)
theorem e_lst {es : Es} {P : Expr → Prop} (h : sameE gt attr cx (.lst es) x = true) (K : ∀ vs p, starFree vs = true → sameEs gt attr cx es vs = true → P (.List vs p)) : P x := by
  obtain ⟨h1, h2⟩ := an2 h
  obtain ⟨p, e⟩ := tg h1
  exact Eq.subst (motive := P) (Eq.symm e) (K _ p (an2 h2).1 (an2 h2).2)
theorem e_dict {k : DK} {ks vs : Es} {P : Expr → Prop} (h : sameE gt attr cx (.dict k ks vs) x = true) (K : ∀ ks' vs' p, sameOs gt attr cx ks ks' = true → sameEs gt attr cx vs vs' = true → ks'.length = vs'.length → ks'.length ≤ 15 → P (.Dict ks' vs' p)) : P x := by
  obtain ⟨h1, h2, h3, h4, h5⟩ := an5 h
  obtain ⟨p, e⟩ := tg h1
  exact Eq.subst (motive := P) (Eq.symm e) (K _ _ p h2 h3 (of_decide_eq_true h4) (of_decide_eq_true h5))
theorem e_idx {a i : E} {P : Expr → Prop} (h : sameE gt attr cx (.idx a i) x = true) (K : ∀ v s p, notSlice s = true → sameE gt attr cx a v = true → sameE gt attr cx i s = true → P (.Subscript v s p)) : P x := by
  obtain ⟨h1, h2⟩ := an2 h
  obtain ⟨p, e⟩ := tg h1
  exact Eq.subst (motive := P) (Eq.symm e) (K _ _ p (an3 h2).1 (an3 h2).2.1 (an3 h2).2.2)
theorem e_slTo {a i : E} {P : Expr → Prop} (h : sameE gt attr cx (.slTo a i) x = true) (K : ∀ v s p q, sameE gt attr cx a v = true → sameE gt attr cx i s = true → P (.Subscript v (.Slice none (some s) none q) p)) : P x := by
  obtain ⟨h1, h2, h3, h4, h5, h6⟩ := an6 h
  obtain ⟨p, e⟩ := tg h1
  obtain ⟨q, e2⟩ := tg h3
  obtain ⟨u, e3, h6⟩ := som_inv h6
  rw [Option.isNone_iff_eq_none.mp h4, Option.isNone_iff_eq_none.mp h5, e3] at e2
  exact Eq.subst (motive := P) (Eq.symm (e.trans (by rw [← e2]))) (K _ u p q h2 h6)
theorem e_slFrom {a i : E} {P : Expr → Prop} (h : sameE gt attr cx (.slFrom a i) x = true) (K : ∀ v s p q, sameE gt attr cx a v = true → sameE gt attr cx i s = true → P (.Subscript v (.Slice (some s) none none q) p)) : P x := by
  obtain ⟨h1, h2, h3, h4, h5, h6⟩ := an6 h
  obtain ⟨p, e⟩ := tg h1
  obtain ⟨q, e2⟩ := tg h3
  obtain ⟨u, e3, h6⟩ := som_inv h6
  rw [Option.isNone_iff_eq_none.mp h4, Option.isNone_iff_eq_none.mp h5, e3] at e2
  exact Eq.subst (motive := P) (Eq.symm (e.trans (by rw [← e2]))) (K _ u p q h2 h6)
theorem m1_inv (h : (tag x == .un && (uo? x == .USub && (tag (s1 x) == .const && cst? (s1 x) == .int 1))) = true) : ∃ k r t, x = .UnaryOp .USub (.Constant (.int 1) k r) t := by
  obtain ⟨h1, h2, h3, h4⟩ := an4 h
  obtain ⟨t, e⟩ := tg h1
  obtain ⟨k, r, e2⟩ := tg h3
  rw [eq_of_beq h4] at e2
  rw [eq_of_beq h2] at e
  exact ⟨k, r, t, e.trans (by rw [← e2])⟩
theorem e_slRev {a : E} {P : Expr → Prop} (h : sameE gt attr cx (.slRev a) x = true) (K : ∀ v p q k r t, sameE gt attr cx a v = true → P (.Subscript v (.Slice none none (some (.UnaryOp .USub (.Constant (.int 1) k r) t)) q) p)) : P x := by
  obtain ⟨h1, h2, h3, h4, h5, h6⟩ := an6 h
  obtain ⟨p, e⟩ := tg h1
  obtain ⟨q, e2⟩ := tg h3
  obtain ⟨u, e3, h6⟩ := som_inv h6
  obtain ⟨k, r, t, e4⟩ := m1_inv h6
  rw [Option.isNone_iff_eq_none.mp h4, Option.isNone_iff_eq_none.mp h5, e3, e4] at e2
  exact Eq.subst (motive := P) (Eq.symm (e.trans (by rw [← e2]))) (K _ p q k r t h2)
theorem e_attr {a : E} {k : Nat} {P : Expr → Prop} (h : sameE gt attr cx (.attr a k) x = true) (K : ∀ v p, notSuper v = true → sameE gt attr cx a v = true → P (.Attribute v (attr k) p)) : P x := by
  obtain ⟨h1, h2, h3, h4⟩ := an4 h
  exact Eq.subst (motive := P) (Eq.symm ((tg h1 : x = _).trans (by rw [← eq_of_beq h3]))) (K _ _ h2 h4)
theorem e_call {g : G} {args : Es} {P : Expr → Prop} (h : (isC gt cx g x && (decide ((ss x).length < 20) && sameEs gt attr cx args (ss x))) = true) (K : ∀ n p as q, (n == ("__debug__" : Str)) = false → cx.kinds.lookup n = some .globalImplicit → gt n = some g → starFree as = true → sameEs gt attr cx args as = true → P (.Call (.Name n p) as [] q)) : P x := by
  obtain ⟨h1, _, h2⟩ := an3 h
  obtain ⟨n, p, q, e, h3, h4, h5, h6⟩ := isC_inv gt h1
  exact Eq.subst (motive := P) (Eq.symm e) (K n p _ q h3 h4 h5 h6 h2)
theorem e_meth {o : E} {m : Str} {args : Es} {P : Expr → Prop} (h : sameE gt attr cx (.meth o m args) x = true) (K : ∀ v p as q, (p.endLine == q.line) = true → notSuper v = true → starFree as = true → as.length < 20 → sameE gt attr cx o v = true → sameEs gt attr cx args as = true → P (.Call (.Attribute v m p) as [] q)) : P x := by
  obtain ⟨h1, h2, h3, h4, h5, h6⟩ := an6 h
  obtain ⟨h6, h7, h8, h9⟩ := an4 h6
  have e := tg h1
  have e2 := tg h2
  rw [TgP, ← eq_of_beq h6] at e2
  rw [TgP, List.isEmpty_iff.mp h3] at e
  exact Eq.subst (motive := P) (Eq.symm (e.trans (by rw [← e2]))) (K _ _ _ _ h4 h5 h7 (of_decide_eq_true h8) (an2 h9).1 (an2 h9).2)
theorem e_isb {a : E} {P : Expr → Prop} (h : sameE gt attr cx (.isb a) x = true) (K : ∀ n p y z q r, (n == ("__debug__" : Str)) = false → cx.kinds.lookup n = some .globalImplicit → gt n = some (.blt "isinstance") → starFree [y, .Name z q] = true → (z == ("__debug__" : Str)) = false → cx.kinds.lookup z = some .globalImplicit → gt z = some (.typ "bool") → sameE gt attr cx a y = true → P (.Call (.Name n p) [y, .Name z q] [] r)) : P x := by
  obtain ⟨h1, h2⟩ := an2 h
  obtain ⟨n, p, r, e, h3, h4, h5, h6⟩ := isC_inv gt h1
  obtain ⟨y, z, e2, h2⟩ := two_inv h2
  obtain ⟨z, q, rfl, h9⟩ := isG_inv gt (an2 h2).1
  rw [e2] at e h6
  exact Eq.subst (motive := P) (Eq.symm e) (K n p y z q r h3 h4 h5 h6 h9.1 h9.2.1 h9.2.2 (an2 h2).2)
theorem e_sortk {a : E} {lp : Pos} {P : Expr → Prop} (h : sameE gt attr cx (.sortk a lp) x = true) (K : ∀ n np y p q qp kk cp sp sc kp r, (n == ("__debug__" : Str)) = false → cx.kinds.lookup n = some .globalImplicit → gt n = some (.blt "sorted") → starFree [y] = true → p.arg = q → (q == ("__debug__" : Str)) = false → (q == ("__classdict__" : Str)) = false → sc.kind = .function → sc.isGenerator = false → sc.isCoroutine = false → kindEq sc.names [(q, .local)] = true → sameE gt attr cx a y = true → P (.Call (.Name n np) [y] [⟨some ("key" : Str), .Lambda ⟨[], [p], none, [], [], none, []⟩ (.Subscript (.Name q qp) (.Constant (.int 0) kk cp) sp) sc lp, kp⟩] r)) : P x := by
  obtain ⟨h1, h2, h3, h4, h5⟩ := an5 h
  obtain ⟨n, np, e, g1, g2, g3⟩ := isG_inv gt h2
  obtain ⟨y, e2, h4⟩ := one_inv h4
  obtain ⟨k, e3, h5⟩ := one_inv h5
  obtain ⟨p, q, qp, kk, cp, sp, sc, kp, e4, f⟩ := lamOk_inv h5
  have r := tg h1
  rw [TgP, e, e2, e3, e4] at r
  rw [e2] at h3
  exact Eq.subst (motive := P) (Eq.symm r) (K n np y p q qp kk cp sp sc kp _ g1 g2 g3 h3 f.1 f.2.1 f.2.2.1 f.2.2.2.1 f.2.2.2.2.1 f.2.2.2.2.2.1 f.2.2.2.2.2.2 h4)
theorem i_one {g : G} {a : E} {P : Expr → Prop} (h : (isC gt cx g x && one (ss x) fun u => sameE gt attr cx a u) = true) (K : ∀ n p u q, (n == ("__debug__" : Str)) = false → cx.kinds.lookup n = some .globalImplicit → gt n = some g → starFree [u] = true → sameE gt attr cx a u = true → P (.Call (.Name n p) [u] [] q)) : P x := by
  obtain ⟨h1, h2⟩ := an2 h
  obtain ⟨n, p, q, e, h3, h4, h5, h6⟩ := isC_inv gt h1
  obtain ⟨u, e2, h2⟩ := one_inv h2
  rw [e2] at e h6
  exact Eq.subst (motive := P) (Eq.symm e) (K n p u q h3 h4 h5 h6 h2)
theorem i_two {g : G} {a b : E} {P : Expr → Prop} (h : (isC gt cx g x && two (ss x) fun u v => sameE gt attr cx a u && sameE gt attr cx b v) = true) (K : ∀ n p u v q, (n == ("__debug__" : Str)) = false → cx.kinds.lookup n = some .globalImplicit → gt n = some g → starFree [u, v] = true → sameE gt attr cx a u = true → sameE gt attr cx b v = true → P (.Call (.Name n p) [u, v] [] q)) : P x := by
  obtain ⟨h1, h2⟩ := an2 h
  obtain ⟨n, p, q, e, h3, h4, h5, h6⟩ := isC_inv gt h1
  obtain ⟨u, v, e2, h2⟩ := two_inv h2
  rw [e2] at e h6
  exact Eq.subst (motive := P) (Eq.symm e) (K n p u v q h3 h4 h5 h6 (an2 h2).1 (an2 h2).2)
theorem t_slot {i : Nat} {P : Expr → Prop} (h : sameT gt attr cx (.slot i) x = true) (K : ∀ n p, cx.slots.lookup n = some i → storable cx (cx.kinds.lookup n) = true → P (.Name n p)) : P x := by
  obtain ⟨h1, h2, h3⟩ := an3 h
  obtain ⟨p, e⟩ := tg h1
  exact Eq.subst (motive := P) (Eq.symm e) (K _ p (eq_of_beq h2) h3)
theorem t_tup {ts : Ts} {P : Expr → Prop} (h : sameT gt attr cx (.tup ts) x = true) (K : ∀ vs k p, starFree vs = true → sameTs gt attr cx ts vs = true → P (.Tuple vs k p)) : P x := by
  obtain ⟨h1, h2⟩ := an2 h
  obtain ⟨k, p, e⟩ := tg h1
  exact Eq.subst (motive := P) (Eq.symm e) (K _ k p (an2 h2).1 (an2 h2).2)
theorem t_attr {o : E} {k : Nat} {P : Expr → Prop} (h : sameT gt attr cx (.attr o k) x = true) (K : ∀ v p, sameE gt attr cx o v = true → P (.Attribute v (attr k) p)) : P x := by
  obtain ⟨h1, h3, h4⟩ := an3 h
  exact Eq.subst (motive := P) (Eq.symm ((tg h1 : x = _).trans (by rw [← eq_of_beq h3]))) (K _ _ h4)
theorem t_idx {o i : E} {P : Expr → Prop} (h : sameT gt attr cx (.idx o i) x = true) (K : ∀ v s p, notSlice s = true → sameE gt attr cx o v = true → sameE gt attr cx i s = true → P (.Subscript v s p)) : P x := by
  obtain ⟨h1, h2⟩ := an2 h
  obtain ⟨p, e⟩ := tg h1
  exact Eq.subst (motive := P) (Eq.symm e) (K _ _ p (an3 h2).1 (an3 h2).2.1 (an3 h2).2.2)
set_option backward.match.sparseCases true in
noncomputable def pairOf (targets : List Expr) (value : Expr) : Option (List Expr × List Expr) :=
  match targets, value with
  | [.Tuple ts _ _], .Tuple vs _ _ | [.List ts _], .Tuple vs _ _ => some (ts, vs)
  | _, _ => none
set_option backward.match.sparseCases true in
noncomputable def isStar : Expr → Bool
  | .Starred .. => true
  | _ => false
set_option backward.match.sparseCases true in
noncomputable def nameAt (kind : Str → Option NameKind) (line : Nat) : Expr → Option Str
  | .Name id pos => if kind id == some .local && pos.line == line then some id else none
  | _ => none
noncomputable def swapRoad (cx : Cx) (targets : List Expr) (value : Expr) : Option (Option (List Str)) :=
  match pairOf targets value with
  | none => some none
  | some (ts, vs) =>
    if !(ts.length == 2 || ts.length == 3) || vs.length != ts.length then some none else
    if vs.any isStar then some none else
    let line := (ts.head?.map (·.pos.line)).getD 0
    let names := ts.filterMap (nameAt (fun x => cx.kinds.lookup x) line)
    if names.length != ts.length || names.eraseDups.length != names.length then some none else
    if vs.all (foldedForSure 8) then some none else
    if vs.all (constantsAlone 8) then none else some (some names)
noncomputable def notComp : Expr → Bool
  | .ListComp .. | .SetComp .. | .DictComp .. => false
  | _ => true
noncomputable def slotsOf (cx : Cx) : List Str → List Nat → Bool
  | [], [] => true
  | x :: r, i :: is => cx.slots.lookup x == some i && cx.kinds.lookup x == some .local && slotsOf cx r is
  | _, _ => false
inductive Sg where
  | asg | aug | ifs | whl | for | ret | brk | cnt | exp | rse | other
  deriving DecidableEq
noncomputable def stag : Stmt → Sg
  | .Assign .. => .asg | .AugAssign .. => .aug | .If .. => .ifs | .While .. => .whl | .For .. => .for | .Return (some _) _ => .ret | .Return none _ => .rse | .Raise .. => .rse | .Break .. => .brk | .Continue .. => .cnt | .Expr .. => .exp | _ => .other
noncomputable def va? : Stmt → Expr
  | .Assign _ v _ => v | .AugAssign _ _ v _ => v | .If t _ _ _ => t | .While t _ _ _ => t | .For _ i _ _ _ => i | .Return (some v) _ => v | .Expr v _ => v | _ => .Name ("" : Str) ⟨0, 0, 0, 0⟩
noncomputable def tgs? : Stmt → List Expr
  | .Assign l _ _ => l | .AugAssign t _ _ _ => [t] | .For t _ _ _ _ => [t] | _ => []
noncomputable def au? : Stmt → Operator
  | .AugAssign _ o _ _ => o | _ => .Add
noncomputable def bd? : Stmt → List Stmt
  | .If _ a _ _ => a | .While _ a _ _ => a | .For _ _ a _ _ => a | _ => []
noncomputable def el? : Stmt → List Stmt
  | .If _ _ a _ => a | .While _ _ a _ => a | .For _ _ _ a _ => a | _ => []
noncomputable def SgP : Sg → Stmt → Prop
  | .asg, x => ∃ p, x = .Assign (tgs? x) (va? x) p
  | .aug, x => ∃ g p, tgs? x = [g] ∧ x = .AugAssign g (au? x) (va? x) p
  | .ifs, x => ∃ p, x = .If (va? x) (bd? x) (el? x) p
  | .whl, x => ∃ p, x = .While (va? x) (bd? x) (el? x) p
  | .for, x => ∃ g p, tgs? x = [g] ∧ x = .For g (va? x) (bd? x) (el? x) p
  | .ret, x => ∃ p, x = .Return (some (va? x)) p
  | .brk, x => ∃ p, x = .Break p
  | .cnt, x => ∃ p, x = .Continue p
  | .exp, x => ∃ p, x = .Expr (va? x) p
  | .rse, _ => True
  | .other, _ => True
theorem sgP : ∀ x, SgP (stag x) x
  | .AugAssign .. | .For .. => ⟨_, _, rfl, rfl⟩
  | .Assign .. | .If .. | .While .. | .Return (some _) _ | .Break .. | .Continue .. | .Expr .. => ⟨_, rfl⟩
  | .Return none _ | .Raise .. => trivial
  | .FunctionDef .. | .AsyncFunctionDef .. | .ClassDef .. | .Delete .. | .TypeAlias .. | .AnnAssign .. | .AsyncFor .. | .With .. | .AsyncWith .. | .Match .. | .Try .. | .TryStar .. | .Assert .. | .Import .. | .ImportFrom .. | .Global .. | .Nonlocal .. | .Pass .. => trivial
theorem sg {t : Sg} {x : Stmt} (h : (stag x == t) = true) : SgP t x := by
  rw [← eq_of_beq h]; exact sgP x
variable (gt attr)
mutual
noncomputable def sameS : Cx → S → Stmt → Bool
  | cx, .asg t e, st => stag st == .asg && (notComp (va? st) && (sameE gt attr cx e (va? st) && one (tgs? st) fun g => sameT gt attr cx t g && swapRoad cx [g] (va? st) == some none))
  | cx, .swp is e, st => stag st == .asg && (notComp (va? st) && (sameE gt attr cx e (va? st) && som (swapRoad cx (tgs? st) (va? st)) fun o => som o fun names => slotsOf cx names is))
  | cx, .asgc i e, st => stag st == .asg && (!notComp (va? st) && (sameE gt attr cx e (va? st) && one (tgs? st) fun g => tag g == .name && (cx.slots.lookup (nm g) == some i && storable cx (cx.kinds.lookup (nm g)))))
  | cx, .aug i op e, st => stag st == .aug && (au? st == op && (sameE gt attr cx e (va? st) && one (tgs? st) fun g => tag g == .name && (!(nm g == ("__classdict__" : Str)) && (cx.slots.lookup (nm g) == some i && storable cx (cx.kinds.lookup (nm g))))))
  | cx, .ifs t a b, st => stag st == .ifs && (sameE gt attr cx t (va? st) && (sameSs cx a (bd? st) && sameSs cx b (el? st)))
  | cx, .whl t b, st => stag st == .whl && (sameE gt attr cx t (va? st) && (sameSs cx b (bd? st) && (el? st).isEmpty))
  | cx, .for t it b, st => stag st == .for && (sameIt gt attr cx it (va? st) && (sameSs cx b (bd? st) && ((el? st).isEmpty && one (tgs? st) fun g => sameT gt attr cx t g)))
  | cx, .ret e, st => stag st == .ret && sameE gt attr cx e (va? st)
  | _, .brk, st => stag st == .brk
  | _, .cnt, st => stag st == .cnt
  | cx, .exp e, st => stag st == .exp && (sameE gt attr cx e (va? st) && tag (va? st) == .call)
  | _, .rse, st => stag st == .rse
noncomputable def sameSs : Cx → Ss → List Stmt → Bool
  | _, .nil, [] => true
  | cx, .cons s ss, x :: r => sameS cx s x && sameSs cx ss r
  | _, _, _ => false
end
variable {gt attr} {st : Stmt}
theorem ss_nil {l : List Stmt} (h : sameSs gt attr cx .nil l = true) : l = [] := by
  cases l with
  | nil => rfl
  | cons _ _ => exact absurd h Bool.false_ne_true
theorem ss_cons {s : S} {c : Ss} {l : List Stmt} (h : sameSs gt attr cx (.cons s c) l = true) : ∃ x r, l = x :: r ∧ sameS gt attr cx s x = true ∧ sameSs gt attr cx c r = true := by
  cases l with
  | nil => exact absurd h Bool.false_ne_true
  | cons x r => exact ⟨x, r, rfl, an2 h⟩
theorem c_asg {t : T} {e : E} {P : Stmt → Prop} (h : sameS gt attr cx (.asg t e) st = true) (K : ∀ g v p, notComp v = true → sameT gt attr cx t g = true → sameE gt attr cx e v = true → swapRoad cx [g] v = some none → P (.Assign [g] v p)) : P st := by
  obtain ⟨h1, h2, h3, h4⟩ := an4 h
  obtain ⟨p, e⟩ := sg h1
  obtain ⟨g, e2, h4⟩ := one_inv h4
  rw [e2] at e
  exact Eq.subst (motive := P) (Eq.symm e) (K g _ p h2 (an2 h4).1 h3 (eq_of_beq (an2 h4).2))
theorem c_swp {is : List Nat} {e : E} {P : Stmt → Prop} (h : sameS gt attr cx (.swp is e) st = true) (K : ∀ l v p names, notComp v = true → sameE gt attr cx e v = true → swapRoad cx l v = some (some names) → slotsOf cx names is = true → P (.Assign l v p)) : P st := by
  obtain ⟨h1, h2, h3, h4⟩ := an4 h
  obtain ⟨p, e⟩ := sg h1
  obtain ⟨o, e1, h4⟩ := som_inv h4
  obtain ⟨names, e2, h4⟩ := som_inv h4
  exact Eq.subst (motive := P) (Eq.symm e) (K _ _ p names h2 h3 (e1.trans (congrArg some e2)) h4)
theorem c_asgc {i : Nat} {e : E} {P : Stmt → Prop} (h : sameS gt attr cx (.asgc i e) st = true) (K : ∀ n q v p, notComp v = false → sameE gt attr cx e v = true → cx.slots.lookup n = some i → storable cx (cx.kinds.lookup n) = true → P (.Assign [.Name n q] v p)) : P st := by
  obtain ⟨h1, h2, h3, h4⟩ := an4 h
  obtain ⟨p, e⟩ := sg h1
  obtain ⟨g, e2, h4⟩ := one_inv h4
  obtain ⟨h4, h5, h6⟩ := an3 h4
  obtain ⟨q, e3⟩ := tg h4
  rw [e2, e3] at e
  exact Eq.subst (motive := P) (Eq.symm e) (K _ q _ p (not_t h2) h3 (eq_of_beq h5) h6)
theorem c_aug {i : Nat} {op : Operator} {e : E} {P : Stmt → Prop} (h : sameS gt attr cx (.aug i op e) st = true) (K : ∀ n q v p, (n == ("__classdict__" : Str)) = false → cx.slots.lookup n = some i → storable cx (cx.kinds.lookup n) = true → sameE gt attr cx e v = true → P (.AugAssign (.Name n q) op v p)) : P st := by
  obtain ⟨h1, h2, h3, h4⟩ := an4 h
  obtain ⟨g, p, e1, e⟩ := sg h1
  rw [e1] at h4
  obtain ⟨h4, h5, h6, h7⟩ := an4 h4
  obtain ⟨q, e3⟩ := tg h4
  rw [eq_of_beq h2, e3] at e
  exact Eq.subst (motive := P) (Eq.symm e) (K _ q _ p (not_t h5) (eq_of_beq h6) h7 h3)
theorem c_ifs {t : E} {a b : Ss} {P : Stmt → Prop} (h : sameS gt attr cx (.ifs t a b) st = true) (K : ∀ t' a' b' p, sameE gt attr cx t t' = true → sameSs gt attr cx a a' = true → sameSs gt attr cx b b' = true → P (.If t' a' b' p)) : P st := by
  obtain ⟨h1, h2⟩ := an2 h
  obtain ⟨p, e⟩ := sg h1
  exact Eq.subst (motive := P) (Eq.symm e) (K _ _ _ p (an3 h2).1 (an3 h2).2.1 (an3 h2).2.2)
theorem c_whl {t : E} {b : Ss} {P : Stmt → Prop} (h : sameS gt attr cx (.whl t b) st = true) (K : ∀ t' b' p, sameE gt attr cx t t' = true → sameSs gt attr cx b b' = true → P (.While t' b' [] p)) : P st := by
  obtain ⟨h1, h2, h3, h4⟩ := an4 h
  obtain ⟨p, e⟩ := sg h1
  exact Eq.subst (motive := P) (Eq.symm (List.isEmpty_iff.mp h4 ▸ e)) (K _ _ p h2 h3)
theorem c_for {t : T} {it : It} {b : Ss} {P : Stmt → Prop} (h : sameS gt attr cx (.for t it b) st = true) (K : ∀ g i b' p, sameT gt attr cx t g = true → sameIt gt attr cx it i = true → sameSs gt attr cx b b' = true → P (.For g i b' [] p)) : P st := by
  obtain ⟨h1, h2, h3, h4, h5⟩ := an5 h
  obtain ⟨g, p, e1, e⟩ := sg h1
  rw [e1] at h5
  rw [List.isEmpty_iff.mp h4] at e
  exact Eq.subst (motive := P) (Eq.symm e) (K g _ _ p h5 h2 h3)
theorem c_ret {e : E} {P : Stmt → Prop} (h : sameS gt attr cx (.ret e) st = true) (K : ∀ v p, sameE gt attr cx e v = true → P (.Return (some v) p)) : P st := by
  obtain ⟨h1, h2⟩ := an2 h
  obtain ⟨p, e⟩ := sg h1
  exact Eq.subst (motive := P) (Eq.symm e) (K _ p h2)
theorem c_brk (h : sameS gt attr cx .brk st = true) : ∃ p, st = .Break p := sg h
theorem c_cnt (h : sameS gt attr cx .cnt st = true) : ∃ p, st = .Continue p := sg h
theorem c_exp {e : E} {P : Stmt → Prop} (h : sameS gt attr cx (.exp e) st = true) (K : ∀ v p, sameE gt attr cx e v = true → (tag v == .call) = true → P (.Expr v p)) : P st := by
  obtain ⟨h1, h2⟩ := an2 h
  obtain ⟨p, e⟩ := sg h1
  exact Eq.subst (motive := P) (Eq.symm e) (K _ p (an2 h2).1 (an2 h2).2)
end
section
structure AOk (n : Nat) (A : Around) : Prop where
  h : A.handled = none
  d : A.depth + n ≤ 900
  u : A.units + 10 * n ≤ 9000
theorem AOk.mono {n m : Nat} {A : Around} (x : AOk n A) (h : m ≤ n) : AOk m A := ⟨x.h, by have := x.d; lia, by have := x.u; lia⟩
theorem AOk.in1 {n : Nat} {A : Around} (x : AOk (n + 1) A) : AOk n A.in1 := ⟨x.h, by have := x.d; show A.depth + n ≤ 900; lia, by have := x.u; show A.units + 1 + 10 * n ≤ 9000; lia⟩
theorem AOk.deeper {n : Nat} {A : Around} {env : Env} (x : AOk (n + 1) A) : AOk n (A.deeper env) :=
  ⟨x.h, by have := x.d; show A.depth + 1 + n ≤ 900; lia, by have := x.u; show A.units + 3 + 10 * n ≤ 9000; lia⟩
theorem cLine_9900 : cLine = 9900 := rfl
theorem AOk.room1 {n : Nat} {A : Around} (x : AOk n A) : A.in1.units < cLine := by have := x.u; rw [cLine_9900]; show A.units + 1 < 9900; lia
theorem AOk.depth {n : Nat} {A : Around} (x : AOk n A) : A.depth < recursionLimit := by have := x.d; show A.depth < 1000; lia
noncomputable abbrev Loc := List (Option V)
variable (W : Wd)
inductive LocA (cx : Cx) (env : Env) (ρ : Loc) (h : Heap) : Prop
  | mk (m : Str → Option Value) (hn : h.Ns env.locals m) (hl : ∀ x i v, cx.slots.lookup x = some i → cx.kinds.lookup x = some .local → ρ[i]? = some (some v) → ∃ y, m x = some y ∧ VR h v y)
inductive CellA (env : Env) (ρ : Loc) (H : AH) (h : Heap) (x : Str) (i : Nat) : Prop
  | mk (c : Addr) (ov : Option Value) (c1 : env.cells.lookup x = some c) (c2 : c ≠ env.locals) (c3 : H c = none) (c4 : W.base.get? c = none) (c5 : h.IsCell c ov) (c7 : ∀ v, ρ[i]? = some (some v) → ∃ y, ov = some y ∧ VR h v y)
structure Frm (cx : Cx) (env : Env) (ρ : Loc) (H : AH) (h : Heap) : Prop where
  kinds : ∀ x, env.scope.names.lookup x = cx.kinds.lookup x
  fn : env.scope.kind = .function
  gl : env.globals = mainGlobals
  bl : env.builtins = builtinsNs
  loc : LocA cx env ρ h
  locH : H env.locals = none
  locB : W.base.get? env.locals = none
  cell : ∀ x i, cx.slots.lookup x = some i → (cx.kinds.lookup x = some .cell ∨ cx.kinds.lookup x = some .free) → CellA W env ρ H h x i
  apart : ∀ x x' c, env.cells.lookup x = some c → env.cells.lookup x' = some c → x = x'
  inj : ∀ x x' i, cx.slots.lookup x = some i → cx.slots.lookup x' = some i → x = x'
  code : ∀ c q, cx.code = some (c, q) → env.code = .ref c ∧ env.qual = q
variable {W}
theorem Frm.keep {cx : Cx} {env : Env} {ρ : Loc} {H H' : AH} {h h' : Heap} (F : Frm W cx env ρ H h) (R : Rel W H h) (x : Ext H H' h h') : Frm W cx env ρ H' h' := by
  have tk := x.tups R
  obtain ⟨m, hm, hl⟩ := F.loc
  refine ⟨F.kinds, F.fn, F.gl, F.bl, ⟨m, ?_, fun y i v a b c => let ⟨z, d, e⟩ := hl y i v a b c; ⟨z, d, e.keep tk⟩⟩, ?_, F.locB, fun y i a b => ?_, F.apart, F.inj, F.code⟩
  · obtain ⟨o, es, ep, ho, r⟩ := hm
    exact ⟨o, es, ep, (x _ _ ho F.locH).1, r⟩
  · obtain ⟨o, es, ep, ho, r⟩ := hm
    exact (x _ _ ho F.locH).2
  · obtain ⟨c, ov, h1, h2, h3, h4, ⟨o, h5, h6⟩, h7⟩ := F.cell y i a b
    exact ⟨c, ov, h1, h2, (x _ _ h5 h3).2, h4, ⟨o, (x _ _ h5 h3).1, h6⟩, fun v hv => let ⟨z, d, e⟩ := h7 v hv; ⟨z, d, e.keep tk⟩⟩
theorem Step.frm {cx : Cx} {env : Env} {ρ : Loc} {H H' : AH} {s s' : Shared} (x : Step W H s H' s') (R : Rel W H s.heap) (F : Frm W cx env ρ H s.heap) : Frm W cx env ρ H' s'.heap := F.keep R x.ext
theorem Step.vr {H H' : AH} {s s' : Shared} (x : Step W H s H' s') (R : Rel W H s.heap) {v : V} {y : Value} (r : VR s.heap v y) : VR s'.heap v y := r.keep (x.ext.tups R)
theorem Step.vrs {H H' : AH} {s s' : Shared} (x : Step W H s H' s') (R : Rel W H s.heap) {v : List V} {y : List Value} (r : VRs s.heap v y) : VRs s'.heap v y := r.keep (x.ext.tups R)
variable (W)
inductive Ans (H : AH) (s : Shared) (Q : V → AH → Prop) (y : Value) (s' : Shared) : Prop
  | mk (v : V) (H' : AH) (a : VR s'.heap v y) (b : Q v H') (c : Step W H s H' s')
inductive AnsL (H : AH) (s : Shared) (Q : List V → AH → Prop) (y : List Value) (s' : Shared) : Prop
  | mk (v : List V) (H' : AH) (a : VRs s'.heap v y) (b : Q v H') (c : Step W H s H' s')
inductive AnsT (H : AH) (s : Shared) (Q : Bool → AH → Prop) (y : Bool) (s' : Shared) : Prop
  | mk (H' : AH) (b : Q y H') (c : Step W H s H' s')
noncomputable def WE (n : Nat) (cx : Cx) (e : E) (ρ : Loc) (H : AH) (Q : V → AH → Prop) : Prop :=
  ∀ (x : Expr), sameE W.gt W.attr cx e x = true → ∀ (env : Env) (s : Shared) (A : Around) (X : Value → Shared → Prop), Rel W H s.heap → Frm W cx env ρ H s.heap → AOk n A →
    wpAny W.M A (eval x env) (Ans W H s Q) X s
noncomputable def WEs (n : Nat) (cx : Cx) (e : Es) (ρ : Loc) (H : AH) (Q : List V → AH → Prop) : Prop :=
  ∀ (x : List Expr) (pos : Pos), sameEs W.gt W.attr cx e x = true → starFree x = true → ∀ (env : Env) (s : Shared) (A : Around) (X : Value → Shared → Prop), Rel W H s.heap → Frm W cx env ρ H s.heap → AOk n A →
    wpAny W.M A (spliced (backTo pos (starEach x env))) (AnsL W H s Q) X s
noncomputable def WT (n : Nat) (cx : Cx) (e : E) (ρ : Loc) (H : AH) (Q : Bool → AH → Prop) : Prop :=
  ∀ (x : Expr), sameE W.gt W.attr cx e x = true → ∀ (env : Env) (s : Shared) (A : Around) (X : Value → Shared → Prop), Rel W H s.heap → Frm W cx env ρ H s.heap → AOk n A →
    wpAny W.M A (isTrue x env (eval x env)) (AnsT W H s Q) X s
inductive AF where
  | next | brk | cnt | ret (v : V)
noncomputable def AFR (h : Heap) : AF → Flow → Prop
  | .next, .next => True
  | .brk, .brk => True
  | .cnt, .cont => True
  | .ret v, .ret x => VR h v x
  | _, _ => False
structure SF (cx : Cx) (env : Env) (H : AH) (s : Shared) (H' : AH) (s' : Shared) : Prop where
  ext : ∀ b o, s.heap.get? b = some o → H b = none → b ≠ env.locals → (∀ x i, cx.own = true → cx.slots.lookup x = some i → (cx.kinds.lookup x = some .cell ∨ cx.kinds.lookup x = some .free) → env.cells.lookup x ≠ some b) → s'.heap.get? b = some o ∧ H' b = none
  same : SmH s s'
inductive AnsS (cx : Cx) (env : Env) (H : AH) (s : Shared) (Q : AF → Loc → AH → Prop) (f : Flow) (s' : Shared) : Prop
  | mk (a : AF) (ρ' : Loc) (H' : AH) (a1 : AFR s'.heap a f) (a2 : Q a ρ' H') (a3 : Rel W H' s'.heap) (a4 : Frm W cx env ρ' H' s'.heap) (a5 : SF cx env H s H' s')
inductive AnsW (cx : Cx) (env : Env) (H : AH) (s : Shared) (Q : Loc → AH → Prop) (s' : Shared) : Prop
  | mk (ρ' : Loc) (H' : AH) (a2 : Q ρ' H') (a3 : Rel W H' s'.heap) (a4 : Frm W cx env ρ' H' s'.heap) (a5 : SF cx env H s H' s')
noncomputable def WS (n : Nat) (cx : Cx) (c : S) (ρ : Loc) (H : AH) (Q : AF → Loc → AH → Prop) : Prop :=
  ∀ (x : Stmt), sameS W.gt W.attr cx c x = true → ∀ (env : Env) (s : Shared) (A : Around) (X : Value → Shared → Prop), Rel W H s.heap → Frm W cx env ρ H s.heap → AOk n A →
    wpAny W.M A (exec x env) (AnsS W cx env H s Q) X s
noncomputable def WSs (n : Nat) (cx : Cx) (c : Ss) (ρ : Loc) (H : AH) (Q : AF → Loc → AH → Prop) : Prop :=
  ∀ (x : List Stmt), sameSs W.gt W.attr cx c x = true → ∀ (env : Env) (s : Shared) (A : Around) (X : Value → Shared → Prop), Rel W H s.heap → Frm W cx env ρ H s.heap → AOk n A →
    wpAny W.M A (execs x env) (AnsS W cx env H s Q) X s
noncomputable def WC (n : Nat) (f : Addr) (vs : List V) (H : AH) (Q : V → AH → Prop) : Prop :=
  ∀ (s : Shared) (A : Around) (X : Value → Shared → Prop) (xs : List Value), Rel W H s.heap → AOk n A → VRs s.heap vs xs →
    codeAny W.M A (.call (.ref f) ⟨xs, []⟩) (fun r s' => match r with | .ok (.ret y) => Ans W H s Q y s' | .ok _ => False | .error e => X e s') s
noncomputable def WV (n : Nat) (f : Value) (vs : List V) (H : AH) (Q : V → AH → Prop) : Prop :=
  ∀ (s : Shared) (A : Around) (X : Value → Shared → Prop) (xs : List Value), Rel W H s.heap → AOk n A → VRs s.heap vs xs →
    wpAny W.M A (PySem.call f xs) (Ans W H s Q) X s
section
variable {W : Wd} {cx : Cx} {A : Around} {X : Value → Shared → Prop} {s s0 s1 : Shared} {H H1 : AH} {env : Env}
theorem an {t : Sem Value} {Q : V → AH → Prop} {P : Value → Shared → Prop} (h : wpAny W.M A t (Ans W H s0 Q) X s) (k : ∀ y s' v H', VR s'.heap v y → Q v H' → Step W H s0 H' s' → P y s') : wpAny W.M A t P X s :=
  wpAny_mono h (fun y s' ⟨v, H', a, b, c⟩ => k y s' v H' a b c) fun _ _ z => z
theorem anL {t : Sem (List Value)} {Q : List V → AH → Prop} {P : List Value → Shared → Prop} (h : wpAny W.M A t (AnsL W H s0 Q) X s) (k : ∀ y s' v H', VRs s'.heap v y → Q v H' → Step W H s0 H' s' → P y s') : wpAny W.M A t P X s :=
  wpAny_mono h (fun y s' ⟨v, H', a, b, c⟩ => k y s' v H' a b c) fun _ _ z => z
theorem anT {t : Sem Bool} {Q : Bool → AH → Prop} {P : Bool → Shared → Prop} (h : wpAny W.M A t (AnsT W H s0 Q) X s) (k : ∀ y s' H', Q y H' → Step W H s0 H' s' → P y s') : wpAny W.M A t P X s :=
  wpAny_mono h (fun y s' ⟨H', b, c⟩ => k y s' H' b c) fun _ _ z => z
theorem anS {t : Sem Flow} {Q : AF → Loc → AH → Prop} {P : Flow → Shared → Prop} (h : wpAny W.M A t (AnsS W cx env H s0 Q) X s) (k : ∀ y s' a ρ' H', AFR s'.heap a y → Q a ρ' H' → Rel W H' s'.heap → Frm W cx env ρ' H' s'.heap → SF cx env H s0 H' s' → P y s') : wpAny W.M A t P X s :=
  wpAny_mono h (fun y s' ⟨a, ρ', H', a1, a2, a3, a4, a5⟩ => k y s' a ρ' H' a1 a2 a3 a4 a5) fun _ _ z => z
theorem anW {t : Sem Unit} {Q : Loc → AH → Prop} {P : Unit → Shared → Prop} (h : wpAny W.M A t (fun _ => AnsW W cx env H s0 Q) X s) (k : ∀ y s' ρ' H', Q ρ' H' → Rel W H' s'.heap → Frm W cx env ρ' H' s'.heap → SF cx env H s0 H' s' → P y s') : wpAny W.M A t P X s :=
  wpAny_mono h (fun y s' ⟨ρ', H', a2, a3, a4, a5⟩ => k y s' ρ' H' a2 a3 a4 a5) fun _ _ z => z
theorem aft {t : Sem Value} {Q : V → AH → Prop} (c1 : Step W H s0 H1 s1) (h : wpAny W.M A t (Ans W H1 s1 Q) X s) : wpAny W.M A t (Ans W H s0 Q) X s := an h fun _ _ v H' a b c => ⟨v, H', a, b, c1.trans c⟩
theorem aftT {t : Sem Bool} {Q : Bool → AH → Prop} (c1 : Step W H s0 H1 s1) (h : wpAny W.M A t (AnsT W H1 s1 Q) X s) : wpAny W.M A t (AnsT W H s0 Q) X s := anT h fun _ _ H' b c => ⟨H', b, c1.trans c⟩
end
variable {W} {n : Nat} {cx : Cx} {ρ : Loc} {H : AH}
theorem WE.mono {e : E} {Q Q' : V → AH → Prop} (h : WE W n cx e ρ H Q) (k : ∀ v H', Q v H' → Q' v H') : WE W n cx e ρ H Q' :=
  fun x hx env s A X R F hA => an (h x hx env s A X R F hA) fun _ _ v H' a b c => ⟨v, H', a, k _ _ b, c⟩
theorem WEs.mono {e : Es} {Q Q' : List V → AH → Prop} (h : WEs W n cx e ρ H Q) (k : ∀ v H', Q v H' → Q' v H') : WEs W n cx e ρ H Q' :=
  fun x pos hx hx' env s A X R F hA => anL (h x pos hx hx' env s A X R F hA) fun _ _ v H' a b c => ⟨v, H', a, k _ _ b, c⟩
theorem WT.mono {e : E} {Q Q' : Bool → AH → Prop} (h : WT W n cx e ρ H Q) (k : ∀ v H', Q v H' → Q' v H') : WT W n cx e ρ H Q' :=
  fun x hx env s A X R F hA => anT (h x hx env s A X R F hA) fun _ _ H' b c => ⟨H', k _ _ b, c⟩
theorem WC.imp {m : Nat} {f : Addr} {vs : List V} {Q Q' : V → AH → Prop} (h : WC W m f vs H Q) (hm : m ≤ n)
    (k : ∀ v H' s s', Q v H' → Step W H s H' s' → ∃ H'', Q' v H'' ∧ Step W H s H'' s') : WC W n f vs H Q' :=
  fun s A X xs R hA hv => codeAny_mono (h s A X xs R (hA.mono hm) hv) fun r s' z => by
    rcases r with e | (v | _ | _ | _) <;> first | exact z | skip
    obtain ⟨v, H', a, b, c⟩ := z
    obtain ⟨H'', d, e⟩ := k _ _ _ _ b c
    exact ⟨v, H'', a, d, e⟩
theorem WC.mono {m : Nat} {f : Addr} {vs : List V} {Q Q' : V → AH → Prop} (h : WC W m f vs H Q) (hm : m ≤ n) (k : ∀ v H', Q v H' → Q' v H') : WC W n f vs H Q' :=
  h.imp hm fun v H' _ _ a b => ⟨H', k _ _ a, b⟩
theorem WC.wv {f : Addr} {vs : List V} {Q : V → AH → Prop} (h : WC W n f vs H Q) : WV W n (.ref f) vs H Q :=
  fun s A X xs R hA hv => wpAny_call (h s A X xs R hA hv)
theorem WS.mono {c : S} {Q Q' : AF → Loc → AH → Prop} (h : WS W n cx c ρ H Q) (k : ∀ a ρ' H', Q a ρ' H' → Q' a ρ' H') : WS W n cx c ρ H Q' :=
  fun x hx env s A X R F hA => anS (h x hx env s A X R F hA) fun _ _ a ρ' H' a1 a2 a3 a4 a5 => ⟨a, ρ', H', a1, k _ _ _ a2, a3, a4, a5⟩
noncomputable def Sub (H' H : AH) : Prop := ∀ a o, H' a = some o → H a = some o
theorem ec {Q : V → AH → Prop} {s s' : Shared} {v : V} {y : Value} {H' : AH} (a : VR s'.heap v y) (b : Q v H') (c : Step W H s H' s') : Ans W H s Q y s' := ⟨v, H', a, b, c⟩
theorem we_cst {v : V} {Q : V → AH → Prop} (h : Q v H) : WE W n cx (.cst v) ρ H Q := by
  intro x hx env s A X R F hA
  apply e_cst hx
  intro c k p hx
  cases v with
  | none => cases eq_of_beq hx; exact fun _ _ _ => ec .none h (Step.refl R)
  | bool b => cases eq_of_beq hx; exact fun _ _ _ => ec (.bool _) h (Step.refl R)
  | int i => cases eq_of_beq hx; exact fun _ _ _ => ec (.int _ _) h ((Step.refl R).tok _)
  | str s => cases eq_of_beq hx; exact fun _ _ _ => ec (.str _ _) h ((Step.refl R).tok _)
  | _ => exact absurd hx Bool.false_ne_true
theorem ns_of_base {H : AH} {h : Heap} (R : Rel W H h) {a : Addr} {m : Str → Option Value} (x : W.base.Ns a m) : h.Ns a m :=
  x.keeps fun b o e => (R.base b o e).1
theorem load_glob {A : Around} {env : Env} {x : Str} {v : Value} {Q : Value → Shared → Prop} {X : Value → Shared → Prop} {s : Shared} (R : Rel W H s.heap) (F : Frm W cx env ρ H s.heap)
    (hk : cx.kinds.lookup x = some .globalImplicit) (hv : W.mg x = some v ∨ (W.mg x = none ∧ W.mb x = some v)) (h : Q v s) : wpAny W.M A (loadName env x) Q X s := by
  have hk' : env.kindOf x = some .globalImplicit := by unfold Env.kindOf; rw [F.kinds]; exact hk
  rw [loadName_read F.fn hk']
  have g := ns_of_base R W.g
  rw [← F.gl] at g
  rcases hv with hv | ⟨h1, h2⟩
  · exact Calls.loadGlobal_global g hv h
  · have b := ns_of_base R W.b
    rw [← F.bl] at b
    exact Calls.loadGlobal_builtin g h1 b h2 h
theorem eval_glob {A : Around} {env : Env} {x : Str} {pos : Pos} {v : Value} {Q : Value → Shared → Prop} {X : Value → Shared → Prop} {s : Shared} (R : Rel W H s.heap) (F : Frm W cx env ρ H s.heap)
    (hk : cx.kinds.lookup x = some .globalImplicit) (hd : (x == ("__debug__" : Str)) = false) (hv : W.mg x = some v ∨ (W.mg x = none ∧ W.mb x = some v)) (h : Q v s) : wpAny W.M A (eval (.Name x pos) env) Q X s :=
  wpAny_Name (load_glob R F hk hv h) hd
theorem we_glb {i : Int} {Q : V → AH → Prop} (h : Q (.int i) H) : WE W n cx (.glb i) ρ H Q := by
  intro x hx env s A X R F hA
  obtain ⟨n, p, rfl, h1, h2, h3⟩ := isG_inv _ hx
  obtain ⟨t, ht⟩ := W.gok _ _ h3
  exact eval_glob R F h2 h1 (.inl ht) (ec (.int i t) h (Step.refl R))
theorem load_slot {A : Around} {env : Env} {x : Str} {i : Nat} {v : V} {Q : Value → Shared → Prop} {X : Value → Shared → Prop} {s : Shared} (F : Frm W cx env ρ H s.heap)
    (hs : cx.slots.lookup x = some i) (hl : localish (cx.kinds.lookup x) = true) (hd : (x == ("__classdict__" : Str)) = false) (hv : ρ[i]? = some (some v)) (h : ∀ y, VR s.heap v y → Q y s) : wpAny W.M A (loadName env x) Q X s := by
  have hk : env.kindOf x = cx.kinds.lookup x := F.kinds x
  unfold localish at hl
  split at hl
  · rename_i hl'
    obtain ⟨m, hm, hl2⟩ := F.loc
    obtain ⟨y, hy, hr⟩ := hl2 x i v hs hl' hv
    exact wpAny_loadName_local F.fn (hk.trans hl') hm hy (h y hr)
  · rename_i hl'
    obtain ⟨c, ov, h1, h2, h3, h3', h4, h5⟩ := F.cell x i hs (.inl hl')
    obtain ⟨y, rfl, hr⟩ := h5 v hv
    exact wpAny_loadName_cell F.fn (hk.trans hl') h1 h4 (h y hr)
  · rename_i hl'
    obtain ⟨c, ov, h1, h2, h3, h3', h4, h5⟩ := F.cell x i hs (.inr hl')
    obtain ⟨y, rfl, hr⟩ := h5 v hv
    exact wpAny_loadName_free F.fn (hk.trans hl') h1 h4 (h y hr) hd
  · cases hl
theorem we_loc {i : Nat} {v : V} {Q : V → AH → Prop} (hv : ρ[i]? = some (some v)) (h : Q v H) : WE W n cx (.loc i) ρ H Q := by
  intro x hx env s A X R F hA
  apply e_loc hx
  intro n p h1 h2 h3 h4
  exact wpAny_Name (load_slot F h3 h4 h2 hv fun y hy => ec hy h (Step.refl R)) h1
theorem star_cons {x : Expr} {r : List Expr} {env : Env} (h : starFree (x :: r) = true) : starEach (x :: r) env = (false, eval x env) :: starEach r env ∧ starFree r = true := by
  cases x <;> first | exact ⟨rfl, h⟩ | cases h
theorem wes_nil {Q : List V → AH → Prop} (h : Q [] H) : WEs W n cx .nil ρ H Q := by
  intro x pos hx hx' env s A X R F hA
  cases es_nil hx
  exact Calls.spliced_nil ⟨[], H, .nil, h, Step.refl R⟩
theorem wes_cons {e : E} {es : Es} {Q : List V → AH → Prop} (h : WE W n cx e ρ H fun v H1 => WEs W n cx es ρ H1 fun vs H2 => Q (v :: vs) H2) : WEs W n cx (.cons e es) ρ H Q := by
  intro x pos hx hx' env s A X R F hA
  obtain ⟨x, r, rfl, h1, h2⟩ := es_cons hx
  obtain ⟨e1, e2⟩ := star_cons (env := env) hx'
  rw [e1]
  refine Calls.spliced_cons (an (h x h1 env s A X R F hA) fun y s1 v H1 a b c => ?_)
  refine anL (b r pos h2 e2 env s1 A X c.rel (c.frm R F) hA) fun ys s2 vs H2 a2 b2 c2 => ?_
  exact ⟨v :: vs, H2, .cons (c2.vr c.rel a) a2, b2, c.trans c2⟩
theorem we_tup {es : Es} {Q : V → AH → Prop} (h : WEs W n cx es ρ H fun vs H1 => vs.length ≤ 1000 ∧ Q (.tup vs) H1) : WE W n cx (.tup es) ρ H Q := by
  intro x hx env s A X R F hA
  apply e_tup hx
  intro vs k p h1 h2
  refine Tuple_ (anL (h _ _ h2 h1 env s A X R F hA) fun ys s1 vs H1 a b c => ?_)
  have hlen := a.length
  have g : ∀ b o, s1.heap.get? b = some o → (s1.heap.push { cls := .type "tuple", data := .seq ys.toArray }).get? b = some o := fun b o e => Heap.get?_push_of_some _ e
  refine wpAny_newTuple (ec (VR.tup ⟨_, Heap.get?_push_size _ rfl, rfl, 0, rfl⟩ (a.keep fun b o e _ => g b o e)) b.2 (c.trans (Step.grow (tk := s1.toks) c.rel g))) (by rw [sizeLine_eq]; lia)
theorem we_lst {es : Es} {Q : V → AH → Prop} (h : WEs W n cx es ρ H fun vs H1 => vs.length ≤ 1000 ∧ ∀ a, H1 a = none → Q (.ref a) (upd H1 a (.list vs))) : WE W n cx (.lst es) ρ H Q := by
  intro x hx env s A X R F hA
  apply e_lst hx
  intro vs p h1 h2
  refine wpAny_bind (wpAny_standAt (wpAny_bind (anL (h _ _ h2 h1 env s A X R F hA) fun ys s1 vs H1 a b c => ?_)))
  have hlen := a.length
  have g : ∀ b o, s1.heap.get? b = some o → (s1.heap.push { cls := .type "list", data := .seq ys.toArray }).get? b = some o := fun b o e => Heap.get?_push_of_some _ e
  refine wpAny_newList (ec (.ref _) (b.2 _ (c.rel.fresh (Nat.le_refl _))) (c.trans (Step.make (tk := s1.toks) c.rel (Nat.le_refl _) g ⟨ys.toArray, 0, Heap.get?_push_size _ rfl, a.keep fun b o e _ => g b o e⟩))) (by rw [sizeLine_eq]; lia)
theorem SF.of_step {env : Env} {H H' : AH} {s s' : Shared} (x : Step W H s H' s') : SF cx env H s H' s' := ⟨fun b o e h _ _ => x.ext b o e h, x.same⟩
theorem SF.refl {env : Env} {H : AH} {s : Shared} : SF cx env H s H s := ⟨fun b o e h _ _ => ⟨e, h⟩, _, _, rfl⟩
theorem SF.trans {env : Env} {H H' H'' : AH} {s s' s'' : Shared} (x : SF cx env H s H' s') (y : SF cx env H' s' H'' s'') : SF cx env H s H'' s'' := by
  refine ⟨fun b o e h h1 h2 => ?_, ?_⟩
  · obtain ⟨a, c⟩ := x.ext b o e h h1 h2
    exact y.ext b o a c h1 h2
  · exact x.same.trans y.same
theorem aftS {A : Around} {X : Value → Shared → Prop} {s s0 s1 : Shared} {H1 : AH} {env : Env} {t : Sem Flow} {Q : AF → Loc → AH → Prop} (c1 : SF cx env H s0 H1 s1) (h : wpAny W.M A t (AnsS W cx env H1 s1 Q) X s) : wpAny W.M A t (AnsS W cx env H s0 Q) X s :=
  anS h fun _ _ a ρ' H' a1 a2 a3 a4 a5 => ⟨a, ρ', H', a1, a2, a3, a4, c1.trans a5⟩
theorem Frm.not_tup {env : Env} {h : Heap} (F : Frm W cx env ρ H h) : ∀ o, h.get? env.locals = some o → ¬ isTup o := by
  obtain ⟨m, ⟨o, es, ep, e, hd, _⟩, _⟩ := F.loc
  rintro o' e' ⟨_, ⟨its, k, hd'⟩ | ⟨vs, hd'⟩⟩ <;>
  (rw [e] at e'; cases e'; rw [hd] at hd'; cases hd')
theorem Frm.cell_not_tup {env : Env} {h : Heap} (F : Frm W cx env ρ H h) {x : Str} {i : Nat} {c : Addr} (hs : cx.slots.lookup x = some i) (hk : cx.kinds.lookup x = some .cell ∨ cx.kinds.lookup x = some .free) (hc : env.cells.lookup x = some c) : ∀ o, h.get? c = some o → ¬ isTup o := by
  obtain ⟨c', ov, h1, _, _, _, ⟨o, e, hd⟩, _⟩ := F.cell x i hs hk
  rw [hc] at h1; cases h1
  rintro o' e' ⟨_, ⟨its, k, hd'⟩ | ⟨vs, hd'⟩⟩ <;>
  (rw [e] at e'; cases e'; rw [hd] at hd'; cases hd')
theorem SF.tups {env : Env} {H H' : AH} {s s' : Shared} (x : SF cx env H s H' s') (R : Rel W H s.heap) (F : Frm W cx env ρ H s.heap) : TupKeep s.heap s'.heap := fun a o e ht =>
  (x.ext a o e (R.tup_none e ht) (by rintro rfl; exact F.not_tup o e ht) fun y i _ hs hk hc => F.cell_not_tup hs hk hc o e ht).1
theorem SF.vr {env : Env} {H H' : AH} {s s' : Shared} (x : SF cx env H s H' s') (R : Rel W H s.heap) (F : Frm W cx env ρ H s.heap) {v : V} {y : Value} (r : VR s.heap v y) : VR s'.heap v y := r.keep (x.tups R F)
theorem SF.vrs {env : Env} {H H' : AH} {s s' : Shared} (x : SF cx env H s H' s') (R : Rel W H s.heap) (F : Frm W cx env ρ H s.heap) {v : List V} {y : List Value} (r : VRs s.heap v y) : VRs s'.heap v y := r.keep (x.tups R F)
theorem set_get {ρ : Loc} {i j : Nat} {v v' : V} (h : (ρ.set i (some v))[j]? = some (some v')) : (i = j ∧ v' = v) ∨ (i ≠ j ∧ ρ[j]? = some (some v')) := by
  by_cases e : i = j
  · subst e
    rw [List.getElem?_set] at h
    split at h
    · split at h
      · cases h; exact .inl ⟨rfl, rfl⟩
      · cases h
    · rename_i q; exact absurd rfl q
  · rw [List.getElem?_set_ne e] at h; exact .inr ⟨e, h⟩
theorem store_slot {A : Around} {X : Value → Shared → Prop} {env : Env} {x : Str} {i : Nat} {v : V} {y : Value} {s : Shared} {Q : Unit → Shared → Prop} (R : Rel W H s.heap) (F : Frm W cx env ρ H s.heap)
    (hs : cx.slots.lookup x = some i) (hl : storable cx (cx.kinds.lookup x) = true) (hy : VR s.heap v y) (h : ∀ s', Rel W H s'.heap → Frm W cx env (ρ.set i (some v)) H s'.heap → SF cx env H s H s' → Q () s') :
    wpAny W.M A (storeName env x y) Q X s := by
  have hk : env.kindOf x = cx.kinds.lookup x := F.kinds x
  unfold storable at hl
  split at hl
  · rename_i hl'
    obtain ⟨m, hm, hl2⟩ := F.loc
    refine wpAny_storeName_local (hk.trans hl') hm (fun h' hn sb => ?_) (by rw [F.fn]; rfl)
    have eb : Heap.ExtBut env.locals s.heap h' := fun x o hne q => (sb.2 x hne).trans q
    have R' : Rel W H h' := R.but F.locH F.locB F.not_tup eb
    have tk : TupKeep s.heap h' := fun a o e ht => eb a o (by rintro rfl; exact F.not_tup o e ht) e
    refine h _ R' ⟨F.kinds, F.fn, F.gl, F.bl, ⟨_, hn, fun x' i' v' h1 h2 h3 => ?_⟩, F.locH, F.locB, fun x' i' h1 h2 => ?_, F.apart, F.inj, F.code⟩ ⟨fun b o e _ hne _ => ⟨eb b o hne e, by assumption⟩, _, _, rfl⟩
    · rcases set_get h3 with ⟨rfl, rfl⟩ | ⟨hne, h3⟩
      · cases F.inj _ _ _ hs h1
        exact ⟨y, if_pos rfl, hy.keep tk⟩
      · obtain ⟨z, z1, z2⟩ := hl2 x' i' v' h1 h2 h3
        refine ⟨z, ?_, z2.keep tk⟩
        rw [if_neg]; exact z1
        rintro rfl; rw [hs] at h1; cases h1; exact hne rfl
    · obtain ⟨c, ov, c1, c2, c3, c4, ⟨o, c5, c6⟩, c7⟩ := F.cell x' i' h1 h2
      refine ⟨c, ov, c1, c2, c3, c4, ⟨o, eb c o c2 c5, c6⟩, fun v' h3 => ?_⟩
      rcases set_get h3 with ⟨rfl, rfl⟩ | ⟨hne, h3⟩
      · cases F.inj _ _ _ hs h1
        rw [hl'] at h2; rcases h2 with h2 | h2 <;> cases h2
      · obtain ⟨z, z1, z2⟩ := c7 v' h3
        exact ⟨z, z1, z2.keep tk⟩
  · rename_i hl'
    obtain ⟨c, ov, c1, c2, c3, c4, c5, c7⟩ := F.cell x i hs (.inl hl')
    refine wpAny_storeName_cell F.fn (hk.trans hl') c1 c5 fun h' hc sb => ?_
    have ct := F.cell_not_tup hs (.inl hl') c1
    have eb : Heap.ExtBut c s.heap h' := fun x o hne q => (sb.2 x hne).trans q
    have R' : Rel W H h' := R.but c3 c4 ct eb
    have tk : TupKeep s.heap h' := fun a o e ht => eb a o (by rintro rfl; exact ct o e ht) e
    obtain ⟨m, ⟨o, es, ep, e, hm⟩, hl2⟩ := F.loc
    refine h _ R' ⟨F.kinds, F.fn, F.gl, F.bl, ⟨m, ⟨o, es, ep, eb _ _ (Ne.symm c2) e, hm⟩, fun x' i' v' h1 h2 h3 => ?_⟩, F.locH, F.locB, fun x' i' h1 h2 => ?_, F.apart, F.inj, F.code⟩ ⟨fun b o e _ hne hcs => ⟨eb b o (fun q => hcs x i hl hs (.inl hl') (by rw [q]; exact c1)) e, by assumption⟩, _, _, rfl⟩
    · rcases set_get h3 with ⟨rfl, rfl⟩ | ⟨hne, h3⟩
      · cases F.inj _ _ _ hs h1
        rw [hl'] at h2; cases h2
      · obtain ⟨z, z1, z2⟩ := hl2 x' i' v' h1 h2 h3
        exact ⟨z, z1, z2.keep tk⟩
    · obtain ⟨c', ov', d1, d2, d3, d4, ⟨o', d5, d6⟩, d7⟩ := F.cell x' i' h1 h2
      by_cases hx : x' = x
      · subst hx
        rw [hs] at h1; cases h1
        rw [c1] at d1; cases d1
        refine ⟨c, _, c1, c2, c3, c4, hc, fun v' h3 => ?_⟩
        rcases set_get h3 with ⟨_, rfl⟩ | ⟨hne, h3⟩
        · exact ⟨y, rfl, hy.keep tk⟩
        · exact absurd rfl hne
      · have hcc : c' ≠ c := by rintro rfl; exact hx (F.apart _ _ _ d1 c1)
        refine ⟨c', ov', d1, d2, d3, d4, ⟨o', eb _ _ hcc d5, d6⟩, fun v' h3 => ?_⟩
        rcases set_get h3 with ⟨rfl, rfl⟩ | ⟨hne, h3⟩
        · exact absurd (F.inj _ _ _ h1 hs) hx
        · obtain ⟨z, z1, z2⟩ := d7 v' h3
          exact ⟨z, z1, z2.keep tk⟩
  · cases hl
end
section
variable (W : Wd)
noncomputable abbrev Out (H : AH) (Q : V → AH → Prop) (s : Shared) (A : Around) (X : Value → Shared → Prop) (t : Sem Value) : Prop :=
  wpAny W.M A t (Ans W H s Q) X s
noncomputable def OpOk (n : Nat) (op : Operator) (x y : V) (H : AH) (Q : V → AH → Prop) : Prop :=
  ∀ (s : Shared) (A : Around) (X : Value → Shared → Prop) (a b : Value), Rel W H s.heap → AOk n A → VR s.heap x a → VR s.heap y b → Out W H Q s A X (binaryOp op a b)
noncomputable def CmpOk (n : Nat) (op : CmpOp) (x y : V) (H : AH) (r : Bool) : Prop :=
  ∀ (s : Shared) (A : Around) (X : Value → Shared → Prop) (Q : Value → Shared → Prop) (a b : Value), Rel W H s.heap → AOk n A → VR s.heap x a → VR s.heap y b →
    (∀ t, Q (.bool r) { s with toks := t }) → wpAny W.M A (compareOp op a b) Q X s
variable {W} {n : Nat} {cx : Cx} {ρ : Loc} {H : AH}
theorem we_bin {op : Operator} {a b : E} {Q : V → AH → Prop} (h : WE W n cx a ρ H fun x H1 => WE W n cx b ρ H1 fun y H2 => OpOk W n op x y H2 Q) : WE W n cx (.bin op a b) ρ H Q := by
  intro x hx env s A X R F hA
  apply e_bin hx
  intro l r p h1 h2
  refine wpAny_BinOp (an (h _ h1 env s A X R F hA) fun y s1 v H1 a1 b1 c1 => ?_)
  refine an (b1 _ h2 env s1 A X c1.rel (c1.frm R F) hA) fun y2 s2 v2 H2 a2 b2 c2 => ?_
  exact aft (c1.trans c2) (b2 s2 A X y y2 c2.rel hA (c2.vr c1.rel a1) a2)
theorem vr_int {h : Heap} {i : Int} {a : Value} (x : VR h (.int i) a) : ∃ t, a = .int i t := by cases x; exact ⟨_, rfl⟩
theorem vr_bool {h : Heap} {i : Bool} {a : Value} (x : VR h (.bool i) a) : a = .bool i := by cases x; rfl
theorem vr_str {h : Heap} {i : Str} {a : Value} (x : VR h (.str i) a) : ∃ t, a = .str i t := by cases x; exact ⟨_, rfl⟩
theorem vr_none {h : Heap} {a : Value} (x : VR h .none a) : a = .none := by cases x; rfl
theorem vr_ref {h : Heap} {r : Addr} {a : Value} (x : VR h (.ref r) a) : a = .ref r := by cases x; rfl
section
variable {i j : Int} {Q : V → AH → Prop}
theorem op_add (h : Q (.int (i + j)) H) : OpOk W n .Add (.int i) (.int j) H Q := fun s A X a b R hA ha hb => by
  obtain ⟨t, rfl⟩ := vr_int ha; obtain ⟨u, rfl⟩ := vr_int hb
  exact add_int (ec (.int _ _) h ((Step.refl R).tok _))
theorem op_sub (h : Q (.int (i - j)) H) : OpOk W n .Sub (.int i) (.int j) H Q := fun s A X a b R hA ha hb => by
  obtain ⟨t, rfl⟩ := vr_int ha; obtain ⟨u, rfl⟩ := vr_int hb
  exact sub_int (ec (.int _ _) h ((Step.refl R).tok _))
theorem bits_small {a : Int} (h : a.natAbs < 2 ^ 60) : Builtin.Int.intBits a ≤ 64 := by
  unfold Builtin.Int.intBits
  split
  · lia
  · rename_i h0
    have : a.natAbs ≠ 0 := by simpa using h0
    have := (Nat.log2_lt this).mpr h
    lia
theorem op_mul (h : Q (.int (i * j)) H) (hb : i.natAbs < 2 ^ 60 ∨ j.natAbs < 2 ^ 60) : OpOk W n .Mult (.int i) (.int j) H Q := fun s A X a b R hA ha hb' => by
  obtain ⟨t, rfl⟩ := vr_int ha; obtain ⟨u, rfl⟩ := vr_int hb'
  exact mul_int (ec (.int _ _) h ((Step.refl R).tok _)) (hb.elim (fun q => IntMulOk.of_left (bits_small q)) fun q => IntMulOk.of_right (bits_small q))
theorem op_div (h : Q (.int (i.fdiv j)) H) (h0 : j ≠ 0) (hj : j.natAbs < 1073741824) : OpOk W n .FloorDiv (.int i) (.int j) H Q := fun s A X a b R hA ha hb => by
  obtain ⟨t, rfl⟩ := vr_int ha; obtain ⟨u, rfl⟩ := vr_int hb
  exact floordiv_int h0 (ec (.int _ _) h ((Step.refl R).tok _)) (.inl (PyProof.noPylong_small hj))
theorem op_mod (h : Q (.int (i.fmod j)) H) (h0 : j ≠ 0) (hj : j.natAbs < 1073741824) : OpOk W n .Mod (.int i) (.int j) H Q := fun s A X a b R hA ha hb => by
  obtain ⟨t, rfl⟩ := vr_int ha; obtain ⟨u, rfl⟩ := vr_int hb
  exact mod_int' h0 (ec (.int _ _) h ((Step.refl R).tok _))
theorem op_pow (h : Q (.int (i ^ j.toNat)) H) (h0 : 0 ≤ j) (hj : j ≤ 1000000) (hi : i.natAbs < 2 ^ 64) : OpOk W n .Pow (.int i) (.int j) H Q := fun s A X a b R hA ha hb => by
  obtain ⟨t, rfl⟩ := vr_int ha; obtain ⟨u, rfl⟩ := vr_int hb
  exact pow_int_small h0 hj hi (ec (.int _ _) h ((Step.refl R).tok _))
theorem op_shr (h : Q (.int (i.fdiv (2 ^ j.toNat))) H) (h0 : 0 ≤ j) : OpOk W n .RShift (.int i) (.int j) H Q := fun s A X a b R hA ha hb => by
  obtain ⟨t, rfl⟩ := vr_int ha; obtain ⟨u, rfl⟩ := vr_int hb
  exact rshift_int h0 (ec (.int _ _) h ((Step.refl R).tok _))
theorem op_and (h : Q (.int (Builtin.bitAnd i j)) H) : OpOk W n .BitAnd (.int i) (.int j) H Q := fun s A X a b R hA ha hb => by
  obtain ⟨t, rfl⟩ := vr_int ha; obtain ⟨u, rfl⟩ := vr_int hb
  exact and_int (ec (.int _ _) h ((Step.refl R).tok _))
theorem op_or (h : Q (.int (Builtin.bitOr i j)) H) : OpOk W n .BitOr (.int i) (.int j) H Q := fun s A X a b R hA ha hb => by
  obtain ⟨t, rfl⟩ := vr_int ha; obtain ⟨u, rfl⟩ := vr_int hb
  exact or_int (ec (.int _ _) h ((Step.refl R).tok _))
end
theorem we_neg {a : E} {Q : V → AH → Prop} (h : WE W n cx a ρ H fun x H1 => ∃ i, x = .int i ∧ Q (.int (-i)) H1) : WE W n cx (.neg a) ρ H Q := by
  intro x hx env s A X R F hA
  apply e_neg hx
  intro y p hx
  refine wpAny_bind (an (h _ hx env s A X R F hA) fun y s1 v H1 a1 w3s1 c1 => ?_)
  obtain ⟨i, e, b1⟩ := w3s1
  subst e
  obtain ⟨t, rfl⟩ := vr_int a1
  exact wpAny_bind (wpAny_standAt (wpAny_holding (neg_int (ec (.int _ _) b1 (c1.tok _)))))
section
variable {i j : Int}
theorem cmp_eqi : CmpOk W n .Eq (.int i) (.int j) H (i == j) := fun s A X Q a b R hA ha hb h => by
  obtain ⟨t, rfl⟩ := vr_int ha; obtain ⟨u, rfl⟩ := vr_int hb; exact eq_int (h s.toks)
theorem cmp_nei : CmpOk W n .NotEq (.int i) (.int j) H (i != j) := fun s A X Q a b R hA ha hb h => by
  obtain ⟨t, rfl⟩ := vr_int ha; obtain ⟨u, rfl⟩ := vr_int hb; exact ne_int (h s.toks)
theorem cmp_lt : CmpOk W n .Lt (.int i) (.int j) H (decide (i < j)) := fun s A X Q a b R hA ha hb h => by
  obtain ⟨t, rfl⟩ := vr_int ha; obtain ⟨u, rfl⟩ := vr_int hb; exact lt_int (h s.toks)
theorem cmp_le : CmpOk W n .LtE (.int i) (.int j) H (decide (i ≤ j)) := fun s A X Q a b R hA ha hb h => by
  obtain ⟨t, rfl⟩ := vr_int ha; obtain ⟨u, rfl⟩ := vr_int hb; exact le_int (h s.toks)
theorem cmp_gt : CmpOk W n .Gt (.int i) (.int j) H (decide (j < i)) := fun s A X Q a b R hA ha hb h => by
  obtain ⟨t, rfl⟩ := vr_int ha; obtain ⟨u, rfl⟩ := vr_int hb; exact gt_int (h s.toks)
theorem cmp_ge : CmpOk W n .GtE (.int i) (.int j) H (decide (j ≤ i)) := fun s A X Q a b R hA ha hb h => by
  obtain ⟨t, rfl⟩ := vr_int ha; obtain ⟨u, rfl⟩ := vr_int hb; exact ge_int (h s.toks)
end
noncomputable def V.isNone : V → Bool | .none => true | _ => false
theorem vr_isNone {h : Heap} {v : V} {a : Value} (x : VR h v a) : (a == Value.none) = v.isNone := by cases x <;> rfl
theorem cmp_is {v : V} : CmpOk W n .Is v .none H v.isNone := fun s A X Q a b R hA ha hb h => by
  cases vr_none hb; exact PySem.is_none (by rw [vr_isNone ha]; exact h s.toks)
theorem cmp_isNot {v : V} : CmpOk W n .IsNot v .none H (!v.isNone) := fun s A X Q a b R hA ha hb h => by
  cases vr_none hb; exact PySem.isNot_none (by rw [vr_isNone ha]; exact h s.toks)
inductive Den (H : AH) : V → PyData → Prop
  | none : Den H .none .none
  | bool (b : Bool) : Den H (.bool b) (.bool b)
  | int (i : Int) : Den H (.int i) (.int i)
  | str (x : Str) : Den H (.str x) (.str x)
  | tupNil : Den H (.tup []) (.tuple [])
  | tupCons {v : V} {d : PyData} {l : List V} {ds : List PyData} : Den H v d → Den H (.tup l) (.tuple ds) → Den H (.tup (v :: l)) (.tuple (d :: ds))
  | list {a : Addr} {l : List V} {ds : List PyData} : H a = some (.list l) → Den H (.tup l) (.tuple ds) → Den H (.ref a) (.list ds)
theorem Den.reads {h : Heap} (R : Rel W H h) {v : V} {d : PyData} (x : Den H v d) : (∀ y, VR h v y → ∃ as, Reads h y d as) ∧ (∀ l, v = .tup l → ∀ ys, VRs h l ys → ∀ ds, d = .tuple ds → ∃ as, ReadsAll h ys ds as) := by
  induction x with
  | none => exact ⟨fun y hy => by cases hy; exact ⟨_, .none⟩, fun l e => by cases e⟩
  | bool b => exact ⟨fun y hy => by cases hy; exact ⟨_, .bool b⟩, fun l e => by cases e⟩
  | int i => exact ⟨fun y hy => by cases hy; exact ⟨_, .int i _⟩, fun l e => by cases e⟩
  | str x => exact ⟨fun y hy => by cases hy; exact ⟨_, .str x _⟩, fun l e => by cases e⟩
  | tupNil =>
    have k : ∀ l, V.tup [] = .tup l → ∀ ys, VRs h l ys → ∀ ds, PyData.tuple [] = .tuple ds → ∃ as, ReadsAll h ys ds as := fun l e ys hy ds e' => by cases e; cases e'; cases hy; exact ⟨_, .nil⟩
    refine ⟨fun y hy => ?_, k⟩
    cases hy with
    | tup e r => obtain ⟨as, q⟩ := k _ rfl _ r _ rfl; obtain ⟨o, e1, e2, n, e3⟩ := e; exact ⟨_, .tuple e1 e2 e3 q⟩
  | @tupCons v d l ds _ _ ih1 ih2 =>
    have k : ∀ l', V.tup (v :: l) = .tup l' → ∀ ys, VRs h l' ys → ∀ ds', PyData.tuple (d :: ds) = .tuple ds' → ∃ as, ReadsAll h ys ds' as := fun l' e ys hy ds' e' => by
      cases e; cases e'
      cases hy with
      | cons r1 r2 =>
        obtain ⟨as, q⟩ := ih1.1 _ r1
        obtain ⟨bs, q2⟩ := ih2.2 _ rfl _ r2 _ rfl
        exact ⟨_, .cons q q2⟩
    refine ⟨fun y hy => ?_, k⟩
    cases hy with
    | tup e r => obtain ⟨as, q⟩ := k _ rfl _ r _ rfl; obtain ⟨o, e1, e2, n, e3⟩ := e; exact ⟨_, .tuple e1 e2 e3 q⟩
  | @list a l ds e _ ih =>
    refine ⟨fun y hy => ?_, fun l e => by cases e⟩
    cases hy
    obtain ⟨its, m, e', r⟩ := R.objs _ _ e
    obtain ⟨as, q⟩ := ih.2 _ rfl _ r _ rfl
    exact ⟨_, .list e' rfl rfl q⟩
theorem Den.read {h : Heap} (R : Rel W H h) {v : V} {d : PyData} (x : Den H v d) {y : Value} (hy : VR h v y) : ∃ as, Reads h y d as := (x.reads R).1 y hy
theorem cmp_eqd {v u : V} {d e : PyData} (hv : Den H v d) (hu : Den H u e) (hd : d.canLay0 = true) (he : e.canLay0 = true) (hr : min d.depth e.depth ≤ 100) : CmpOk W n .Eq v u H (PyData.eqv d e) :=
  fun s A X Q a b R hA ha hb h => by
    obtain ⟨as, ra⟩ := hv.read R ha
    obtain ⟨bs, rb⟩ := hu.read R hb
    exact SeqAt.compareEq_reads ra rb hd he (by have := hA.u; rw [cLine_9900]; lia) (h s.toks)
theorem cmp_ned {v u : V} {d e : PyData} (hv : Den H v d) (hu : Den H u e) (hd : d.canLay0 = true) (he : e.canLay0 = true) (hr : min d.depth e.depth ≤ 100) : CmpOk W n .NotEq v u H (!PyData.eqv d e) :=
  fun s A X Q a b R hA ha hb h => by
    obtain ⟨as, ra⟩ := hv.read R ha
    obtain ⟨bs, rb⟩ := hu.read R hb
    exact SeqAt.compareNe_reads ra rb hd he (by have := hA.u; rw [cLine_9900]; lia) (h s.toks)
theorem cmp_ind {v u : V} {d : PyData} {ds : List PyData} (hv : Den H v d) (hu : Den H u (.list ds) ∨ Den H u (.tuple ds)) (hd : d.canLay0 = true) (he : PyData.canLayAll0 ds = true) (hr : min (PyData.depthAll ds) d.depth ≤ 100) :
    CmpOk W n .In v u H (ds.any fun y => PyData.eqv y d) :=
  fun s A X Q a b R hA ha hb h => by
    obtain ⟨as, ra⟩ := hv.read R ha
    rcases hu with hu | hu
    · obtain ⟨bs, rb⟩ := hu.read R hb
      exact SeqAt.in_list_reads rb ra he hd (by have := hA.u; rw [cLine_9900]; lia) (h s.toks)
    · obtain ⟨bs, rb⟩ := hu.read R hb
      exact SeqAt.in_tuple_reads rb ra he hd (by have := hA.u; rw [cLine_9900]; lia) (h s.toks)
theorem we_cmp {op : CmpOp} {a b : E} {Q : V → AH → Prop} (h : WE W n cx a ρ H fun x H1 => WE W n cx b ρ H1 fun y H2 => ∃ r, CmpOk W n op x y H2 r ∧ Q (.bool r) H2) : WE W n cx (.cmp a op b) ρ H Q := by
  intro x hx env s A X R F hA
  apply e_cmp hx
  intro l r p h0 h1 h2
  refine wpAny_Compare1 (an (h _ h1 env s A X R F hA) fun y s1 v H1 a1 b1 c1 => ?_) h0
  refine an (b1 _ h2 env s1 A X c1.rel (c1.frm R F) hA) fun y2 s2 v2 H2 a2 w3s2 c2 => ?_
  obtain ⟨r, b2, b3⟩ := w3s2
  exact b2 s2 A X _ y y2 c2.rel hA (c2.vr c1.rel a1) a2 fun t => ec (.bool r) b3 ((c1.trans c2).tok t)
theorem wt_cmp {op : CmpOp} {a b : E} {Q : Bool → AH → Prop} (h : WE W n cx a ρ H fun x H1 => WE W n cx b ρ H1 fun y H2 => ∃ r, CmpOk W n op x y H2 r ∧ Q r H2) : WT W n cx (.cmp a op b) ρ H Q := by
  intro x hx env s A X R F hA
  apply e_cmp hx
  intro l r p h0 h1 h2
  refine wpAny_isTrue_Compare1 (an (h _ h1 env s A X R F hA) fun y s1 v H1 a1 b1 c1 => ?_) h0
  refine an (b1 _ h2 env s1 A X c1.rel (c1.frm R F) hA) fun y2 s2 v2 H2 a2 w3s2 c2 => ?_
  obtain ⟨r, b2, b3⟩ := w3s2
  exact b2 s2 A X _ y y2 c2.rel hA (c2.vr c1.rel a1) a2 fun t => wpAny_truthy_bool ⟨H2, b3, (c1.trans c2).tok t⟩
theorem we_cmp2 {op op' : CmpOp} {a b c : E} {Q : V → AH → Prop} (h : WE W n cx a ρ H fun x H1 => WE W n cx b ρ H1 fun y H2 => ∃ r, CmpOk W n op x y H2 r ∧
    (r = false → Q (.bool false) H2) ∧ (r = true → WE W n cx c ρ H2 fun z H3 => ∃ r', CmpOk W n op' y z H3 r' ∧ Q (.bool r') H3)) : WE W n cx (.cmp2 a op b op' c) ρ H Q := by
  intro x hx env s A X R F hA
  apply e_cmp2 hx
  intro l r1 r2 p h0 h1 h2 h3
  refine Compare_chain (rs := []) (an (h _ h1 env s A X R F hA) fun y s1 v H1 a1 b1 c1 => ?_) h0
  refine chain_link (an (b1 _ h2 env s1 A X c1.rel (c1.frm R F) hA) fun y2 s2 v2 H2 a2 w3s2 c2 => ?_)
  obtain ⟨r, b2, b3, b4⟩ := w3s2
  refine b2 s2 A X _ y y2 c2.rel hA (c2.vr c1.rel a1) a2 fun t => wpAny_truthy_bool ?_
  cases r with
  | false => exact ec (.bool false) (b3 rfl) ((c1.trans c2).tok t)
  | true =>
    have c2' := (c1.trans c2).tok t
    refine chain_last (an (b4 rfl _ h3 env _ A X c2'.rel (c2'.frm R F) hA) fun y3 s3 v3 H3 a3 w3s3 c3 => ?_)
    obtain ⟨r', b5, b6⟩ := w3s3
    exact b5 s3 A X _ y2 y3 c3.rel hA (c3.vr c2'.rel a2) a3 fun t => ec (.bool r') b6 ((c2'.trans c3).tok t)
theorem wt_cmp2 {op op' : CmpOp} {a b c : E} {Q : Bool → AH → Prop} (h : WE W n cx a ρ H fun x H1 => WE W n cx b ρ H1 fun y H2 => ∃ r, CmpOk W n op x y H2 r ∧
    (r = false → Q false H2) ∧ (r = true → WE W n cx c ρ H2 fun z H3 => ∃ r', CmpOk W n op' y z H3 r' ∧ Q r' H3)) : WT W n cx (.cmp2 a op b op' c) ρ H Q := by
  intro x hx env s A X R F hA
  apply e_cmp2 hx
  intro l r1 r2 p h0 h1 h2 h3
  refine isTrue_chain (rs := []) (an (h _ h1 env s A X R F hA) fun y s1 v H1 a1 b1 c1 => ?_) h0
  refine test_link (an (b1 _ h2 env s1 A X c1.rel (c1.frm R F) hA) fun y2 s2 v2 H2 a2 w3s2 c2 => ?_)
  obtain ⟨r, b2, b3, b4⟩ := w3s2
  refine b2 s2 A X _ y y2 c2.rel hA (c2.vr c1.rel a1) a2 fun t => wpAny_truthy_bool ?_
  cases r with
  | false => exact ⟨H2, b3 rfl, (c1.trans c2).tok t⟩
  | true =>
    have c2' := (c1.trans c2).tok t
    refine test_last (an (b4 rfl _ h3 env _ A X c2'.rel (c2'.frm R F) hA) fun y3 s3 v3 H3 a3 w3s3 c3 => ?_)
    obtain ⟨r', b5, b6⟩ := w3s3
    exact b5 s3 A X _ y2 y3 c3.rel hA (c3.vr c2'.rel a2) a3 fun t => wpAny_truthy_bool ⟨H3, b6, (c2'.trans c3).tok t⟩
theorem wt_val {e : E} {Q : Bool → AH → Prop} (k : ∀ x env, sameE W.gt W.attr cx e x = true → isTrue x env (eval x env) = (do let v ← eval x env; standAt x.pos; holding [v] (truthy v))) (h : WE W n cx e ρ H fun v H1 => ∃ b, v = .bool b ∧ Q b H1) : WT W n cx e ρ H Q := by
  intro x hx env s A X R F hA
  refine isTrue_plain (an (h x hx env s A X R F hA) fun y s1 v H1 a1 w3s1 c1 => ?_) (k x env hx)
  obtain ⟨b, e, b1⟩ := w3s1
  subst e
  cases vr_bool a1
  exact wpAny_truthy_bool ⟨H1, b1, c1⟩
theorem pt_loc {i : Nat} (x : Expr) (env : Env) (h : sameE W.gt W.attr cx (.loc i) x = true) : isTrue x env (eval x env) = (do let v ← eval x env; standAt x.pos; holding [v] (truthy v)) := by
  apply e_loc h; intros; rfl
theorem pt_idx {a i : E} (x : Expr) (env : Env) (h : sameE W.gt W.attr cx (.idx a i) x = true) : isTrue x env (eval x env) = (do let v ← eval x env; standAt x.pos; holding [v] (truthy v)) := by
  apply e_idx h; intros; rfl
theorem pt_call {f : Addr} {as : Es} (x : Expr) (env : Env) (h : sameE W.gt W.attr cx (.call f as) x = true) : isTrue x env (eval x env) = (do let v ← eval x env; standAt x.pos; holding [v] (truthy v)) := by
  apply e_call h; intros; rfl
theorem wt_not {e : E} {Q : Bool → AH → Prop} (h : WT W n cx e ρ H fun b H1 => Q (!b) H1) : WT W n cx (.not e) ρ H Q := by
  intro x hx env s A X R F hA
  apply e_not hx
  intro y p hx
  exact isTrue_not (anT (h _ hx env s A X R F hA) fun y s1 H1 b1 c1 => ⟨H1, b1, c1⟩)
theorem wt_ife {t a b : E} {Q : Bool → AH → Prop} (h : WT W n cx t ρ H fun r H1 => (r = true → WT W n cx a ρ H1 Q) ∧ (r = false → WT W n cx b ρ H1 Q)) : WT W n cx (.ife t a b) ρ H Q := by
  intro x hx env s A X R F hA
  apply e_ife hx
  intro t a b p h1 h2 h3
  refine isTrue_IfExp (anT (h _ h1 env s A X R F hA) fun r s1 H1 b1 c1 => ?_)
  cases r with
  | true => exact aftT c1 (b1.1 rfl _ h2 env s1 A X c1.rel (c1.frm R F) hA)
  | false => exact aftT c1 (b1.2 rfl _ h3 env s1 A X c1.rel (c1.frm R F) hA)
theorem we_ife {t a b : E} {Q : V → AH → Prop} (h : WT W n cx t ρ H fun r H1 => (r = true → WE W n cx a ρ H1 Q) ∧ (r = false → WE W n cx b ρ H1 Q)) : WE W n cx (.ife t a b) ρ H Q := by
  intro x hx env s A X R F hA
  apply e_ife hx
  intro t a b p h1 h2 h3
  refine wpAny_bind (anT (h _ h1 env s A X R F hA) fun r s1 H1 b1 c1 => ?_)
  cases r with
  | true => exact aft c1 (b1.1 rfl _ h2 env s1 A X c1.rel (c1.frm R F) hA)
  | false => exact aft c1 (b1.2 rfl _ h3 env s1 A X c1.rel (c1.frm R F) hA)
noncomputable def WBop (W : Wd) (n : Nat) (cx : Cx) (op : BoolOp) : Es → Loc → AH → (Bool → AH → Prop) → Prop
  | .nil, _, H, Q => Q (op == .And) H
  | .cons e es, ρ, H, Q => WT W n cx e ρ H fun r H1 => match op, r with
    | .And, false => Q false H1
    | .Or, true => Q true H1
    | _, _ => WBop W n cx op es ρ H1 Q
theorem wbop {op : BoolOp} : ∀ {es : Es} {ρ : Loc} {H : AH} {Q : Bool → AH → Prop}, WBop W n cx op es ρ H Q → ∀ (xs : List Expr) (p : Pos) (whole : Sem Value), sameEs W.gt W.attr cx es xs = true →
    ∀ (env : Env) (s : Shared) (A : Around) (X : Value → Shared → Prop), Rel W H s.heap → Frm W cx env ρ H s.heap → AOk n A →
    wpAny W.M A (isTrue (.BoolOp op xs p) env whole) (AnsT W H s Q) X s
  | .nil, ρ, H, Q, h, xs, p, whole, hx, env, s, A, X, R, F, hA => by
    cases es_nil hx
    cases op with
    | And => exact isTrue_and_nil ⟨H, h, Step.refl R⟩
    | Or => exact isTrue_or_nil ⟨H, h, Step.refl R⟩
  | .cons e es, ρ, H, Q, h, xs, p, whole, hx, env, s, A, X, R, F, hA => by
    obtain ⟨x, r, rfl, h1, h2⟩ := es_cons hx
    have go : ∀ {s1 : Shared} {H1 : AH}, WBop W n cx op es ρ H1 Q → Step W H s H1 s1 → wpAny W.M A (isTrue (.BoolOp op r p) env whole) (AnsT W H s Q) X s1 := fun hb c1 =>
      aftT c1 (wbop hb r p whole h2 env _ A X c1.rel (c1.frm R F) hA)
    cases op with
    | And =>
      refine isTrue_and (anT ((h : WT W n cx e ρ H _) x h1 env s A X R F hA) fun b s1 H1 b1 c1 => ?_)
      cases b with
      | false => exact ⟨H1, b1, c1⟩
      | true => exact go b1 c1
    | Or =>
      refine isTrue_or (anT ((h : WT W n cx e ρ H _) x h1 env s A X R F hA) fun b s1 H1 b1 c1 => ?_)
      cases b with
      | true => exact ⟨H1, b1, c1⟩
      | false => exact go b1 c1
theorem wt_bop {op : BoolOp} {es : Es} {Q : Bool → AH → Prop} (h : WBop W n cx op es ρ H Q) : WT W n cx (.bop op es) ρ H Q := by
  intro x hx env s A X R F hA
  apply e_bop hx
  intro vs p h1
  exact wbop h _ _ _ h1 env s A X R F hA
theorem we_and2 {a b : E} {Q : V → AH → Prop} (h : WE W n cx a ρ H fun v H1 => ∃ r, v = .bool r ∧ (r = false → Q (.bool false) H1) ∧ (r = true → WE W n cx b ρ H1 Q)) : WE W n cx (.bop .And (.cons a (.cons b .nil))) ρ H Q := by
  intro x hx env s A X R F hA
  apply e_bop hx
  intro vs p g1
  obtain ⟨x, r1, rfl, h1, g2⟩ := es_cons g1
  obtain ⟨y, r2, rfl, h2, g3⟩ := es_cons g2
  cases es_nil g3
  clear g1 g2 g3 hx
  refine wpAny_And2 (an (h x h1 env s A X R F hA) fun v s1 v H1 a1 w3s1 c1 => ?_)
  obtain ⟨r, e, b1, b2⟩ := w3s1
  subst e
  cases vr_bool a1
  refine wpAny_truthy_bool ?_
  cases r with
  | false => exact ec (.bool false) (b1 rfl) c1
  | true => exact aft c1 (b2 rfl y h2 env s1 A X c1.rel (c1.frm R F) hA)
end
section
section
variable {K : Type} [DecidableEq K]
noncomputable def alook {α : Type} (l : List (K × α)) (k : K) : Option α := (l.find? fun x => decide (x.1 = k)).map (·.2)
noncomputable def astore {α : Type} (l : List (K × α)) (k : K) (v : α) : List (K × α) := if l.any (fun x => decide (x.1 = k)) then l.map (fun x => if x.1 = k then (x.1, v) else x) else l ++ [(k, v)]
noncomputable def adel {α : Type} (l : List (K × α)) (k : K) : List (K × α) := l.filter fun x => decide (x.1 ≠ k)
inductive PR (h : Heap) : List (K × V) → List (K × Value) → Prop
  | nil : PR h [] []
  | cons {k : K} {v : V} {x : Value} {l : List (K × V)} {m : List (K × Value)} : VR h v x → PR h l m → PR h ((k, v) :: l) ((k, x) :: m)
theorem PR.of {h : Heap} : ∀ {l : List (K × V)} {m : List (K × Value)}, m.map (·.1) = l.map (·.1) → VRs h (l.map (·.2)) (m.map (·.2)) → PR h l m
  | [], [], _, _ => .nil
  | [], _ :: _, e, _ => by simp at e
  | _ :: _, [], e, _ => by simp at e
  | (k, v) :: l, (k', x) :: m, e, r => by
    simp only [List.map_cons, List.cons.injEq] at e r
    obtain ⟨rfl, e⟩ := e
    cases r with | cons a b => exact .cons a (PR.of e b)
theorem PR.keys {h : Heap} {l : List (K × V)} {m : List (K × Value)} (x : PR h l m) : m.map (·.1) = l.map (·.1) := by
  induction x with
  | nil => rfl
  | cons _ _ ih => simp [ih]
theorem PR.vals {h : Heap} {l : List (K × V)} {m : List (K × Value)} (x : PR h l m) : VRs h (l.map (·.2)) (m.map (·.2)) := by
  induction x with
  | nil => exact .nil
  | cons a _ ih => exact .cons a ih
theorem PR.keep {h h' : Heap} (k : TupKeep h h') {l : List (K × V)} {m : List (K × Value)} (x : PR h l m) : PR h' l m := by
  induction x with
  | nil => exact .nil
  | cons a _ ih => exact .cons (a.keep k) ih
theorem PR.look {h : Heap} {l : List (K × V)} {m : List (K × Value)} (x : PR h l m) (k : K) : (alook l k = none ∧ valueAt m k = none) ∨ ∃ v y, alook l k = some v ∧ valueAt m k = some y ∧ VR h v y := by
  induction x with
  | nil => exact .inl ⟨rfl, rfl⟩
  | @cons k' v x l m a _ ih =>
    by_cases e : k' = k
    · exact .inr ⟨v, x, by simp [alook, e], by simp [valueAt, e], a⟩
    · rcases ih with ⟨h1, h2⟩ | ⟨v', y', h1, h2, h3⟩
      · exact .inl ⟨by simpa [alook, e] using h1, by simpa [valueAt, e] using h2⟩
      · exact .inr ⟨v', y', by simpa [alook, e] using h1, by simpa [valueAt, e] using h2, h3⟩
theorem PR.append {h : Heap} {l l' : List (K × V)} {m m' : List (K × Value)} (x : PR h l m) (y : PR h l' m') : PR h (l ++ l') (m ++ m') := by
  induction x with
  | nil => exact y
  | cons a _ ih => exact .cons a ih
theorem PR.any {h : Heap} {l : List (K × V)} {m : List (K × Value)} (x : PR h l m) (k : K) : (m.any fun kv => kv.1 = k) = l.any fun kv => decide (kv.1 = k) := by
  induction x with
  | nil => rfl
  | cons _ _ ih => simp [ih]
theorem PR.mapSet {h : Heap} {l : List (K × V)} {m : List (K × Value)} (x : PR h l m) (k : K) {v : V} {y : Value} (r : VR h v y) :
    PR h (l.map fun x => if x.1 = k then (x.1, v) else x) (m.map fun kv => if kv.1 = k then (kv.1, y) else kv) := by
  induction x with
  | nil => exact .nil
  | @cons k' v' x' l m a _ ih =>
    simp only [List.map_cons]
    by_cases e : k' = k
    · rw [if_pos e, if_pos e]; exact .cons r ih
    · rw [if_neg e, if_neg e]; exact .cons a ih
theorem PR.store {h : Heap} {l : List (K × V)} {m : List (K × Value)} (x : PR h l m) (k : K) {v : V} {y : Value} (r : VR h v y) : PR h (astore l k v) (stored m k y) := by
  unfold astore stored
  rw [x.any k]
  split
  · exact x.mapSet k r
  · exact x.append (.cons r .nil)
theorem PR.del {h : Heap} {l : List (K × V)} {m : List (K × Value)} (x : PR h l m) (k : K) : PR h (adel l k) (without m k) := by
  induction x with
  | nil => exact .nil
  | @cons k' v' x' l m a _ ih =>
    unfold adel without at ih ⊢
    simp only [List.filter_cons]
    by_cases e : k' = k
    · simpa [e] using ih
    · simpa [e] using PR.cons (k := k') a ih
theorem PR.length {h : Heap} {l : List (K × V)} {m : List (K × Value)} (x : PR h l m) : l.length = m.length := by
  induction x with
  | nil => rfl
  | cons _ _ ih => simp [ih]
noncomputable def flat (xs : List (K × Addr × Value)) : List (K × Value) := xs.map fun x => (x.1, x.2.2)
theorem atKey_flat (xs : List (K × Addr × Value)) (k : K) : (atKey xs k).map (·.2) = valueAt (flat xs) k := by
  unfold atKey valueAt flat
  induction xs with
  | nil => rfl
  | cons x xs ih =>
    by_cases e : x.1 = k
    · simp [e]
    · simpa [e] using ih
theorem storedH_flat (xs : List (K × Addr × Value)) (k : K) (a : Addr) (v : Value) : flat (storedH xs k a v) = stored (flat xs) k v := by
  unfold storedH stored flat
  have h : (atKey xs k).isSome = (xs.map fun x => (x.1, x.2.2)).any (fun kv => decide (kv.1 = k)) := by
    unfold atKey
    induction xs with
    | nil => rfl
    | cons x xs ih =>
      by_cases e : x.1 = k
      · simp [e]
      · simpa [e] using ih
  rw [h]
  split
  · simp only [List.map_map]
    refine List.map_congr_left fun x _ => ?_
    simp only [Function.comp, putAt]
    split <;> simp_all
  · simp
end
variable {W : Wd} {n : Nat} {cx : Cx} {ρ : Loc} {H : AH}
theorem OR.idict_pr {h : Heap} {a : Addr} {l : List (Int × V)} (x : OR W h a (.idict l)) : ∃ kvs, h.DictOf (intKind W.prog W.w) a kvs ∧ PR h l kvs := let ⟨kvs, h1, h2, h3⟩ := x; ⟨kvs, h1, .of h2 h3⟩
theorem OR.sdict_pr {h : Heap} {a : Addr} {l : List (Str × V)} (x : OR W h a (.sdict l)) : ∃ kvs, h.DictOf (strKind W.prog W.w) a kvs ∧ PR h l kvs := let ⟨kvs, h1, h2, h3⟩ := x; ⟨kvs, h1, .of h2 h3⟩
theorem OR.tdict_pr {h : Heap} {a : Addr} {l : List (List Int × V)} {ep : Option Nat} (x : OR W h a (.tdict l ep)) : ∃ xs, h.DictOfH (tupleKind (intKind W.prog W.w)) a xs ∧ PR h l (flat xs) :=
  let ⟨xs, h1, h2, h3, _⟩ := x; ⟨xs, h1, .of (by unfold flat; simpa [List.map_map, Function.comp_def] using h2) (by unfold flat; simpa [List.map_map, Function.comp_def] using h3)⟩
theorem OR.of_idict {h : Heap} {a : Addr} {l : List (Int × V)} {kvs : List (Int × Value)} (x : h.DictOf (intKind W.prog W.w) a kvs) (p : PR h l kvs) : OR W h a (.idict l) := ⟨kvs, x, p.keys, p.vals⟩
theorem OR.of_sdict {h : Heap} {a : Addr} {l : List (Str × V)} {kvs : List (Str × Value)} (x : h.DictOf (strKind W.prog W.w) a kvs) (p : PR h l kvs) : OR W h a (.sdict l) := ⟨kvs, x, p.keys, p.vals⟩
theorem OR.of_tdict {h : Heap} {a : Addr} {l : List (List Int × V)} {xs : List (List Int × Addr × Value)} (x : h.DictOfH (tupleKind (intKind W.prog W.w)) a xs) (p : PR h l (flat xs)) : OR W h a (.tdict l none) :=
  ⟨xs, x, by have := p.keys; unfold flat at this; simpa [List.map_map, Function.comp_def] using this, by have := p.vals; unfold flat at this; simpa [List.map_map, Function.comp_def] using this, fun _ h => by cases h⟩
@[reducible] noncomputable def tupI (ks : List Int) : V := .tup (ks.map .int)
theorem itemsAre_of {h : Heap} : ∀ {ks : List Int} {ys : List Value}, VRs h (ks.map V.int) ys → ItemsAre (intKind W.prog W.w) ks ys
  | [], _, r => by cases r; exact .nil
  | k :: ks, _, r => by
    cases r with
    | cons a b => cases a with | int _ t => exact .cons (by simp [intKind, Value.isInt]) (itemsAre_of b)
theorem vr_key {h : Heap} {ks : List Int} {y : Value} (r : VR h (tupI ks) y) : ∃ a, y = .ref a ∧ (tupleKind (intKind W.prog W.w)).is h ks a := by
  unfold tupI at r
  cases r with
  | tup e r => obtain ⟨o, e1, e2, n, e3⟩ := e; exact ⟨_, rfl, _, _, _, e1, e2, e3, itemsAre_of r⟩
theorem vr_tup {h : Heap} {l : List V} {y : Value} (r : VR h (.tup l) y) : ∃ a items, y = .ref a ∧ IsTup h a items ∧ VRs h l items.toList := by
  cases r with
  | tup e r => exact ⟨_, _, rfl, e, r⟩
theorem int_is (k : Int) (t : Tok) : (intKind W.prog W.w).is k (.int k t) = true := by simp [intKind, Value.isInt]
theorem Rel.sys {h : Heap} (R : Rel W H h) {a : Addr} {o : O} (e : H a = some o) : (a == sysModules) = false := by
  obtain ⟨ob, hb⟩ := W.sysm
  rw [beq_eq_false_iff_ne]
  rintro rfl
  rw [(R.base _ _ hb).2] at e; cases e
noncomputable def IdxOk (W : Wd) (n : Nat) (x i : V) (H : AH) (Q : V → AH → Prop) : Prop :=
  ∀ (s : Shared) (A : Around) (X : Value → Shared → Prop) (a b : Value), Rel W H s.heap → AOk n A → VR s.heap x a → VR s.heap i b →
    (∃ T id, s.TypeIs a T ∧ typeLookup (.type T) "__getitem__" = pure (some (.builtin id))) ∧ Out W H Q s A X (getItem a b)
theorem tl_list : typeLookup (.type "list") "__getitem__" = pure (some (.builtin "list.__getitem__")) := slot_list_getitem.lookup
theorem tl_tuple : typeLookup (.type "tuple") "__getitem__" = pure (some (.builtin "tuple.__getitem__")) := F.slot_tuple_getitem.lookup
theorem tl_dict : typeLookup (.type "dict") "__getitem__" = pure (some (.builtin "dict.__getitem__")) := slot_dict_getitem.lookup
theorem we_idx {a i : E} {Q : V → AH → Prop} (h : WE W n cx a ρ H fun x H1 => WE W n cx i ρ H1 fun y H2 => IdxOk W n x y H2 Q) : WE W n cx (.idx a i) ρ H Q := by
  intro x hx env s A X R F hA
  apply e_idx hx
  intro v sl p h0 h1 h2
  refine Subscript_ (an (h _ h1 env s A X R F hA) fun y s1 v1 H1 a1 b1 c1 => ?_)
  refine an (b1 _ h2 env s1 A X c1.rel (c1.frm R F) hA) fun y2 s2 v2 H2 a2 b2 c2 => ?_
  obtain ⟨⟨T, id, q1, q2⟩, q3⟩ := b2 s2 A X y y2 c2.rel hA (c2.vr c1.rel a1) a2
  refine tail_any q1 q2 (aft (c1.trans c2) q3) (ops := [y, y2]) ?_
  cases sl <;> first | rfl | cases h0
theorem typeIs_at {s : Shared} {a : Addr} {ob : Obj} {T : String} (e : s.heap.get? a = some ob) (hc : ob.cls = .type T) : s.TypeIs (.ref a) T := ⟨ob, e, hc⟩
theorem idx_list {a : Addr} {l : List V} {k : Int} {j : Nat} {v : V} {Q : V → AH → Prop} (hH : H a = some (.list l)) (hk : seqIndex? k l.length = some j) (hv : l[j]? = some v) (hs : k.natAbs < 2 ^ 60) (h : Q v H) : IdxOk W n (.ref a) (.int k) H Q := by
  intro s A X x y R hA hx hy
  cases vr_ref hx
  obtain ⟨t, rfl⟩ := vr_int hy
  obtain ⟨its, m, e, r⟩ := R.objs _ _ hH
  have hl : s.heap.IsList a its := ⟨_, e, rfl, m, rfl⟩
  have hlen := r.length
  refine ⟨⟨"list", _, typeIs_at e rfl, tl_list⟩, ?_⟩
  obtain ⟨y, hy, ry⟩ := r.get hv
  have hy' : its[j]? = some y := by rw [← Array.getElem?_toList]; exact hy
  have hsz : its.size = l.length := by rw [← Array.length_toList]; lia
  unfold seqIndex? at hk
  by_cases h0 : k < 0
  · simp only [h0, if_true] at hk
    split at hk
    · rename_i q
      simp only [Bool.and_eq_true, decide_eq_true_eq] at q
      cases hk
      exact wpAny_getItem_list_neg hl h0 (by lia) (by lia) (x := y) (by rw [hsz]; exact hy') (ec ry h (Step.refl R))
    · cases hk
  · simp only [h0, if_false] at hk
    split at hk
    · cases hk
      exact wpAny_getItem_list hl (by lia) (by lia) (x := y) hy' (ec ry h (Step.refl R))
    · cases hk
theorem idx_tup {l : List V} {k : Int} {j : Nat} {v : V} {Q : V → AH → Prop} (hk : seqIndex? k l.length = some j) (hv : l[j]? = some v) (hs : k.natAbs < 2 ^ 60) (h : Q v H) : IdxOk W n (.tup l) (.int k) H Q := by
  intro s A X x y R hA hx hy
  obtain ⟨t, rfl⟩ := vr_int hy
  obtain ⟨a, its, rfl, e, r⟩ := vr_tup hx
  refine ⟨⟨"tuple", _, e.typeIs, tl_tuple⟩, ?_⟩
  obtain ⟨y, hy, ry⟩ := r.get hv
  have hsz : its.size = l.length := by have := r.length; rw [← Array.length_toList]; lia
  exact getItem_tuple e (by lia) (by lia) (by rw [hsz]; exact hk) (by rw [← Array.getElem?_toList]; exact hy) (ec ry h (Step.refl R))
theorem idx_idict {a : Addr} {l : List (Int × V)} {k : Int} {v : V} {Q : V → AH → Prop} (hH : H a = some (.idict l)) (hv : alook l k = some v) (h : Q v H) : IdxOk W n (.ref a) (.int k) H Q := by
  intro s A X x y R hA hx hy
  cases vr_ref hx
  obtain ⟨t, rfl⟩ := vr_int hy
  obtain ⟨kvs, d, p⟩ := (R.objs _ _ hH).idict_pr
  refine ⟨⟨"dict", _, d.typeIs, tl_dict⟩, ?_⟩
  rcases p.look k with ⟨q, _⟩ | ⟨v', y', q1, q2, q3⟩
  · rw [q] at hv; cases hv
  · rw [hv] at q1; cases q1
    exact wpAny_getItem_of (int_is k t) d.mapOf q2 (ec q3 h ((Step.refl R).tok _))
theorem idx_sdict {a : Addr} {l : List (Str × V)} {k : Str} {v : V} {Q : V → AH → Prop} (hH : H a = some (.sdict l)) (hv : alook l k = some v) (h : Q v H) : IdxOk W n (.ref a) (.str k) H Q := by
  intro s A X x y R hA hx hy
  cases vr_ref hx
  obtain ⟨t, rfl⟩ := vr_str hy
  obtain ⟨kvs, d, p⟩ := (R.objs _ _ hH).sdict_pr
  refine ⟨⟨"dict", _, d.typeIs, tl_dict⟩, ?_⟩
  rcases p.look k with ⟨q, _⟩ | ⟨v', y', q1, q2, q3⟩
  · rw [q] at hv; cases hv
  · rw [hv] at q1; cases q1
    exact wpAny_getItem_of (strKind_is _ _ k t) d.mapOf q2 (ec q3 h ((Step.refl R).tok _))
theorem idx_tdict {a : Addr} {l : List (List Int × V)} {ep : Option Nat} {k : List Int} {v : V} {Q : V → AH → Prop} (hH : H a = some (.tdict l ep)) (hv : alook l k = some v) (h : Q v H) : IdxOk W n (.ref a) (tupI k) H Q := by
  intro s A X x y R hA hx hy
  cases vr_ref hx
  obtain ⟨b, rfl, hb⟩ := vr_key (W := W) hy
  obtain ⟨xs, d, p⟩ := (R.objs _ _ hH).tdict_pr
  refine ⟨⟨"dict", _, d.typeIs, tl_dict⟩, ?_⟩
  rcases p.look k with ⟨q, _⟩ | ⟨v', y', q1, q2, q3⟩
  · rw [q] at hv; cases hv
  · rw [hv] at q1; cases q1
    rw [← atKey_flat] at q2
    obtain ⟨pp, q4, rfl⟩ := Option.map_eq_some_iff.mp q2
    exact wpAny_getItem_heap hA.room1 hb d q4 (ec q3 h ((Step.refl R).tok _))
theorem in_bool {o : Option Value} {o' : Option V} {h : Heap} (p : (o' = none ∧ o = none) ∨ ∃ v y, o' = some v ∧ o = some y ∧ VR h v y) : o.isSome = o'.isSome := by
  rcases p with ⟨rfl, rfl⟩ | ⟨v, y, rfl, rfl, _⟩ <;> rfl
theorem cmp_in_i {a : Addr} {l : List (Int × V)} {k : Int} (hH : H a = some (.idict l)) : CmpOk W n .In (.int k) (.ref a) H (alook l k).isSome := by
  intro s A X Q x y R hA hx hy h
  cases vr_ref hy
  obtain ⟨t, rfl⟩ := vr_int hx
  obtain ⟨kvs, d, p⟩ := (R.objs _ _ hH).idict_pr
  exact wpAny_in_of (int_is k t) (R.sys hH) d.mapOf (by rw [in_bool (p.look k)]; exact h _)
theorem cmp_in_s {a : Addr} {l : List (Str × V)} {k : Str} (hH : H a = some (.sdict l)) : CmpOk W n .In (.str k) (.ref a) H (alook l k).isSome := by
  intro s A X Q x y R hA hx hy h
  cases vr_ref hy
  obtain ⟨t, rfl⟩ := vr_str hx
  obtain ⟨kvs, d, p⟩ := (R.objs _ _ hH).sdict_pr
  exact wpAny_in_of (strKind_is _ _ k t) (R.sys hH) d.mapOf (by rw [in_bool (p.look k)]; exact h _)
theorem cmp_in_t {a : Addr} {l : List (List Int × V)} {ep : Option Nat} {k : List Int} (hH : H a = some (.tdict l ep)) : CmpOk W n .In (tupI k) (.ref a) H (alook l k).isSome := by
  intro s A X Q x y R hA hx hy h
  cases vr_ref hy
  obtain ⟨b, rfl, hb⟩ := vr_key (W := W) hx
  obtain ⟨xs, d, p⟩ := (R.objs _ _ hH).tdict_pr
  refine wpAny_in_heap hA.room1 hb (R.sys hH) d ?_
  have e : (atKey xs k).isSome = (alook l k).isSome := by
    rw [← in_bool (p.look k), ← atKey_flat, Option.isSome_map]
  rw [e]; exact h _
theorem contains_not {A : Around} {X : Value → Shared → Prop} {s : Shared} {a b : Value} {Q : Value → Shared → Prop} (h : wpAny W.M A (compareOp .In a b) (fun v s' => ∃ r, v = .bool r ∧ Q (.bool (!r)) s') X s) : wpAny W.M A (compareOp .NotIn a b) Q X s := by
  have e1 : compareOp .In a b = (do return .bool (← contains b a)) := rfl
  have e2 : compareOp .NotIn a b = (do return .bool (!(← contains b a))) := rfl
  rw [e1] at h
  rw [e2]
  refine wpAny_bind ?_
  intro Γ p hΓ
  have h' := h Γ p hΓ
  rw [Sem.wp_bind'] at h'
  refine Sem.wp_mono _ Γ _ (fun c p' s' q => ?_) (fun _ _ _ z => z) p s h'
  intro Γ2 p2 hΓ2
  obtain ⟨r, e, q⟩ := q
  cases e
  exact q
theorem cmp_notIn {x y : V} {r : Bool} (h : CmpOk W n .In x y H r) : CmpOk W n .NotIn x y H (!r) := fun s A X Q a b R hA ha hb k => by
  exact contains_not (h s A X _ a b R hA ha hb fun t => ⟨r, rfl, k t⟩)
end
section
variable {W : Wd} {n : Nat} {cx : Cx} {ρ : Loc} {H : AH}
theorem new_list {s : Shared} {Q : V → AH → Prop} {l : List V} {xs : List Value} (R : Rel W H s.heap) (a : VRs s.heap l xs) (h : ∀ c, H c = none → Q (.ref c) (upd H c (.list l))) :
    Ans W H s Q (.ref s.heap.objs.size) { s with heap := s.heap.push { cls := .type "list", data := .seq xs.toArray } } := by
  have g : ∀ b o, s.heap.get? b = some o → (s.heap.push { cls := .type "list", data := .seq xs.toArray }).get? b = some o := fun b o e => Heap.get?_push_of_some _ e
  exact ⟨_, _, .ref _, h _ (R.fresh (Nat.le_refl _)), Step.make (tk := s.toks) R (Nat.le_refl _) g ⟨xs.toArray, 0, Heap.get?_push_size _ rfl, a.keep fun b o e _ => g b o e⟩⟩
theorem new_tup {s : Shared} {Q : V → AH → Prop} {l : List V} {xs : List Value} (R : Rel W H s.heap) (a : VRs s.heap l xs) (h : Q (.tup l) H) :
    Ans W H s Q (.ref s.heap.objs.size) { s with heap := s.heap.push { cls := .type "tuple", data := .seq xs.toArray } } := by
  have g : ∀ b o, s.heap.get? b = some o → (s.heap.push { cls := .type "tuple", data := .seq xs.toArray }).get? b = some o := fun b o e => Heap.get?_push_of_some _ e
  exact ⟨_, _, .tup ⟨_, Heap.get?_push_size _ rfl, rfl, 0, rfl⟩ (a.keep fun b o e _ => g b o e), h, Step.grow (tk := s.toks) R g⟩
theorem isList_of {h : Heap} {a : Addr} {its : Array Value} {n : Nat} (e : h.get? a = some ⟨.type "list", none, .seq its n, #[]⟩) : h.IsList a its := ⟨_, e, rfl, n, rfl⟩
noncomputable def SlOk (W : Wd) (n : Nat) (lo hi st : Option Int) (x : V) (H : AH) (Q : V → AH → Prop) : Prop :=
  ∀ (s : Shared) (A : Around) (X : Value → Shared → Prop) (a : Value) (sl : Addr) (vl vu vs : Value), Rel W H s.heap → AOk n A → VR s.heap x a → s.heap.IsSliceOf sl vl vu vs → IsPart vl lo → IsPart vu hi → IsPart vs st →
    (∃ T id, s.TypeIs a T ∧ typeLookup (.type T) "__getitem__" = pure (some (.builtin id))) ∧ Out W H Q s A X (getItem a (.ref sl))
theorem Step.push_slice {H : AH} {s : Shared} (R : Rel W H s.heap) (l u st : Value) : Step W H s H { s with heap := s.heap.push { cls := .type "slice", data := .fields #[l, u, st] } } :=
  Step.grow (tk := s.toks) R fun b o e => Heap.get?_push_of_some _ e
theorem we_slTo {a e : E} {Q : V → AH → Prop} (h : WE W n cx a ρ H fun x H1 => WE W n cx e ρ H1 fun y H2 => ∃ k, y = .int k ∧ SlOk W n none (some k) none x H2 Q) : WE W n cx (.slTo a e) ρ H Q := by
  intro x hx env s A X R F hA
  apply e_slTo hx
  intro v sl p q h1 h2
  refine Subscript_ (an (h _ h1 env s A X R F hA) fun y s1 v1 H1 a1 b1 c1 => ?_)
  refine wpAny_Slice ?_
  rw [evalPart_none, evalPart_some]
  refine wpAny_pure (an (b1 _ h2 env s1 A X c1.rel (c1.frm R F) hA) fun y2 s2 v2 H2 a2 ⟨k, e2, b2⟩ c2 => wpAny_pure ?_)
  subst e2
  obtain ⟨t, rfl⟩ := vr_int a2
  have c3 := Step.push_slice c2.rel .none (.int k t) .none
  obtain ⟨⟨T, id, q1, q2⟩, q3⟩ := b2 _ A X y _ _ _ _ c3.rel hA (c3.vr c2.rel (c2.vr c1.rel a1)) (Heap.IsSliceOf.new ..) .none (.int k t) .none
  exact tail_any q1 q2 (aft ((c1.trans c2).trans c3) q3) (ops := [_, y]) rfl
theorem we_slFrom {a e : E} {Q : V → AH → Prop} (h : WE W n cx a ρ H fun x H1 => WE W n cx e ρ H1 fun y H2 => ∃ k, y = .int k ∧ SlOk W n (some k) none none x H2 Q) : WE W n cx (.slFrom a e) ρ H Q := by
  intro x hx env s A X R F hA
  apply e_slFrom hx
  intro v sl p q h1 h2
  refine Subscript_ (an (h _ h1 env s A X R F hA) fun y s1 v1 H1 a1 b1 c1 => ?_)
  refine wpAny_Slice ?_
  rw [evalPart_none, evalPart_some]
  refine an (b1 _ h2 env s1 A X c1.rel (c1.frm R F) hA) fun y2 s2 v2 H2 a2 ⟨k, e2, b2⟩ c2 => wpAny_pure (wpAny_pure ?_)
  subst e2
  obtain ⟨t, rfl⟩ := vr_int a2
  have c3 := Step.push_slice c2.rel (.int k t) .none .none
  obtain ⟨⟨T, id, q1, q2⟩, q3⟩ := b2 _ A X y _ _ _ _ c3.rel hA (c3.vr c2.rel (c2.vr c1.rel a1)) (Heap.IsSliceOf.new ..) (.int k t) .none .none
  exact tail_any q1 q2 (aft ((c1.trans c2).trans c3) q3) (ops := [_, y]) rfl
theorem int_const {A : Around} {X : Value → Shared → Prop} {s : Shared} {i : Int} {k : Nat} {p : Pos} {env : Env} {Q : Value → Shared → Prop} (h : Q (.int i s.toks) { s with toks := s.toks + 1 }) : wpAny W.M A (eval (.Constant (.int i) k p) env) Q X s := fun _ _ _ => h
theorem we_slRev {a : E} {Q : V → AH → Prop} (h : WE W n cx a ρ H fun x H1 => SlOk W n none none (some (-1)) x H1 Q) : WE W n cx (.slRev a) ρ H Q := by
  intro x hx env s A X R F hA
  apply e_slRev hx
  intro v p q k r t h1
  refine Subscript_ (an (h _ h1 env s A X R F hA) fun y s1 v1 H1 a1 b1 c1 => ?_)
  refine wpAny_Slice ?_
  rw [evalPart_none, evalPart_some]
  refine wpAny_pure (wpAny_pure (wpAny_bind (m := eval _ env) ?_))
  refine int_const ?_
  refine wpAny_bind (wpAny_standAt (wpAny_holding (neg_int ?_)))
  have c2 : Step W H1 s1 H1 { s1 with toks := s1.toks + 1 + 1 } := (Step.refl c1.rel).tok _
  have c3 := Step.push_slice c2.rel .none .none (.int (-1) (s1.toks + 1))
  obtain ⟨⟨T, id, q1, q2⟩, q3⟩ := b1 _ A X y _ _ _ _ c3.rel hA (c3.vr c2.rel (c2.vr c1.rel a1)) (Heap.IsSliceOf.new ..) .none .none (.int (-1) _)
  exact tail_any q1 q2 (aft ((c1.trans c2).trans c3) q3) (ops := [y, _]) rfl
theorem sl_list_to {a : Addr} {l : List V} {k : Nat} {Q : V → AH → Prop} (hH : H a = some (.list l)) (hl : l.length ≤ 1000) (h : ∀ c, H c = none → Q (.ref c) (upd H c (.list (l.take k)))) : SlOk W n none (some (k : Int)) none (.ref a) H Q := by
  intro s A X x sl vl vu vs R hA hx hs p1 p2 p3
  cases vr_ref hx
  obtain ⟨its, m, e, r⟩ := R.objs _ _ hH
  have hsz : its.size = l.length := by have := r.length; rw [← Array.length_toList]; lia
  refine ⟨⟨"list", _, typeIs_at e rfl, tl_list⟩, wpAny_getItem_list_slice (isList_of e) hs p1 p2 p3 (by simp) ?_ (by rw [sizeLine_eq]; lia)⟩
  rw [slicePick_upto']
  exact new_list R (r.take k) h
theorem sl_list_from {a : Addr} {l : List V} {k : Nat} {Q : V → AH → Prop} (hH : H a = some (.list l)) (hl : l.length ≤ 1000) (h : ∀ c, H c = none → Q (.ref c) (upd H c (.list (l.drop k)))) : SlOk W n (some (k : Int)) none none (.ref a) H Q := by
  intro s A X x sl vl vu vs R hA hx hs p1 p2 p3
  cases vr_ref hx
  obtain ⟨its, m, e, r⟩ := R.objs _ _ hH
  have hsz : its.size = l.length := by have := r.length; rw [← Array.length_toList]; lia
  refine ⟨⟨"list", _, typeIs_at e rfl, tl_list⟩, wpAny_getItem_list_slice (isList_of e) hs p1 p2 p3 (by simp) ?_ (by rw [sizeLine_eq]; lia)⟩
  rw [slicePick_from']
  exact new_list R (r.drop k) h
theorem slicePart_of {A : Around} {X : Value → Shared → Prop} {s : Shared} {v : Value} {k : Option Int} {Q : Option Int → Shared → Prop} (hv : IsPart v k) (h : Q k s) : wpAny W.M A (Builtin.Slice.slicePartIndex v) Q X s := by
  cases hv with
  | none => exact slicePart_none h
  | int i t => exact slicePart_int h
theorem sliceApplied_of {A : Around} {X : Value → Shared → Prop} {s : Shared} {sl : Addr} {vl vu vs : Value} {lo hi st : Option Int} {n : Int} {Q : Int × Int × Nat → Shared → Prop} (hs : s.heap.IsSliceOf sl vl vu vs)
    (p1 : IsPart vl lo) (p2 : IsPart vu hi) (p3 : IsPart vs st) (h0 : (st.getD 1 == 0) = false)
    (h : Q ((Builtin.Slice.sliceAdjust lo hi (st.getD 1) n).1, st.getD 1, Builtin.Slice.slicePlaces (Builtin.Slice.sliceAdjust lo hi (st.getD 1) n).1 (Builtin.Slice.sliceAdjust lo hi (st.getD 1) n).2 (st.getD 1)) s) :
    wpAny W.M A (Builtin.Slice.sliceApplied (.ref sl) (pure n)) Q X s := by
  obtain ⟨os, hos, hcs, hds⟩ := id hs
  unfold Builtin.Slice.sliceApplied Builtin.Slice.sliceFields
  refine wpAny_bind (wpAny_bind (wpAny_field hos hds (x := vl) rfl (wpAny_bind (wpAny_field hos hds (x := vu) rfl (wpAny_bind (wpAny_field hos hds (x := vs) rfl (wpAny_pure ?_)))))))
  refine wpAny_bind (slicePart_of p3 ?_)
  show wpAny _ _ (if (st.getD 1 == 0) = true then _ else _) _ _ s
  rw [h0]
  exact wpAny_bind (slicePart_of p1 (wpAny_bind (slicePart_of p2 (wpAny_bind (wpAny_pure (wpAny_pure h))))))
theorem sl_tup {l l' : List V} {lo hi st : Option Int} {Q : V → AH → Prop} (h0 : (st.getD 1 == 0) = false) (hl : l.length ≤ 1000)
    (hno : ∀ k, Builtin.Slice.slicePlaces (Builtin.Slice.sliceAdjust lo hi (st.getD 1) l.length).1 (Builtin.Slice.sliceAdjust lo hi (st.getD 1) l.length).2 (st.getD 1) = k → (((Builtin.Slice.sliceAdjust lo hi (st.getD 1) l.length).1 == 0 && st.getD 1 == 1 && k == l.length) = false) ∧ k ≤ 1000)
    (hp : ∀ (h : Heap) (xs : Array Value), VRs h l xs.toList → VRs h l' ((List.range (Builtin.Slice.slicePlaces (Builtin.Slice.sliceAdjust lo hi (st.getD 1) l.length).1 (Builtin.Slice.sliceAdjust lo hi (st.getD 1) l.length).2 (st.getD 1))).filterMap fun (k : Nat) => xs[((Builtin.Slice.sliceAdjust lo hi (st.getD 1) l.length).1 + (k : Int) * st.getD 1).toNat]?))
    (h : Q (.tup l') H) : SlOk W n lo hi st (.tup l) H Q := by
  intro s A X x sl vl vu vs R hA hx hs p1 p2 p3
  obtain ⟨a, its, rfl, e, r⟩ := vr_tup hx
  have hsz : its.size = l.length := by have := r.length; rw [← Array.length_toList]; lia
  have ht : IsTup s.heap a its := e
  refine ⟨⟨"tuple", _, e.typeIs, tl_tuple⟩, ?_⟩
  obtain ⟨os, hos, hcs, hds⟩ := id hs
  have hTs : s.TypeIs (.ref sl) "slice" := ⟨os, hos, hcs⟩
  unfold getItem
  try with_reducible refine wpAny_holding ?_
  first | refine wpAny_bind (wpAny_pure ?_) | skip
  refine wpAny_bind (wpAny_sequenceKey ht.typeIs (by decide) ?_)
  refine wpAny_bind (wpAny_callSpecial?_slot (name := Str.ofString "__getitem__") ht.typeIs slot_tuple_getitem
    (wpAny_call_entry slot_tuple_getitem ht.typeIs entry_tuple_getitem ?_ (args_tuple_getitem _ _)))
  show wpAny _ _ (Builtin.Tuple.tupleItemsOf (.ref a) >>= _) _ _ s
  refine wpAny_bind (tupleItemsOf_ ht ?_)
  refine wpAny_bind (wpAny_typeOf hTs ?_)
  rw [if_pos (by decide)]
  refine wpAny_bind (sliceApplied_of hs p1 p2 p3 h0 ?_)
  have hno' := hno _ rfl
  have hp' := hp s.heap its r
  rw [← hsz] at hno' hp'
  show wpAny _ _ (if ((Builtin.Slice.sliceAdjust lo hi (st.getD 1) its.size).1 == 0 && st.getD 1 == 1 && Builtin.Slice.slicePlaces (Builtin.Slice.sliceAdjust lo hi (st.getD 1) its.size).1 (Builtin.Slice.sliceAdjust lo hi (st.getD 1) its.size).2 (st.getD 1) == its.size) = true then _ else _) _ _ s
  rw [if_neg (by rw [hno'.1]; decide)]
  have := new_tup R hp' h
  exact wpAny_bind (m := Builtin.Tuple.tupleExact _) (wpAny_newObj_type (wpAny_pure ⟨_, rfl, wpAny_pure this⟩) (by
    show Array.size _ ≤ sizeLine
    rw [List.size_toArray, sizeLine_eq]
    refine Nat.le_trans (List.length_filterMap_le _ _) ?_
    rw [List.length_range]; lia))
end
section
variable {W : Wd} {n : Nat} {cx : Cx} {ρ : Loc} {H : AH}
theorem str_isStr {x y : Str} {t : Tok} : (Value.str x t).isStr y = (x == y) := rfl
theorem NsR.get {h : Heap} {l : List (Nat × V)} {es : List DictEntry} (x : NsR W h l es) (k : Nat) :
    (alook l k = none ∧ getL (W.attr k) es = some none) ∨ ∃ v y, alook l k = some v ∧ getL (W.attr k) es = some (some y) ∧ VR h v y := by
  have key : ∀ {l : List (Nat × V)} {es : List DictEntry}, NsR W h l es → (es.any (·.refKey) = false) ∧ ((alook l k = none ∧ es.find? (·.key.isStr (W.attr k)) = none) ∨ ∃ v e, alook l k = some v ∧ es.find? (·.key.isStr (W.attr k)) = some e ∧ VR h v e.val) := by
    intro l es x
    induction x with
    | nil => exact ⟨rfl, .inl ⟨rfl, rfl⟩⟩
    | @cons k' v e t l es h1 h2 _ ih =>
      refine ⟨by rw [List.any_cons, ih.1]; simp [DictEntry.refKey, h1], ?_⟩
      have hs : e.key.isStr (W.attr k) = decide (k' = k) := by
        rw [h1, str_isStr]
        by_cases q : k' = k
        · subst q; simp
        · rw [decide_eq_false q, beq_eq_false_iff_ne]; exact fun q' => q (W.ainj _ _ q')
      by_cases q : k' = k
      · subst q
        exact .inr ⟨v, e, by simp [alook], by simp [List.find?_cons, hs], h2⟩
      · rcases ih.2 with ⟨a, b⟩ | ⟨v', e', a, b, c⟩
        · exact .inl ⟨by simpa [alook, q] using a, by simpa [List.find?_cons, hs, q] using b⟩
        · exact .inr ⟨v', e', by simpa [alook, q] using a, by simpa [List.find?_cons, hs, q] using b, c⟩
  obtain ⟨h1, h2⟩ := key x
  unfold getL
  rcases h2 with ⟨a, b⟩ | ⟨v, e, a, b, c⟩
  · exact .inl ⟨a, by rw [b]; simp only; rw [h1]; rfl⟩
  · exact .inr ⟨v, e.val, a, by rw [b], c⟩
theorem NsR.miss {h : Heap} {l : List (Nat × V)} {es : List DictEntry} (x : NsR W h l es) {m : Str} (hm : ∀ k, W.attr k ≠ m) : getL m es = some none := by
  have key : es.find? (·.key.isStr m) = none ∧ es.any (·.refKey) = false := by
    induction x with
    | nil => exact ⟨rfl, rfl⟩
    | @cons k' v e t l es h1 h2 _ ih =>
      refine ⟨?_, by rw [List.any_cons, ih.2]; simp [DictEntry.refKey, h1]⟩
      rw [List.find?_cons]
      have : e.key.isStr m = false := by rw [h1, str_isStr, beq_eq_false_iff_ne]; exact hm _
      rw [this]; exact ih.1
  unfold getL
  rw [key.1]; simp only; rw [key.2]; rfl
noncomputable def nput : List (Nat × V) → Nat → V → List (Nat × V)
  | [], k, v => [(k, v)]
  | (k', v') :: r, k, v => if k' = k then (k', v) :: r else (k', v') :: nput r k v
theorem NsR.put {h : Heap} {l : List (Nat × V)} {es : List DictEntry} (x : NsR W h l es) (k : Nat) {v : V} {y : Value} (hv : VR h v y) (hs : Int) (t : Tok) : NsR W h (nput l k v) (putL (W.attr k) hs (.str (W.attr k) t) y es) := by
  induction x with
  | nil => exact .cons rfl hv .nil
  | @cons k' v' e t' l es h1 h2 h3 ih =>
    unfold putL nput
    by_cases q : k' = k
    · subst q
      have hf : e.key.isStr (W.attr k') = true := by rw [h1, str_isStr]; simp
      rw [hf, if_pos rfl, if_pos rfl]
      exact .cons h1 hv h3
    · have hf : e.key.isStr (W.attr k) = false := by rw [h1, str_isStr, beq_eq_false_iff_ne]; exact fun q' => q (W.ainj _ _ q')
      rw [hf, if_neg q]
      exact .cons h1 h2 ih
theorem NsR.length {h : Heap} {l : List (Nat × V)} {es : List DictEntry} (x : NsR W h l es) : es.length = l.length := by
  induction x with
  | nil => rfl
  | cons _ _ _ ih => simp [ih]
theorem nput_length (l : List (Nat × V)) (k : Nat) (v : V) : (nput l k v).length ≤ l.length + 1 := by
  induction l with
  | nil => simp [nput]
  | cons x r ih => unfold nput; split <;> simp <;> lia
theorem in_base {H : AH} {h : Heap} (R : Rel W H h) : W.K.In h := fun a o e => (R.base a o (W.KX a o e)).1
theorem OR.inst_at {h : Heap} {o C dx : Addr} (x : OR W h o (.inst C dx)) {l : List (Nat × V)} {es : List DictEntry} {m : Nat} (y : h.get? dx = some (dictOf es m)) : InstAt h o (instObj C dx) C (some (dictOf es m)) :=
  ⟨x, rfl, rfl, y⟩
theorem vr_handed {h : Heap} {v : V} {y : Value} (r : VR h v y) : handedIn y = true := by cases r <;> rfl
theorem attr_get {A : Around} {X : Value → Shared → Prop} {s : Shared} {o C dx : Addr} {l : List (Nat × V)} {k : Nat} {v : V} {ex : Bool} {Q : Value → Shared → Prop} (R : Rel W H s.heap)
    (h1 : H o = some (.inst C dx)) (h2 : H dx = some (.ns l)) (h3 : W.cplain C = true) (h4 : W.cattr C k = true) (h5 : alook l k = some v) (h : ∀ y t, VR s.heap v y → Q y { s with toks := t }) :
    wpAny W.M A (getAttr (.ref o) (W.attr k) ex) Q X s := by
  have a1 := R.objs _ _ h1
  obtain ⟨es, m, a2, r⟩ := R.objs _ _ h2
  rcases r.get k with ⟨q, _⟩ | ⟨v', y, q, g, ry⟩
  · rw [h5] at q; cases q
  · rw [h5] at q; cases q
    have ok := W.cok C h3
    refine get_value (in_base R) (OR.inst_at (l := l) a1 a2) ok.1.1 (findObj_own ok.1.2.2 (W.aok C k h4).1 rfl (by rw [lookIn_dict]; exact g)) (vr_handed ry) (h y _ ry)
theorem base_whole {o : Expr} (h : notSuper o = true) (name : Str) (env : Env) (whole : Sem Value) : attributeBase o name env whole = whole := by
  cases o with
  | Call f as ks p =>
    cases f with
    | Name x q => cases as with
      | nil => cases ks with
        | nil => exact absurd h Bool.false_ne_true
        | cons _ _ => rfl
      | cons _ _ => rfl
    | _ => rfl
  | _ => rfl
theorem we_attr {a : E} {k : Nat} {Q : V → AH → Prop} (h : WE W n cx a ρ H fun x H1 => ∃ o C dx l v, x = .ref o ∧ H1 o = some (.inst C dx) ∧ H1 dx = some (.ns l) ∧ W.cplain C = true ∧ W.cattr C k = true ∧ alook l k = some v ∧ Q v H1) : WE W n cx (.attr a k) ρ H Q := by
  intro x hx env s A X R F hA
  apply e_attr hx
  intro v p h0 h2
  show wpAny W.M A (attributeBase v (W.attr k) env (eval v env) >>= _) _ X s
  rw [base_whole h0]
  refine wpAny_bind (an (h _ h2 env s A X R F hA) fun y s1 v1 H1 a1 w3s1 c1 => ?_)
  obtain ⟨o, C, dx, l, v, e, q1, q2, q3, q4, q5, q6⟩ := w3s1
  subst e
  cases vr_ref a1
  refine wpAny_bind (wpAny_standAt (wpAny_bind (wpAny_holding (attr_get c1.rel q1 q2 q3 q4 q5 fun y t ry => ?_))))
  exact wpAny_bind (wpAny_letTemporaryGo (wpAny_pure (ec ry q6 (c1.tok t))))
theorem ns_noref {h : Heap} {l : List (Nat × V)} {es : List DictEntry} (r : NsR W h l es) : es.any (·.refKey) = false := by
  induction r with
  | nil => rfl
  | cons h1 _ _ ih => rw [List.any_cons, ih]; simp [DictEntry.refKey, h1]
theorem osa_own {A : Around} {s : Shared} {o C dx : Addr} {l : List (Nat × V)} {k : Nat} {v : V} {y : Value} {tk : Tok} {P : Result → Shared → Prop} (R : Rel W H s.heap)
    (h1 : H o = some (.inst C dx)) (h2 : H dx = some (.ns l)) (h3 : W.cplain C = true) (h4 : W.cattr C k = true) (h5 : l.length ≤ 500) (hy : VR s.heap v y)
    (h : ∀ s', Step W H s (upd H dx (.ns (nput l k v))) s' → P (.ok (.ret .none)) s') : codeAny W.M A (.call (.builtin "object.__setattr__") ⟨[.ref o, .str (W.attr k) tk, y], []⟩) P s := by
  have a1 := R.objs _ _ h1
  obtain ⟨es, m, a2, r⟩ := R.objs _ _ h2
  have ok := W.cok C h3
  have I := OR.inst_at (l := l) a1 a2
  refine osa_open (in_base R) I ok.2.2.1 (W.aok C k h4).2 fun b => ?_
  have hh := ok.1.2.2
  obtain ⟨cd, hc, hd'⟩ := any_some (show (clsIn W.K C).any (·.hasDict) = true from hh)
  refine wpAny_bind (wpAny_pure (wpAny_bind (wpAny_bind (wpAny_loadPart a1 (wpAny_bind ((looks_clsIn (in_base R) hc).here ?_))))))
  rw [hd']
  refine wpAny_pure (a := some dx) (wpAny_bind (wpAny_pure (wpAny_bind ?_)))
  unfold nsSet
  refine wpAny_bind (wpAny_bind (wpAny_askSetting (wpAny_pure (wpAny_bind (wpAny_mkText (wpAny_bind (wpAny_loadPart a2 ?_)))))))
  have c : (!es.toArray.any (·.key.isStr (W.attr k)) && es.toArray.any (·.refKey)) = false := by
    rw [← Array.any_toList, ← Array.any_toList]
    simp only
    rw [ns_noref r, Bool.and_false]
  have e1 : (dictOf es m).data = .dict es.toArray m := rfl
  rw [e1]
  dsimp only
  rw [aRefKeyMayBeTheName_at, c]
  refine wpAny_updatePart a2 ?_
  have hl := r.length
  have ht : (Obj.putName (W.attr k) (PyData.keyHash W.w.params (W.attr k)) (.str (W.attr k) s.toks) y (dictOf es m)) = dictOf (putL (W.attr k) (PyData.keyHash W.w.params (W.attr k)) (.str (W.attr k) s.toks) y es) (putN (W.attr k) es m) := putName_dict ..
  have sb : Heap.ExtBut dx s.heap (s.heap.update dx (Obj.putName (W.attr k) (PyData.keyHash W.w.params (W.attr k)) (.str (W.attr k) s.toks) y)) := fun x ob hne e => (Heap.get?_update_other _ _ (Ne.symm hne)).trans e
  have D' : (s.heap.update dx (Obj.putName (W.attr k) (PyData.keyHash W.w.params (W.attr k)) (.str (W.attr k) s.toks) y)).get? dx = some (dictOf (putL (W.attr k) (PyData.keyHash W.w.params (W.attr k)) (.str (W.attr k) s.toks) y es) (putN (W.attr k) es m)) := by
    rw [← ht]; exact Heap.get?_update_self _ a2 (by rw [ht]; rfl)
  have rn := r.put k hy (PyData.keyHash W.w.params (W.attr k)) s.toks
  have rl := rn.length
  have nl := nput_length l k v
  have kp : TupKeep s.heap (s.heap.update dx (Obj.putName (W.attr k) (PyData.keyHash W.w.params (W.attr k)) (.str (W.attr k) s.toks) y)) := fun x ob e ht => sb x ob (by rintro rfl; rw [a2] at e; cases e; exact absurd ht.1 (by simp)) e
  refine wpAny_bind (wpAny_lookBehind D' (pastItsLine_dict (by rw [List.size_toArray, sizeLine_eq]; lia)) ?_)
  exact wpAny_pure (h _ (Step.store (tk := s.toks + 1) R h2 sb ⟨_, _, D', rn.keep kp⟩))
theorem attr_set {A : Around} {X : Value → Shared → Prop} {s : Shared} {o C dx : Addr} {l : List (Nat × V)} {k : Nat} {v : V} {y : Value} {Q : Unit → Shared → Prop} (R : Rel W H s.heap)
    (h1 : H o = some (.inst C dx)) (h2 : H dx = some (.ns l)) (h3 : W.cplain C = true) (h4 : W.cattr C k = true) (h5 : l.length ≤ 500) (hy : VR s.heap v y)
    (h : ∀ s', Step W H s (upd H dx (.ns (nput l k v))) s' → Q () s') : wpAny W.M A (setAttr (.ref o) (W.attr k) y) Q X s := by
  have a1 := R.objs _ _ h1
  obtain ⟨es, m, a2, r⟩ := R.objs _ _ h2
  refine set_plain (in_base R) (OR.inst_at (l := l) a1 a2) (W.cok C h3).2.1 ?_
  have R1 : Rel W H ({ s with toks := s.toks + 1 } : Shared).heap := R
  exact osa_own R1 h1 h2 h3 h4 h5 hy fun s' c => h s' (((Step.refl R).tok _).trans c)
noncomputable def Keeps' (W : Wd) (f : Value) : Prop := ∀ h, W.K.In h → ∃ k, (k = Keeper.frame ∨ k = Keeper.machine ∨ k = Keeper.boundFrame) ∧ Looks W.M h (keeperOf f) k
theorem keeps_blt {id : String} : Keeps' W (.builtin id) := fun _ _ => ⟨.machine, .inr (.inl rfl), Looks.of_pure rfl⟩
theorem keeps_typ {id : String} : Keeps' W (.type id) := fun _ _ => ⟨.machine, .inr (.inl rfl), Looks.of_pure rfl⟩
theorem keeps_ref {f : Addr} (h : keepIn W.K (.ref f) = true) : Keeps' W (.ref f) := fun hp X => keeps_K h hp X
theorem args_go {es : Es} {xs : List Expr} {pos : Pos} {env : Env} {f : Value} {Q : List V → AH → Prop} (h : WEs W n cx es ρ H Q) (h1 : sameEs W.gt W.attr cx es xs = true) (h2 : starFree xs = true)
    {s : Shared} {A : Around} {X : Value → Shared → Prop} (R : Rel W H s.heap) (F : Frm W cx env ρ H s.heap) (hA : AOk n A) :
    wpAny W.M A (evalArgs f true (backTo pos (starEach xs env)) []) (fun a s' => ∃ vs ys H', a = ⟨ys, []⟩ ∧ VRs s'.heap vs ys ∧ Q vs H' ∧ Step W H s H' s') X s := by
  have k := h xs pos h1 h2 env s A X R F hA
  cases xs with
  | nil =>
    unfold evalArgs
    show wpAny W.M A (spliced [] >>= _) _ X s
    refine wpAny_bind (wpAny_mono k (fun ys s' ⟨vs, H', a, b, c⟩ => ?_) fun _ _ z => z)
    exact wpAny_holding (wpAny_bind (wpAny_pure (wpAny_bind (wpAny_pure (wpAny_pure ⟨vs, ys, H', rfl, a, b, c⟩)))))
  | cons x r =>
    obtain ⟨e1, e2⟩ := star_cons (env := env) h2
    rw [e1] at k ⊢
    exact Calls.evalArgs_plain (wpAny_mono k (fun ys s' ⟨vs, H', a, b, c⟩ => ⟨vs, ys, H', rfl, a, b, c⟩) fun _ _ z => z)
theorem star_plain {xs : List Expr} {pos : Pos} {env : Env} (h : starFree xs = true) : ((backTo pos (starEach xs env)).any (·.1)) = false := by
  induction xs with
  | nil => rfl
  | cons x r ih =>
    obtain ⟨e1, e2⟩ := star_cons (env := env) h
    rw [e1]
    show (false || (backTo pos (starEach r env)).any (·.1)) = false
    rw [ih e2]; rfl
theorem star_all {xs : List Expr} {pos : Pos} {env : Env} (h : starFree xs = true) : ((backTo pos (starEach xs env)).all (fun x => !x.1)) = true := by
  induction xs with
  | nil => rfl
  | cons x r ih =>
    obtain ⟨e1, e2⟩ := star_cons (env := env) h
    rw [e1]
    show (!false && (backTo pos (starEach r env)).all (fun x => !x.1)) = true
    rw [ih e2]; rfl
theorem call_go {f : Value} {first : List Value} {fv : List V} {es : Es} {xs : List Expr} {pos : Pos} {env : Env} {Q : V → AH → Prop} (hk : Keeps' W f) (h : WEs W n cx es ρ H fun vs H' => WV W n f (fv ++ vs) H' Q)
    (h1 : sameEs W.gt W.attr cx es xs = true) (h2 : starFree xs = true) {s : Shared} {A : Around} {X : Value → Shared → Prop} (R : Rel W H s.heap) (F : Frm W cx env ρ H s.heap) (hA : AOk n A) (hf : VRs s.heap fv first) :
    Out W H Q s A X (callWith pos f first (backTo pos (starEach xs env)) []) := by
  refine callWith_of (P := fun h => W.K.In h) (by rw [star_plain h2]; rfl) hk ?_
  refine wpAny_mono (args_go h h1 h2 R F hA) (fun a s1 ⟨vs, ys, H1, e, r, q, c⟩ => ?_) fun _ _ z => z
  subst e
  refine ⟨in_base c.rel, ?_⟩
  exact aft c (q s1 A X (first ++ ys) c.rel hA ((c.vrs R hf).append r))
theorem eval_call {x : Str} {np pos : Pos} {args : List Expr} {env : Env} {f : Value} {es : Es} {Q : V → AH → Prop} (hk : cx.kinds.lookup x = some .globalImplicit) (hd : (x == ("__debug__" : Str)) = false)
    (hv : W.mg x = some f ∨ (W.mg x = none ∧ W.mb x = some f)) (hkp : Keeps' W f) (h : WEs W n cx es ρ H fun vs H' => WV W n f vs H' Q)
    (h1 : sameEs W.gt W.attr cx es args = true) (h2 : starFree args = true) {s : Shared} {A : Around} {X : Value → Shared → Prop} (R : Rel W H s.heap) (F : Frm W cx env ρ H s.heap) (hA : AOk n A) :
    Out W H Q s A X (eval (.Call (.Name x np) args [] pos) env) :=
  Call_Name rfl (eval_glob R F hk hd hv (call_go (fv := []) hkp h h1 h2 R F hA .nil))
theorem we_call {f : Addr} {args : Es} {Q : V → AH → Prop} (h : WEs W n cx args ρ H fun vs H' => WC W n f vs H' Q) : WE W n cx (.call f args) ρ H Q := by
  intro x hx env s A X R F hA
  apply e_call hx
  intro x p as q h1 h2 h3 h4 h6
  obtain ⟨g1, g2⟩ := W.gok _ _ h3
  exact eval_call h2 h1 (.inl g1) (keeps_ref g2) (h.mono fun _ _ => WC.wv) h6 h4 R F hA
theorem we_blt {id : String} {args : Es} {Q : V → AH → Prop} (h : WEs W n cx args ρ H fun vs H' => WV W n (.builtin id) vs H' Q) : WE W n cx (.blt id args) ρ H Q := by
  intro x hx env s A X R F hA
  apply e_call hx
  intro x p as q h1 h2 h3 h4 h6
  exact eval_call h2 h1 (.inr (W.gok _ _ h3)) keeps_blt h h6 h4 R F hA
theorem we_typ {id : String} {args : Es} {Q : V → AH → Prop} (h : WEs W n cx args ρ H fun vs H' => WV W n (.type id) vs H' Q) : WE W n cx (.typ id args) ρ H Q := by
  intro x hx env s A X R F hA
  apply e_call hx
  intro x p as q h1 h2 h3 h4 h6
  exact eval_call h2 h1 (.inr (W.gok _ _ h3)) keeps_typ h h6 h4 R F hA
theorem AOk.typeCall {A : Around} {C : Addr} {xs : List Value} (x : AOk (n + 1) A) : AOk n (A.under (.builtin "type.__call__" ⟨.ref C :: xs, []⟩)) := by
  refine ⟨x.h, ?_, ?_⟩
  · rw [depth_under_make]; have := x.d; lia
  · rw [units_under_make]; have := x.u; lia
theorem wv_new {C f : Addr} {vs : List V} {Q : V → AH → Prop} (hC : W.cplain C = true) (hi : W.cinit C = some f)
    (h : ∀ x dx, H x = none → H dx = none → dx ≠ x → WC W n f (.ref x :: vs) (upd (upd H dx (.ns [])) x (.inst C dx)) fun v H' => v = .none ∧ Q (.ref x) H') : WV W (n + 1) (.ref C) vs H Q := by
  intro s A X xs R hA hv
  refine wpAny_call ?_
  obtain ⟨hh, g, d, t, os⟩ := s
  have hm := (W.cok C hC).2.2.2.1
  have hi' := W.iok C f hi
  have k1 : ∀ b o, hh.get? b = some o → (hh.push emptyDict).get? b = some o := fun b o e => Heap.get?_push_of_some _ e
  have k2 : ∀ b o, (hh.push emptyDict).get? b = some o → ((hh.push emptyDict).push (instObj C hh.objs.size)).get? b = some o := fun b o e => Heap.get?_push_of_some _ e
  have R0 : Rel W H hh := R
  have c1 := Step.make (s := ⟨hh, g, d, t, os⟩) (tk := t) (o := .ns []) R (Nat.le_refl _) k1 ⟨[], 0, Heap.get?_push_size _ rfl, .nil⟩
  have hsz : (hh.push emptyDict).objs.size = hh.objs.size + 1 := Heap.size_push ..
  have c2 := Step.make (s := ⟨hh.push emptyDict, g, d, t, os⟩) (tk := t) (c := hh.objs.size + 1) (o := .inst C hh.objs.size) c1.rel (by rw [hsz]; exact Nat.le_refl _) k2 (by
    show Heap.get? _ _ = _
    rw [← hsz]; exact Heap.get?_push_size _ rfl)
  have n1 : H hh.objs.size = none := R0.fresh (Nat.le_refl _)
  have n2 : H (hh.objs.size + 1) = none := R0.fresh (Nat.le_succ _)
  have q := h (hh.objs.size + 1) hh.objs.size n2 n1 (Nat.ne_of_lt (Nat.lt_succ_self _)) ⟨(hh.push emptyDict).push (instObj C hh.objs.size), g, d, t, os⟩ (A.under (.builtin "type.__call__" ⟨.ref C :: xs, []⟩)) X (.ref (hh.objs.size + 1) :: xs) c2.rel (hA.typeCall)
    (.cons (.ref _) ((c1.trans c2).vrs R hv))
  refine make_core (makes_of (in_base R) hm) (looks_findIn (in_base R) hi'.1) (fun self => bind_fn (in_base R) self hi'.2) (.inl rfl) (codeAny_mono q fun r s' z => ?_)
  rcases r with e | (v | _ | _ | _) <;> first | exact z | exact z.elim | skip
  obtain ⟨v', H', a, ⟨b1, b2⟩, c⟩ := z
  subst b1
  cases vr_none a
  exact ⟨rfl, ec (.ref _) b2 ((c1.trans c2).trans c)⟩
theorem we_new {C : Addr} {args : Es} {Q : V → AH → Prop} (h : WEs W n cx args ρ H fun vs H' => WV W n (.ref C) vs H' Q) : WE W n cx (.new C args) ρ H Q := by
  intro x hx env s A X R F hA
  apply e_call hx
  intro x p as q h1 h2 h3 h4 h6
  obtain ⟨g1, g2⟩ := W.gok _ _ h3
  exact eval_call h2 h1 (.inl g1) (keeps_ref g2) h h6 h4 R F hA
noncomputable def Bound (W : Wd) (x : V) (m : Str) (H : AH) (f : Value) : Prop :=
  Keeps' W f ∧ ∀ (s : Shared) (A : Around) (X : Value → Shared → Prop) (Q : Value × List Value → Shared → Prop) (pl : Sem Bool) (y : Value), Rel W H s.heap → VR s.heap x y → Q (f, [y]) s → wpAny W.M A (getMethod y m pl) Q X s
theorem bound_list {a : Addr} {l : List V} {m : Str} {id : String} (hH : H a = some (.list l)) (slot : Slot "list" m id) (ty : typeOf (.builtin id) = pure (.type "method_descriptor")) : Bound W (.ref a) m H (.builtin id) :=
  ⟨keeps_blt, fun s A X Q pl y R r h => by
    cases vr_ref r
    obtain ⟨its, k, e, _⟩ := R.objs _ _ hH
    exact getMethod_builtin ⟨_, e, rfl⟩ PySem.F.plainAttrs_list slot ty (fun b q => by cases q; exact ⟨_, e, rfl⟩) h⟩
theorem bound_idict {a : Addr} {l : List (Int × V)} {m : Str} {id : String} (hH : H a = some (.idict l)) (slot : Slot "dict" m id) (ty : typeOf (.builtin id) = pure (.type "method_descriptor")) : Bound W (.ref a) m H (.builtin id) :=
  ⟨keeps_blt, fun s A X Q pl y R r h => by
    cases vr_ref r
    obtain ⟨kvs, ⟨o, es, ep, e, x, _⟩, _⟩ := R.objs _ _ hH
    exact getMethod_builtin ⟨_, e, x.1⟩ PySem.F.plainAttrs_dict slot ty (fun b q => by cases q; exact ⟨_, e, x.2.1⟩) h⟩
theorem bound_sdict {a : Addr} {l : List (Str × V)} {m : Str} {id : String} (hH : H a = some (.sdict l)) (slot : Slot "dict" m id) (ty : typeOf (.builtin id) = pure (.type "method_descriptor")) : Bound W (.ref a) m H (.builtin id) :=
  ⟨keeps_blt, fun s A X Q pl y R r h => by
    cases vr_ref r
    obtain ⟨kvs, ⟨o, es, ep, e, x, _⟩, _⟩ := R.objs _ _ hH
    exact getMethod_builtin ⟨_, e, x.1⟩ PySem.F.plainAttrs_dict slot ty (fun b q => by cases q; exact ⟨_, e, x.2.1⟩) h⟩
theorem bound_tdict {a : Addr} {l : List (List Int × V)} {ep : Option Nat} {m : Str} {id : String} (hH : H a = some (.tdict l ep)) (slot : Slot "dict" m id) (ty : typeOf (.builtin id) = pure (.type "method_descriptor")) : Bound W (.ref a) m H (.builtin id) :=
  ⟨keeps_blt, fun s A X Q pl y R r h => by
    cases vr_ref r
    obtain ⟨kvs, ⟨o, es, ep, e, x, _⟩, _⟩ := R.objs _ _ hH
    exact getMethod_builtin ⟨_, e, x.1⟩ PySem.F.plainAttrs_dict slot ty (fun b q => by cases q; exact ⟨_, e, x.2.1⟩) h⟩
theorem bound_inst {o C dx : Addr} {l : List (Nat × V)} {m : Str} {f : Addr} (h1 : H o = some (.inst C dx)) (h2 : H dx = some (.ns l)) (hC : W.cplain C = true) (hm : W.cmeth C m = some f) : Bound W (.ref o) m H (.ref f) := by
  obtain ⟨m1, m2, m3, m4⟩ := W.mok C m f hm
  refine ⟨keeps_ref m3, fun s A X Q pl y R r h => ?_⟩
  cases vr_ref r
  have a1 := R.objs _ _ h1
  obtain ⟨es, k, a2, r⟩ := R.objs _ _ h2
  have ok := W.cok C hC
  refine method_fn (in_base R) (OR.inst_at (l := l) a1 a2) ok.1.1 ok.1.2.1 m1 m2 ?_ h
  show (lookIn m (dictOf es k)).map _ = _
  rw [lookIn_dict, r.miss m4]; rfl
theorem we_meth {o : E} {m : Str} {args : Es} {Q : V → AH → Prop} (h : WE W n cx o ρ H fun x H1 => ∃ f, Bound W x m H1 f ∧ WEs W n cx args ρ H1 fun vs H2 => WV W n f (x :: vs) H2 Q) : WE W n cx (.meth o m args) ρ H Q := by
  intro x hx env s A X R F hA
  apply e_meth hx
  intro ov apos as pos h0 h1 h3 h4 h5 h6
  show wpAny W.M A (attributeBase ov m env (eval ov env) >>= _) _ X s
  rw [base_whole h1]
  refine wpAny_bind (an (h _ h5 env s A X R F hA) fun y s1 v1 H1 a1 w3s1 c1 => ?_)
  obtain ⟨f, ⟨k1, k2⟩, b1⟩ := w3s1
  refine wpAny_bind (wpAny_standAt ?_)
  have hform : methodCallForm (as.length + ([] : List Keyword).length) (backTo pos (starEach as env)) (backToKw pos (keywordEach [] env)) = true := by
    unfold methodCallForm
    rw [star_all h3]
    exact decide_eq_true (show as.length < 30 by lia)
  unfold methodCall
  rw [hform]
  refine wpAny_bind (wpAny_holding (k2 s1 A X _ _ y c1.rel a1 ?_))
  have hpos : methodCallPos true ov env apos pos = pure pos := by unfold methodCallPos; simp [h0]
  refine wpAny_bind (wpAny_of_eq hpos ?_)
  exact aft c1 (call_go (fv := [v1]) k1 b1 h6 h3 c1.rel (c1.frm R F) hA (.one a1))
end
section
variable {W : Wd} {n : Nat} {cx : Cx} {ρ : Loc} {H : AH}
theorem VRs.one_inv {h : Heap} {a : V} {xs : List Value} (r : VRs h [a] xs) : ∃ x, xs = [x] ∧ VR h a x := by
  cases r with | cons p q => cases q with | nil => exact ⟨_, rfl, p⟩
theorem VRs.two_inv {h : Heap} {a b : V} {xs : List Value} (r : VRs h [a, b] xs) : ∃ x y, xs = [x, y] ∧ VR h a x ∧ VR h b y := by
  cases r with | cons p q => obtain ⟨y, rfl, q'⟩ := q.one_inv; exact ⟨_, _, rfl, p, q'⟩
theorem VRs.three_inv {h : Heap} {a b c : V} {xs : List Value} (r : VRs h [a, b, c] xs) : ∃ x y z, xs = [x, y, z] ∧ VR h a x ∧ VR h b y ∧ VR h c z := by
  cases r with | cons p q => obtain ⟨y, z, rfl, q1, q2⟩ := q.two_inv; exact ⟨_, _, _, rfl, p, q1, q2⟩
theorem OR.list_at {h : Heap} {a : Addr} {l : List V} (x : OR W h a (.list l)) : ∃ its m, h.get? a = some ⟨.type "list", none, .seq its m, #[]⟩ ∧ VRs h l its.toList ∧ its.size = l.length :=
  let ⟨its, m, e, r⟩ := x; ⟨its, m, e, r, by have := r.length; rw [← Array.length_toList]; lia⟩
theorem Step.kept {s : Shared} (R : Rel W H s.heap) {h' : Heap} (tk : Nat) (k : ∀ b o, s.heap.get? b = some o → h'.get? b = some o) : Step W H s H { s with heap := h', toks := tk } := Step.grow R k
theorem wv_len_list {a : Addr} {l : List V} {Q : V → AH → Prop} (hH : H a = some (.list l)) (hl : l.length ≤ 1000) (h : Q (.int l.length) H) : WV W n (.builtin "len") [.ref a] H Q := by
  intro s A X xs R hA hv
  obtain ⟨x, rfl, r⟩ := hv.one_inv
  cases vr_ref r
  obtain ⟨its, m, e, r, hsz⟩ := (R.objs _ _ hH).list_at
  exact Calls.call_len_list (isList_of e) (by lia) (ec (by rw [hsz]; exact .int _ _) h ((Step.refl R).tok _))
theorem wv_len_tup {l : List V} {Q : V → AH → Prop} (hl : l.length ≤ 1000) (h : Q (.int l.length) H) : WV W n (.builtin "len") [.tup l] H Q := by
  intro s A X xs R hA hv
  obtain ⟨x, rfl, r⟩ := hv.one_inv
  obtain ⟨a, its, rfl, e, r⟩ := vr_tup r
  have hsz : its.size = l.length := by have := r.length; rw [← Array.length_toList]; lia
  exact len_tuple e (by lia) (ec (by rw [hsz]; exact .int _ _) h ((Step.refl R).tok _))
theorem wv_tuple_tup {l : List V} {Q : V → AH → Prop} (h : Q (.tup l) H) : WV W n (.type "tuple") [.tup l] H Q := by
  intro s A X xs R hA hv
  obtain ⟨x, rfl, r⟩ := hv.one_inv
  obtain ⟨a, its, rfl, e, r'⟩ := vr_tup r
  exact call_tuple_tup e (ec r h (Step.refl R))
theorem wv_tuple_list {a : Addr} {l : List V} {Q : V → AH → Prop} (hH : H a = some (.list l)) (hl : l.length ≤ 1000) (h : Q (.tup l) H) : WV W n (.type "tuple") [.ref a] H Q := by
  intro s A X xs R hA hv
  obtain ⟨x, rfl, r⟩ := hv.one_inv
  cases vr_ref r
  obtain ⟨its, m, e, r, hsz⟩ := (R.objs _ _ hH).list_at
  refine call_tuple_list (isList_of e) (fun h' k => ?_) (by rw [sizeLine_eq]; lia)
  have c1 := Step.kept R s.toks k
  obtain ⟨v, H', q1, q2, q3⟩ := new_tup (W := W) c1.rel (c1.vrs R r) h
  have ea : its.toList.toArray = its := by simp
  rw [ea] at q1 q3
  exact ⟨v, H', q1, q2, c1.trans q3⟩
theorem wv_list_list {a : Addr} {l : List V} {Q : V → AH → Prop} (hH : H a = some (.list l)) (hl : l.length ≤ 1000) (h : ∀ c, H c = none → Q (.ref c) (upd H c (.list l))) : WV W n (.type "list") [.ref a] H Q := by
  intro s A X xs R hA hv
  obtain ⟨x, rfl, r⟩ := hv.one_inv
  cases vr_ref r
  obtain ⟨its, m, e, r, hsz⟩ := (R.objs _ _ hH).list_at
  refine call_list_seq a (.inl rfl) e rfl rfl (fun h' c k hg => ?_) (by rw [sizeLine_eq]; lia)
  exact ec (.ref _) (h _ (R.fresh (Nat.le_refl _))) (Step.make (tk := s.toks) R (Nat.le_refl _) k ⟨its, c, hg, r.keep fun b o e _ => k b o e⟩)
theorem wv_int {i : Int} {Q : V → AH → Prop} (h : Q (.int i) H) : WV W n (.type "int") [.int i] H Q := by
  intro s A X xs R hA hv
  obtain ⟨x, rfl, r⟩ := hv.one_inv
  obtain ⟨t, rfl⟩ := vr_int r
  exact call_int_int (ec (.int i t) h (Step.refl R))
theorem Den.canRefl : True := trivial
theorem ints_of {h : Heap} : ∀ {ns : List Int} {xs : List Value}, VRs h (ns.map V.int) xs → IntsAre xs ns
  | [], _, r => by cases r; exact .nil
  | _ :: _, _, r => by
    cases r with
    | cons a b => cases a with | int _ t => exact .cons _ t (ints_of b)
theorem of_ints {h : Heap} : ∀ {ns : List Int} {xs : List Value}, IntsAre xs ns → VRs h (ns.map V.int) xs
  | _, _, .nil => .nil
  | _, _, .cons a t r => .cons (.int a t) (of_ints r)
theorem wv_max2 {i j : Int} {Q : V → AH → Prop} (h : Q (.int (max i j)) H) : WV W n (.builtin "max") [.int i, .int j] H Q := by
  intro s A X xs R hA hv
  obtain ⟨x, y, rfl, r1, r2⟩ := hv.two_inv
  obtain ⟨t, rfl⟩ := vr_int r1
  obtain ⟨u, rfl⟩ := vr_int r2
  refine max_two_ints hA.h fun h' tk k => ?_
  have e : max i j = if j > i then j else i := by split <;> lia
  rw [e] at h
  split
  · rename_i q; rw [if_pos q] at h; exact ec (.int _ _) h (Step.kept R tk k)
  · rename_i q; rw [if_neg q] at h; exact ec (.int _ _) h (Step.kept R tk k)
theorem wv_max_list {a : Addr} {ns : List Int} {Q : V → AH → Prop} (hH : H a = some (.list (ns.map .int))) (hne : ns ≠ []) (h : ∀ M, M ∈ ns → (∀ x, x ∈ ns → x ≤ M) → Q (.int M) H) : WV W n (.builtin "max") [.ref a] H Q := by
  intro s A X xs R hA hv
  obtain ⟨x, rfl, r⟩ := hv.one_inv
  cases vr_ref r
  obtain ⟨its, m, e, r, hsz⟩ := (R.objs _ _ hH).list_at
  have hi := ints_of r
  have hl := isList_of e
  obtain ⟨ys, ey⟩ := hi.allInts.items
  have ea : its.toList.toArray = its := by simp
  rw [ea] at ey
  subst ey
  have hns : ns = ys.toList.map (·.1) := by rw [← nums_intItems]; exact hi.numsOf.symm
  have h0 : 0 < ys.size := by
    rcases Nat.eq_zero_or_pos ys.size with z | z
    · have q : ys.toList = [] := List.eq_nil_of_length_eq_zero (by rw [Array.length_toList]; exact z)
      rw [q] at hns; exact absurd hns hne
    · exact z
  refine max_intList hA.h hl h0 fun v h' tk hv hk => ?_
  obtain ⟨t, rfl⟩ := intItems_at hv
  obtain ⟨h1, h2⟩ := argBest_gt (numAt ys) (ys.size - 1)
  refine ec (.int _ t) (h _ ?_ fun a ha => ?_) (Step.kept R tk hk)
  · rw [hns, numAt_eq]; exact getD_mem (by rw [List.length_map, Array.length_toList]; lia)
  · rw [hns] at ha
    obtain ⟨j, hj, rfl⟩ := mem_getD ha
    rw [List.length_map, Array.length_toList] at hj
    rw [← numAt_eq]; exact h2 j (by lia)
theorem wv_min_list {a : Addr} {ns : List Int} {Q : V → AH → Prop} (hH : H a = some (.list (ns.map .int))) (hne : ns ≠ []) (h : ∀ M, M ∈ ns → (∀ x, x ∈ ns → M ≤ x) → Q (.int M) H) : WV W n (.builtin "min") [.ref a] H Q := by
  intro s A X xs R hA hv
  obtain ⟨x, rfl, r⟩ := hv.one_inv
  cases vr_ref r
  obtain ⟨its, m, e, r, hsz⟩ := (R.objs _ _ hH).list_at
  have hi := ints_of r
  have hl := isList_of e
  obtain ⟨ys, ey⟩ := hi.allInts.items
  have ea : its.toList.toArray = its := by simp
  rw [ea] at ey
  subst ey
  have hns : ns = ys.toList.map (·.1) := by rw [← nums_intItems]; exact hi.numsOf.symm
  have h0 : 0 < ys.size := by
    rcases Nat.eq_zero_or_pos ys.size with z | z
    · have q : ys.toList = [] := List.eq_nil_of_length_eq_zero (by rw [Array.length_toList]; exact z)
      rw [q] at hns; exact absurd hns hne
    · exact z
  refine min_intList hA.h hl h0 fun v h' tk hv hk => ?_
  obtain ⟨t, rfl⟩ := intItems_at hv
  obtain ⟨h1, h2⟩ := argBest_lt (numAt ys) (ys.size - 1)
  refine ec (.int _ t) (h _ ?_ fun a ha => ?_) (Step.kept R tk hk)
  · rw [hns, numAt_eq]; exact getD_mem (by rw [List.length_map, Array.length_toList]; lia)
  · rw [hns] at ha
    obtain ⟨j, hj, rfl⟩ := mem_getD ha
    rw [List.length_map, Array.length_toList] at hj
    rw [← numAt_eq]; exact h2 j (by lia)
theorem list_changed {s : Shared} {a : Addr} {its its' : Array Value} {m : Nat} {l l' : List V} {f : Array Value → Array Value} {tk : Nat} (R : Rel W H s.heap) (hH : H a = some (.list l)) (e : s.heap.get? a = some ⟨.type "list", none, .seq its m, #[]⟩)
    (hf : f its = its') (r : VRs s.heap l' its'.toList) : Step W H s (upd H a (.list l')) { s with heap := s.heap.update a (Obj.mapSeq f), toks := tk } := by
  have g := PySem.IsL.update (h := s.heap) (l := a) (items := its) (n := m) e f
  have sb : Heap.ExtBut a s.heap (s.heap.update a (Obj.mapSeq f)) := fun x ob hne q => (Heap.get?_update_other _ _ (Ne.symm hne)).trans q
  have kp : TupKeep s.heap (s.heap.update a (Obj.mapSeq f)) := fun x ob q ht => sb x ob (by rintro rfl; rw [e] at q; cases q; exact absurd ht.1 (by simp)) q
  rw [hf] at g
  exact Step.store R hH sb ⟨its', _, g, r.keep kp⟩
theorem wv_append {a : Addr} {l : List V} {v : V} {Q : V → AH → Prop} (hH : H a = some (.list l)) (hl : l.length ≤ 1000) (h : Q .none (upd H a (.list (l ++ [v])))) : WV W n (.builtin "list.append") [.ref a, v] H Q := by
  intro s A X xs R hA hv
  obtain ⟨x, y, rfl, r1, r2⟩ := hv.two_inv
  cases vr_ref r1
  obtain ⟨its, m, e, r, hsz⟩ := (R.objs _ _ hH).list_at
  refine wpAny_list_append_plain ⟨m, e⟩ (fun h' ⟨m', e'⟩ hs => ?_) (by rw [sizeLine_eq]; lia)
  have sb : Heap.ExtBut a s.heap h' := fun x ob hne q => (hs.2 x hne).trans q
  have kp : TupKeep s.heap h' := fun x ob q ht => sb x ob (by rintro rfl; rw [e] at q; cases q; exact absurd ht.1 (by simp)) q
  refine ec .none h (Step.store (tk := s.toks) R hH sb ⟨_, m', e', ?_⟩)
  rw [Array.toList_push]
  exact (r.keep kp).append (.one (r2.keep kp))
theorem wv_extend {a b : Addr} {l k : List V} {Q : V → AH → Prop} (hH : H a = some (.list l)) (hK : H b = some (.list k)) (hl : l.length ≤ 1000) (hk : k.length ≤ 1000) (h : Q .none (upd H a (.list (l ++ k)))) : WV W n (.builtin "list.extend") [.ref a, .ref b] H Q := by
  intro s A X xs R hA hv
  obtain ⟨x, y, rfl, r1, r2⟩ := hv.two_inv
  cases vr_ref r1
  cases vr_ref r2
  obtain ⟨its, m, e, r, hsz⟩ := (R.objs _ _ hH).list_at
  obtain ⟨its2, m2, e2, r', hsz2⟩ := (R.objs _ _ hK).list_at
  refine call_meets PySem.F.slot_list_extend ⟨_, e, rfl⟩ PySem.F.entry_list_extend (PySem.F.args_list_extend_2 _ _) (PySem.AutoSeq1.list_extend_list_list_0 a its m b its2 m2 ?_ (by rw [sizeLine_eq]; lia) (by rw [hsz, hsz2, sizeLine_eq]; exact Nat.le_trans (Nat.add_le_add hl hk) (by decide))) ⟨e, e2, ?_⟩
  · have : Builtin.List.listTooLong (its.size + its2.size) = false := by unfold Builtin.List.listTooLong; refine decide_eq_false ?_; rw [sizeLine_eq]; lia
    rw [this]; simp
  · exact ec .none h (list_changed (f := fun x => x ++ its2) (its' := its ++ its2) R hH e rfl (by rw [Array.toList_append]; exact r.append r'))
theorem wv_insert {a : Addr} {l : List V} {i : Nat} {v : V} {Q : V → AH → Prop} (hH : H a = some (.list l)) (hl : l.length ≤ 1000) (hi : i ≤ l.length) (h : Q .none (upd H a (.list (l.take i ++ v :: l.drop i)))) :
    WV W n (.builtin "list.insert") [.ref a, .int i, v] H Q := by
  obtain ⟨k, hk⟩ : ∃ k : Int, k = i := ⟨_, rfl⟩
  rw [← hk]
  intro s A X xs R hA hv
  obtain ⟨x, y, z, rfl, r1, r2, r3⟩ := hv.three_inv
  cases vr_ref r1
  obtain ⟨t, rfl⟩ := vr_int r2
  obtain ⟨its, m, e, r, hsz⟩ := (R.objs _ _ hH).list_at
  have hfit : ¬(!Builtin.List.listFitsIndex k) = true := by
    have : Builtin.List.listFitsIndex k = true := by unfold Builtin.List.listFitsIndex; simp only [Bool.and_eq_true, decide_eq_true_eq]; lia
    rw [this]; decide
  have hz : its.size ≤ sizeLine := by rw [sizeLine_eq]; lia
  refine call_meets PySem.F.slot_list_insert ⟨_, e, rfl⟩ PySem.F.entry_list_insert (PySem.F.args_list_insert_3 _ _ _) (PySem.AutoSeq1.list_insert_list_int_val_1 a its m k t z hfit hz) ⟨e, ?_⟩
  have ek : (if k < 0 then (k + (its.size : Int)).toNat else min k.toNat its.size) = i := by rw [if_neg (by lia)]; lia
  refine ec .none h (list_changed (its' := (its.extract 0 i).push z ++ its.extract i) R hH e ?_ ?_)
  · show (its.extract 0 (if k < 0 then (k + (its.size : Int)).toNat else min k.toNat its.size)).push z ++ its.extract (if k < 0 then (k + (its.size : Int)).toNat else min k.toNat its.size) = _
    rw [ek]
  · have : ((its.extract 0 i).push z ++ its.extract i).toList = its.toList.take i ++ z :: its.toList.drop i := by
      simp [hsz]
      rw [List.take_of_length_le (by simp [hsz])]
    rw [this]
    exact (r.take i).append (.cons r3 (r.drop i))
theorem wv_pop {a : Addr} {l : List V} {v : V} {Q : V → AH → Prop} (hH : H a = some (.list (l ++ [v]))) (hl : l.length ≤ 1000) (h : Q v (upd H a (.list l))) : WV W n (.builtin "list.pop") [.ref a] H Q := by
  intro s A X xs R hA hv
  obtain ⟨x, rfl, r1⟩ := hv.one_inv
  cases vr_ref r1
  obtain ⟨its, m, e, r, hsz⟩ := (R.objs _ _ hH).list_at
  rw [List.length_append, List.length_singleton] at hsz
  obtain ⟨y, hy, ry⟩ := r.get (i := l.length) (a := v) (by simp)
  have hy' : its[its.size - 1]? = some y := by rw [hsz, ← Array.getElem?_toList]; exact hy
  refine call_meets PySem.F.slot_list_pop ⟨_, e, rfl⟩ PySem.F.entry_list_pop (PySem.F.args_list_pop_1 _) (PySem.MeetsSeq.list_pop_last a its m y hy' (by rw [sizeLine_eq]; lia)) ⟨e, ?_⟩
  have hp : (fun xs : Array Value => xs.eraseIdxIfInBounds (its.size - 1)) its = (its.toList.take l.length).toArray := by
    show its.eraseIdxIfInBounds (its.size - 1) = _
    rw [Copied.erase_last_eq_pop]
    apply Array.toList_inj.mp
    rw [Array.toList_pop, List.dropLast_eq_take, Array.length_toList, hsz]
    simp
  have c := list_changed (its' := (its.toList.take l.length).toArray) (f := fun xs => xs.eraseIdxIfInBounds (its.size - 1)) (tk := s.toks) R hH e hp (l' := l) (by have := r.take l.length; simpa using this)
  exact ec (c.vr R ry) h c
theorem getD_vr {h : Heap} {o : Option Value} {o' : Option V} {d : V} {y : Value} (p : (o' = none ∧ o = none) ∨ ∃ v y, o' = some v ∧ o = some y ∧ VR h v y) (r : VR h d y) : VR h (o'.getD d) (o.getD y) := by
  rcases p with ⟨rfl, rfl⟩ | ⟨v, y, rfl, rfl, q⟩
  · exact r
  · exact q
theorem wv_get_id {a : Addr} {l : List (Int × V)} {k : Int} {dv : V} {Q : V → AH → Prop} (hH : H a = some (.idict l)) (h : Q ((alook l k).getD dv) H) : WV W n (.builtin "dict.get") [.ref a, .int k, dv] H Q := by
  intro s A X xs R hA hv
  obtain ⟨x, y, z, rfl, r1, r2, r3⟩ := hv.three_inv
  cases vr_ref r1
  obtain ⟨t, rfl⟩ := vr_int r2
  obtain ⟨kvs, d, p⟩ := (R.objs _ _ hH).idict_pr
  exact call_meetsIn PySem.F.slot_dict_get d.typeIs PySem.F.entry_dict_get (PySem.F.args_dict_get_3 _ _ _) (meets_dict_get_default _ _ (int_is k t) (R.sys hH) z) ⟨_, d.mapOf, ec (getD_vr (p.look k) r3) h ((Step.refl R).tok _)⟩
theorem wv_get_s {a : Addr} {l : List (Str × V)} {k : Str} {Q : V → AH → Prop} (hH : H a = some (.sdict l)) (h : Q ((alook l k).getD .none) H) : WV W n (.builtin "dict.get") [.ref a, .str k] H Q := by
  intro s A X xs R hA hv
  obtain ⟨x, y, rfl, r1, r2⟩ := hv.two_inv
  cases vr_ref r1
  obtain ⟨t, rfl⟩ := vr_str r2
  obtain ⟨kvs, d, p⟩ := (R.objs _ _ hH).sdict_pr
  exact call_meetsIn PySem.F.slot_dict_get d.typeIs PySem.F.entry_dict_get (PySem.F.args_dict_get_2 _ _) (meets_dict_get _ _ (strKind_is _ _ k t) (R.sys hH)) ⟨_, d.mapOf, ec (getD_vr (p.look k) .none) h ((Step.refl R).tok _)⟩
theorem wv_get_t {a : Addr} {l : List (List Int × V)} {ep : Option Nat} {k : List Int} {Q : V → AH → Prop} (hH : H a = some (.tdict l ep)) (h : Q ((alook l k).getD .none) H) : WV W n (.builtin "dict.get") [.ref a, tupI k] H Q := by
  intro s A X xs R hA hv
  obtain ⟨x, y, rfl, r1, r2⟩ := hv.two_inv
  cases vr_ref r1
  obtain ⟨b, rfl, hb⟩ := vr_key (W := W) r2
  obtain ⟨kvs, d, p⟩ := (R.objs _ _ hH).tdict_pr
  refine call_meetsIn PySem.F.slot_dict_get d.typeIs PySem.F.entry_dict_get (PySem.F.args_dict_get_2 _ _) (meetsH_dict_get _ _ _ (R.sys hH)) ⟨hA.room1, k, kvs, hb, d, ?_⟩
  rw [atKey_flat]
  exact ec (getD_vr (p.look k) .none) h ((Step.refl R).tok _)
noncomputable def SetOk (W : Wd) (n : Nat) (x i v : V) (H H' : AH) : Prop :=
  ∀ (s : Shared) (A : Around) (X : Value → Shared → Prop) (Q : Unit → Shared → Prop) (a b c : Value), Rel W H s.heap → AOk n A → VR s.heap x a → VR s.heap i b → VR s.heap v c → (∀ s', Step W H s H' s' → Q () s') → wpAny W.M A (setItem a b c) Q X s
theorem dict_kept {h h' : Heap} {a : Addr} {ob : Obj} (e : h.get? a = some ob) (hx : ob.cls = .type "dict") (sb : Heap.SameBut a h h') : Heap.ExtBut a h h' ∧ TupKeep h h' :=
  ⟨fun x o hne q => (sb.2 x hne).trans q, fun x o q ht => (sb.2 x (by rintro rfl; rw [e] at q; cases q; exact isTup.no hx ht (by simp) (by simp))).trans q⟩
theorem set_i {a : Addr} {l : List (Int × V)} {k : Int} {v : V} (hH : H a = some (.idict l)) (hl : l.length ≤ 1000) : SetOk W n (.ref a) (.int k) v H (upd H a (.idict (astore l k v))) := by
  intro s A X Q x y z R hA r1 r2 r3 h
  cases vr_ref r1
  obtain ⟨t, rfl⟩ := vr_int r2
  obtain ⟨kvs, d, p⟩ := (R.objs _ _ hH).idict_pr
  obtain ⟨ob, es, ep, e, hx, _⟩ := id d
  refine wpAny_setItem_pairs (int_is k t) d (fun h' d' sb => ?_) (by have := p.length; rw [sizeLine_eq]; lia)
  obtain ⟨k1, k2⟩ := dict_kept e hx.1 sb
  exact h _ (Step.store (tk := s.toks + 1) R hH k1 (OR.of_idict d' ((p.store k r3).keep k2)))
theorem set_s {a : Addr} {l : List (Str × V)} {k : Str} {v : V} (hH : H a = some (.sdict l)) (hl : l.length ≤ 1000) : SetOk W n (.ref a) (.str k) v H (upd H a (.sdict (astore l k v))) := by
  intro s A X Q x y z R hA r1 r2 r3 h
  cases vr_ref r1
  obtain ⟨t, rfl⟩ := vr_str r2
  obtain ⟨kvs, d, p⟩ := (R.objs _ _ hH).sdict_pr
  obtain ⟨ob, es, ep, e, hx, _⟩ := id d
  refine wpAny_setItem_pairs (strKind_is _ _ k t) d (fun h' d' sb => ?_) (by have := p.length; rw [sizeLine_eq]; lia)
  obtain ⟨k1, k2⟩ := dict_kept e hx.1 sb
  exact h _ (Step.store (tk := s.toks + 1) R hH k1 (OR.of_sdict d' ((p.store k r3).keep k2)))
theorem set_t {a : Addr} {l : List (List Int × V)} {ep : Option Nat} {k : List Int} {v : V} (hH : H a = some (.tdict l ep)) (hl : l.length ≤ 1000) : SetOk W n (.ref a) (tupI k) v H (upd H a (.tdict (astore l k v) none)) := by
  intro s A X Q x y z R hA r1 r2 r3 h
  cases vr_ref r1
  obtain ⟨b, rfl, hb⟩ := vr_key (W := W) r2
  obtain ⟨kvs, d, p⟩ := (R.objs _ _ hH).tdict_pr
  obtain ⟨ob, es, ep, e, hx, _⟩ := id d
  refine wpAny_setItem_heap hA.room1 hb d (fun h' d' sb => ?_) (by have := p.length; unfold flat at this; rw [List.length_map] at this; rw [sizeLine_eq]; lia)
  obtain ⟨k1, k2⟩ := dict_kept e hx.1 sb
  refine h _ (Step.store R hH k1 (OR.of_tdict d' ?_))
  rw [storedH_flat]
  exact (p.store k r3).keep k2
theorem set_list {a : Addr} {l : List V} {k : Nat} {v : V} (hH : H a = some (.list l)) (hl : l.length ≤ 1000) (hk : k < l.length) : SetOk W n (.ref a) (.int k) v H (upd H a (.list (l.set k v))) := by
  obtain ⟨i, hi⟩ : ∃ i : Int, i = k := ⟨_, rfl⟩
  rw [← hi]
  intro s A X Q x y z R hA r1 r2 r3 h
  cases vr_ref r1
  obtain ⟨t, rfl⟩ := vr_int r2
  obtain ⟨items, m, ho, r, hsz⟩ := (R.objs _ _ hH).list_at
  have hl' := isList_of ho
  have hd : (⟨.type "list", none, .seq items m, #[]⟩ : Obj).data = .seq items m := rfl
  have h0 : 0 ≤ i := by lia
  have hfit : i < 2 ^ 63 := by lia
  unfold setItem
  try with_reducible refine wpAny_holding ?_
  first | refine wpAny_bind (wpAny_pure ?_) | skip
  refine wpAny_bind (wpAny_sequenceKey hl'.typeIs (by decide) ?_)
  refine wpAny_bind (wpAny_callSpecial?_slot (name := Str.ofString "__setitem__") hl'.typeIs slot_list_setitem
    (wpAny_call_entry slot_list_setitem hl'.typeIs entry_list_setitem ?_ (args_list_setitem _ _ _)))
  show wpAny _ _ (Builtin.List.listSubscript? (.int i t) >>= _) _ _ s
  refine wpAny_bind (wpAny_listSubscript_int (fitsIndex_of h0 hfit) ?_)
  clear hfit
  subst hi
  have hj : k < items.size := by lia
  have hx' : items[k]? = some items[k] := Array.getElem?_eq_getElem hj
  show wpAny _ _ ((seqItemAt a k >>= fun r => pure (r.map (k, ·))) >>= _) _ _ s
  refine wpAny_bind (wpAny_bind (wpAny_seqItemAt ho hd (wpAny_pure ?_)))
  rw [hx']
  show wpAny _ _ (setSeqItemAt a k z >>= _) _ _ s
  refine wpAny_bind (wpAny_setSeqItemAt ho hd ?_)
  have fin := h _ (list_changed (f := fun x => x.setIfInBounds k z) (its' := items.setIfInBounds k z) (tk := s.toks) R hH ho rfl (by rw [Array.toList_setIfInBounds]; exact r.set k r3))
  first
    | exact wpAny_bind (wpAny_pure (wpAny_pure ⟨.none, rfl, wpAny_pure fin⟩))
    | exact wpAny_pure ⟨.none, rfl, wpAny_pure fin⟩
end
section
noncomputable def WG (W : Wd) (n : Nat) (cx : Cx) (t : T) (v : V) (ρ : Loc) (H : AH) (Q : Loc → AH → Prop) : Prop :=
  ∀ (x : Expr), sameT W.gt W.attr cx t x = true → ∀ (env : Env) (s : Shared) (A : Around) (X : Value → Shared → Prop) (y : Value), Rel W H s.heap → Frm W cx env ρ H s.heap → AOk n A → VR s.heap v y →
    wpAny W.M A (assign x env y) (fun _ => AnsW W cx env H s Q) X s
noncomputable def WGs (W : Wd) (n : Nat) (cx : Cx) (ts : Ts) (l : List V) (ρ : Loc) (H : AH) (Q : Loc → AH → Prop) : Prop :=
  ∀ (xs : List Expr), sameTs W.gt W.attr cx ts xs = true → starFree xs = true → ∀ (env : Env) (s : Shared) (A : Around) (X : Value → Shared → Prop) (ys : List Value), Rel W H s.heap → Frm W cx env ρ H s.heap → AOk n A → VRs s.heap l ys →
    wpAny W.M A (assignInOrder ((assignEach xs env).map (·.2)) ys) (fun _ => AnsW W cx env H s Q) X s
variable {W : Wd} {n : Nat} {cx : Cx} {ρ : Loc} {H : AH}
theorem wg_slot {i : Nat} {v : V} {Q : Loc → AH → Prop} (h : Q (ρ.set i (some v)) H) : WG W n cx (.slot i) v ρ H Q := by
  intro x hx env s A X y R F hA r
  apply t_slot hx
  intro x p h1 h2
  refine wpAny_bind (wpAny_standAt (wpAny_bindName (store_slot R F h1 h2 r fun s' R' F' c => ⟨_, _, h, R', F', c⟩)))
theorem wg_attr {o : E} {k : Nat} {v : V} {Q : Loc → AH → Prop} (h : WE W n cx o ρ H fun x H1 => ∃ oa C dx l, x = .ref oa ∧ H1 oa = some (.inst C dx) ∧ H1 dx = some (.ns l) ∧ W.cplain C = true ∧ W.cattr C k = true ∧ l.length ≤ 500 ∧ Q ρ (upd H1 dx (.ns (nput l k v)))) :
    WG W n cx (.attr o k) v ρ H Q := by
  intro x hx env s A X y R F hA r
  apply t_attr hx
  intro x p h2
  rw [arm_assign_Attribute]
  refine wpAny_bind (wpAny_holding (an (h _ h2 env s A X R F hA) fun ov s1 v1 H1 a1 w3s1 c1 => ?_))
  obtain ⟨oa, C, dx, l, e, q1, q2, q3, q4, q5, q6⟩ := w3s1
  subst e
  cases vr_ref a1
  refine wpAny_bind (wpAny_standAt (wpAny_bind (wpAny_holding (attr_set c1.rel q1 q2 q3 q4 q5 (c1.vr R r) fun s2 c2 => ?_))))
  exact wpAny_release ⟨ρ, _, q6, c2.rel, (c1.trans c2).frm R F, SF.of_step (c1.trans c2)⟩
theorem wg_idx {o i : E} {v : V} {Q : Loc → AH → Prop} (h : WE W n cx o ρ H fun x H1 => WE W n cx i ρ H1 fun y H2 => ∃ H3, SetOk W n x y v H2 H3 ∧ Q ρ H3) : WG W n cx (.idx o i) v ρ H Q := by
  intro x hx env s A X y R F hA r
  apply t_idx hx
  intro x sl p h0 h1 h2
  rw [arm_assign_Subscript]
  refine wpAny_bind (wpAny_holding (an (h _ h1 env s A X R F hA) fun ov s1 v1 H1 a1 b1 c1 => ?_))
  refine wpAny_bind (wpAny_holding (an (b1 _ h2 env s1 A X c1.rel (c1.frm R F) hA) fun iv s2 v2 H2 a2 w3s2 c2 => ?_))
  obtain ⟨H3, b2, b3⟩ := w3s2
  have c12 := c1.trans c2
  refine wpAny_bind (wpAny_standAt (wpAny_bind (wpAny_holding (b2 s2 A X _ ov iv y c2.rel hA (c2.vr c1.rel a1) a2 (c12.vr R r) fun s3 c3 => ?_))))
  exact wpAny_release ⟨ρ, _, b3, c3.rel, (c12.trans c3).frm R F, SF.of_step (c12.trans c3)⟩
theorem each_cons {x : Expr} {r : List Expr} {env : Env} (h : starFree (x :: r) = true) : assignEach (x :: r) env = (false, assign x env) :: assignEach r env ∧ starFree r = true := by
  cases x <;> first | exact ⟨rfl, h⟩ | cases h
noncomputable def Ts.len : Ts → Nat
  | .nil => 0
  | .cons _ ts => ts.len + 1
theorem sameTs_len : ∀ {ts : Ts} {xs : List Expr}, sameTs W.gt W.attr cx ts xs = true → xs.length = ts.len
  | .nil, _, h => by rw [ts_nil h]; rfl
  | .cons t ts, _, h => by obtain ⟨x, r, rfl, _, h2⟩ := ts_cons h; exact congrArg (· + 1) (sameTs_len h2)
theorem wgs_nil {Q : Loc → AH → Prop} (h : Q ρ H) : WGs W n cx .nil [] ρ H Q := by
  intro xs hx hf env s A X ys R F hA r
  cases ts_nil hx
  cases r
  exact wpAny_assignInOrder_none ⟨ρ, H, h, R, F, SF.refl⟩
theorem wgs_cons {t : T} {ts : Ts} {v : V} {l : List V} {Q : Loc → AH → Prop} (h : WG W n cx t v ρ H fun ρ1 H1 => WGs W n cx ts l ρ1 H1 Q) : WGs W n cx (.cons t ts) (v :: l) ρ H Q := by
  intro xs hx hf env s A X ys R F hA rr
  obtain ⟨x, r, rfl, h1, h2⟩ := ts_cons hx
  obtain ⟨e1, hf'⟩ := each_cons (env := env) hf
  cases rr with | cons r1 r2 => ?_
  rw [e1]
  refine wpAny_assignInOrder_more (anW (h x h1 env s A X _ R F hA r1) fun _ s1 ρ1 H1 q R1 F1 c1 => ?_)
  refine anW (q r h2 hf' env s1 A X _ R1 F1 hA (c1.vrs R F r2)) fun _ s2 ρ2 H2 q2 R2 F2 c2 => ?_
  exact ⟨ρ2, H2, q2, R2, F2, c1.trans c2⟩
theorem each_nostar {xs : List Expr} {env : Env} (h : starFree xs = true) : (assignEach xs env).findIdx? (·.1) = none ∧ (assignEach xs env).length = xs.length := by
  induction xs with
  | nil => exact ⟨rfl, rfl⟩
  | cons x r ih =>
    obtain ⟨e1, hf'⟩ := each_cons (env := env) h
    rw [e1]
    obtain ⟨h1, h2⟩ := ih hf'
    exact ⟨by simp [List.findIdx?_cons, h1], by simp [h2]⟩
theorem wg_tup {ts : Ts} {l : List V} {Q : Loc → AH → Prop} (hl : ts.len = l.length) (h : WGs W n cx ts l ρ H Q) : WG W n cx (.tup ts) (.tup l) ρ H Q := by
  intro x hx env s A X y R F hA r
  apply t_tup hx
  intro vs k p h1 h2
  obtain ⟨a, its, rfl, e, r'⟩ := vr_tup r
  obtain ⟨n1, n2⟩ := each_nostar (env := env) h1
  have hsz : its.size = l.length := by have := r'.length; rw [← Array.length_toList]; lia
  refine wpAny_assign_Tuple hA.h e (by rw [n2, sameTs_len h2, hl, hsz]) n1 fun h' k => ?_
  have k' : ∀ b o, s.heap.get? b = some o → h'.get? b = some o := fun b o q => k b o (Nat.ne_of_lt (Heap.lt_size q)) q
  have c1 := Step.kept R s.toks k'
  refine anW (h _ h2 h1 env _ A X _ c1.rel (c1.frm R F) hA (c1.vrs R r')) fun _ s2 ρ2 H2 q2 R2 F2 c2 => ?_
  exact ⟨ρ2, H2, q2, R2, F2, (SF.of_step c1).trans c2⟩
theorem swap_none {value : Expr} {target : Option Expr} {line : Nat} {env : Env} (h : notComp value = true) : swapsWith value target line env = pure false := by
  cases value <;> first | rfl | cases h
theorem swapSole_none {targets : List Expr} {value : Expr} {line : Nat} {env : Env} (h : notComp value = true) : swapsWithSole targets value line env = pure false := by
  unfold swapsWithSole
  split
  · exact swap_none h
  · rfl
theorem stores_eq (targets : List Expr) (value : Expr) (env : Env) : swappedStores targets value env = (match pairOf targets value with
  | none => pure none
  | some (ts, vs) =>
    if !(ts.length == 2 || ts.length == 3) || vs.length != ts.length || env.blockKind != .function then pure none else
    if vs.any isStar then pure none else
    let line := (ts.head?.map (·.pos.line)).getD 0
    let names := ts.filterMap (nameAt env.kindOf line)
    if names.length != ts.length || names.eraseDups.length != names.length then pure none else
    if vs.all (foldedForSure 8) then pure none else
    if vs.all (constantsAlone 8) then unsupported "assign.tuple-of-constant-expressions:order-of-the-stores" else pure (some names)) := by
  rcases targets with _ | ⟨t, _ | ⟨t2, r⟩⟩
  · rfl
  · cases t <;> first | rfl | (cases value <;> first | rfl | skip)
  · cases t <;> rfl
theorem stores_road {targets : List Expr} {value : Expr} {env : Env} {r : Option (List Str)} (hk : ∀ x, env.kindOf x = cx.kinds.lookup x) (hf : env.scope.kind = .function) (h : swapRoad cx targets value = some r) : swappedStores targets value env = pure r := by
  have hb : env.blockKind = .function := by unfold Env.blockKind; rw [hf]; rfl
  unfold swapRoad at h
  rw [stores_eq]
  have hk' : env.kindOf = fun x => cx.kinds.lookup x := funext hk
  simp only [hk', hb, bne_self_eq_false, Bool.or_false]
  cases hp : pairOf targets value with
  | none => rw [hp] at h; cases h; rfl
  | some p =>
    obtain ⟨ts, vs⟩ := p
    rw [hp] at h
    dsimp only at h ⊢
    split at h
    · cases h; rename_i q; rw [if_pos q]
    · rename_i q; rw [if_neg q]
      split at h
      · cases h; rename_i q; rw [if_pos q]
      · rename_i q; rw [if_neg q]
        split at h
        · cases h; rename_i q; rw [if_pos q]
        · rename_i q; rw [if_neg q]
          split at h
          · cases h; rename_i q; rw [if_pos q]
          · rename_i q; rw [if_neg q]
            split at h
            · cases h
            · cases h; rename_i q; rw [if_neg q]
theorem wss_nil {Q : AF → Loc → AH → Prop} (h : Q .next ρ H) : WSs W n cx .nil ρ H Q := by
  intro x hx env s A X R F hA
  cases ss_nil hx
  exact wpAny_execs_nil ⟨.next, ρ, H, trivial, h, R, F, SF.refl⟩
theorem wss_cons {c : S} {cs : Ss} {Q : AF → Loc → AH → Prop} (h : WS W n cx c ρ H fun a ρ1 H1 => match a with | .next => WSs W n cx cs ρ1 H1 Q | .brk => Q .brk ρ1 H1 | .cnt => Q .cnt ρ1 H1 | .ret v => Q (.ret v) ρ1 H1) : WSs W n cx (.cons c cs) ρ H Q := by
  intro x hx env s A X R F hA
  obtain ⟨x, r, rfl, h1, h2⟩ := ss_cons hx
  refine wpAny_execs_cons (anS (h x h1 env s A X R F hA) fun f s1 a ρ1 H1 af q R1 F1 c1 => ?_)
  cases a with
  | next =>
    cases f <;> first | exact af.elim | skip
    exact aftS c1 (q r h2 env s1 A X R1 F1 hA)
  | brk => cases f <;> first | exact af.elim | exact ⟨.brk, ρ1, H1, trivial, q, R1, F1, c1⟩
  | cnt => cases f <;> first | exact af.elim | exact ⟨.cnt, ρ1, H1, trivial, q, R1, F1, c1⟩
  | ret v => cases f <;> first | exact af.elim | exact ⟨.ret v, ρ1, H1, af, q, R1, F1, c1⟩
theorem asg_one {t : T} {x : Expr} {env : Env} (h : sameT W.gt W.attr cx t x = true) (y : Value) : assignAll y ((assignEach [x] env).map (·.2)) = assign x env y := by
  cases t with
  | slot i => apply t_slot h; intros; rfl
  | tup ts => apply t_tup h; intros; rfl
  | attr o k => apply t_attr h; intros; rfl
  | idx o i => apply t_idx h; intros; rfl
theorem ws_asg {t : T} {e : E} {Q : AF → Loc → AH → Prop} (h : WE W n cx e ρ H fun v H1 => WG W n cx t v ρ H1 fun ρ2 H2 => Q .next ρ2 H2) : WS W n cx (.asg t e) ρ H Q := by
  intro x hx env s A X R F hA
  apply c_asg hx
  intro tg v p h0 h1 h2 h3
  refine wpAny_Assign_stores (an (h v h2 env s A X R F hA) fun y s1 v1 H1 a1 b1 c1 => ?_) (swapSole_none h0) (stores_road (cx := cx) F.kinds F.fn h3)
  rw [asg_one h1]
  exact anW (b1 tg h1 env s1 A X y c1.rel (c1.frm R F) hA a1) fun _ s2 ρ2 H2 q2 R2 F2 c2 => ⟨.next, ρ2, H2, trivial, q2, R2, F2, (SF.of_step c1).trans c2⟩
theorem bind_one {env : Env} {A : Around} {X : Value → Shared → Prop} {x : Str} {i : Nat} {v : V} {y : Value} {s : Shared} {ts : List (Value → Sem Unit)} {ys : List Value} {P : Unit → Shared → Prop} (R : Rel W H s.heap) (F : Frm W cx env ρ H s.heap) (hs : cx.slots.lookup x = some i) (hk : cx.kinds.lookup x = some .local) (r : VR s.heap v y)
    (h : ∀ s', Rel W H s'.heap → Frm W cx env (ρ.set i (some v)) H s'.heap → SF cx env H s H s' → wpAny W.M A (assignInOrder ts ys) P X s') : wpAny W.M A (assignInOrder (bindName env x :: ts) (y :: ys)) P X s :=
  wpAny_assignInOrder_more (wpAny_bindName (store_slot R F hs (by rw [hk]; rfl) r h))
theorem swp_pre {tgs : List Expr} {v : Expr} {p : Pos} {names : List Str} {e : E} {env : Env} {s : Shared} {A : Around} {X : Value → Shared → Prop} {P : List V → AH → Prop} {Q : Flow → Shared → Prop} (h0 : notComp v = true) (h1 : sameE W.gt W.attr cx e v = true) (hr : swapRoad cx tgs v = some (some names))
    (h : WE W n cx e ρ H fun v H1 => ∃ l, v = .tup l ∧ l.length = names.length ∧ P l H1) (R : Rel W H s.heap) (F : Frm W cx env ρ H s.heap) (hA : AOk n A)
    (k : ∀ l H1 ys s2, P l H1 → VRs s2.heap l ys → Step W H s H1 s2 → wpAny W.M A (assignInOrder (names.reverse.map fun n => bindName env n) ys.reverse) (fun _ s' => Q .next s') X s2) : wpAny W.M A (exec (.Assign tgs v p) env) Q X s := by
  rw [exec_Assign_arm]
  refine wpAny_bind (wpAny_standAt ?_)
  rw [swapSole_none h0]
  refine wpAny_bind (wpAny_pure ?_)
  rw [if_neg Bool.false_ne_true]
  refine wpAny_bind (an (h v h1 env s A X R F hA) fun y s1 v1 H1 a1 w3s1 c1 => ?_)
  obtain ⟨l, e, hl, b1⟩ := w3s1
  subst e
  rw [stores_road (cx := cx) F.kinds F.fn hr]
  refine wpAny_bind (wpAny_pure ?_)
  obtain ⟨ad, its, rfl, e, r⟩ := vr_tup a1
  have hsz : its.size = names.length := by rw [← Array.length_toList, ← r.length, hl]
  refine wpAny_bind (wpAny_rule (wpAny_bind ?_))
  show wpAny W.M A (unpackItems (.ref ad) names.length none) _ X s1
  rw [← hsz]
  refine wpAny_unpackItems_tuple hA.h e fun h' k' => ?_
  have c2 := Step.kept c1.rel s1.toks fun b o q => k' b o (Nat.ne_of_lt (Heap.lt_size q)) q
  exact wpAny_bind (wpAny_mono (k l H1 its.toList _ b1 (c2.vrs c1.rel r) (c1.trans c2)) (fun _ _ z => wpAny_pure z) fun _ _ z => z)
theorem so_nil {l : List Str} (h : slotsOf cx l [] = true) : l = [] := by
  cases l with
  | nil => rfl
  | cons _ _ => exact absurd h Bool.false_ne_true
theorem so_cons {i : Nat} {is : List Nat} {l : List Str} (h : slotsOf cx l (i :: is) = true) : ∃ x r, l = x :: r ∧ cx.slots.lookup x = some i ∧ cx.kinds.lookup x = some .local ∧ slotsOf cx r is = true := by
  cases l with
  | nil => exact absurd h Bool.false_ne_true
  | cons x r =>
    obtain ⟨h, h3⟩ := an2 h
    exact ⟨x, r, rfl, eq_of_beq (an2 h).1, eq_of_beq (an2 h).2, h3⟩
theorem ws_swp2 {i j : Nat} {e : E} {Q : AF → Loc → AH → Prop} (h : WE W n cx e ρ H fun v H1 => ∃ a b, v = .tup [a, b] ∧ Q .next ((ρ.set j (some b)).set i (some a)) H1) : WS W n cx (.swp [i, j] e) ρ H Q := by
  intro x hx env s A X R F hA
  apply c_swp hx
  intro tgs v p names h0 h1 hr g1
  obtain ⟨x1, r1, rfl, k1, k2, g2⟩ := so_cons g1
  obtain ⟨x2, r2, rfl, k3, k4, g3⟩ := so_cons g2
  cases so_nil g3
  clear g1 g2 g3 hx
  refine swp_pre (P := fun l H1 => ∃ a b, l = [a, b] ∧ Q .next ((ρ.set j (some b)).set i (some a)) H1) h0 h1 hr (h.mono fun _ _ ⟨a, b, e, q⟩ => ⟨[a, b], e, rfl, a, b, rfl, q⟩) R F hA fun l H1 ys s2 ⟨a, b, e, q⟩ r c => ?_
  subst e
  obtain ⟨y1, y2, rfl, r1, r2⟩ := r.two_inv
  refine bind_one c.rel (c.frm R F) k3 k4 r2 fun s3 R3 F3 c3 => ?_
  refine bind_one R3 F3 k1 k2 (c3.vr c.rel (c.frm R F) r1) fun s4 R4 F4 c4 => ?_
  exact wpAny_assignInOrder_none ⟨.next, _, _, trivial, q, R4, F4, ((SF.of_step c).trans c3).trans c4⟩
theorem ws_swp3 {i j k : Nat} {e : E} {Q : AF → Loc → AH → Prop} (h : WE W n cx e ρ H fun v H1 => ∃ a b c, v = .tup [a, b, c] ∧ Q .next (((ρ.set k (some c)).set j (some b)).set i (some a)) H1) : WS W n cx (.swp [i, j, k] e) ρ H Q := by
  intro x hx env s A X R F hA
  apply c_swp hx
  intro tgs v p names h0 h1 hr g1
  obtain ⟨x1, r1, rfl, k1, k2, g2⟩ := so_cons g1
  obtain ⟨x2, r2, rfl, k3, k4, g3⟩ := so_cons g2
  obtain ⟨x3, r3, rfl, k5, k6, g4⟩ := so_cons g3
  cases so_nil g4
  clear g1 g2 g3 g4 hx
  refine swp_pre (P := fun l H1 => ∃ a b c, l = [a, b, c] ∧ Q .next (((ρ.set k (some c)).set j (some b)).set i (some a)) H1) h0 h1 hr (h.mono fun _ _ ⟨a, b, c, e, q⟩ => ⟨[a, b, c], e, rfl, a, b, c, rfl, q⟩) R F hA fun l H1 ys s2 ⟨a, b, c, e, q⟩ r c2 => ?_
  subst e
  obtain ⟨y1, y2, y3, rfl, r1, r2, r3⟩ := r.three_inv
  refine bind_one c2.rel (c2.frm R F) k5 k6 r3 fun s3 R3 F3 c3 => ?_
  refine bind_one R3 F3 k3 k4 (c3.vr c2.rel (c2.frm R F) r2) fun s4 R4 F4 c4 => ?_
  refine bind_one R4 F4 k1 k2 ((c3.trans c4).vr c2.rel (c2.frm R F) r1) fun s5 R5 F5 c5 => ?_
  exact wpAny_assignInOrder_none ⟨.next, _, _, trivial, q, R5, F5, (((SF.of_step c2).trans c3).trans c4).trans c5⟩
noncomputable def InOk (W : Wd) (n : Nat) (op : Operator) (x y : V) (H : AH) (Q : V → AH → Prop) : Prop :=
  ∀ (s : Shared) (A : Around) (X : Value → Shared → Prop) (a b : Value), Rel W H s.heap → AOk n A → VR s.heap x a → VR s.heap y b → Out W H Q s A X (inplaceOp op a b)
theorem in_add {i j : Int} {Q : V → AH → Prop} (h : Q (.int (i + j)) H) : InOk W n .Add (.int i) (.int j) H Q := fun s A X a b R hA ha hb => by
  obtain ⟨t, rfl⟩ := vr_int ha; obtain ⟨u, rfl⟩ := vr_int hb
  exact wpAny_iadd_int (ec (.int _ _) h ((Step.refl R).tok _))
theorem in_sub {i j : Int} {Q : V → AH → Prop} (h : Q (.int (i - j)) H) : InOk W n .Sub (.int i) (.int j) H Q := fun s A X a b R hA ha hb => by
  obtain ⟨t, rfl⟩ := vr_int ha; obtain ⟨u, rfl⟩ := vr_int hb
  exact isub_int (ec (.int _ _) h ((Step.refl R).tok _))
theorem storable_localish {k : Option NameKind} (h : storable cx k = true) : localish k = true := by unfold storable at h; split at h <;> first | rfl | cases h
theorem ws_aug {i : Nat} {op : Operator} {e : E} {u : V} {Q : AF → Loc → AH → Prop} (hu : ρ[i]? = some (some u)) (h : WE W n cx e ρ H fun v H1 => InOk W n op u v H1 fun w H2 => Q .next (ρ.set i (some w)) H2) : WS W n cx (.aug i op e) ρ H Q := by
  intro x hx env s A X R F hA
  apply c_aug hx
  intro x q v p h0 h1 h2 h3
  refine wpAny_AugAssign_Name (load_slot F h1 (storable_localish h2) h0 hu fun y r => ?_)
  refine an (h _ h3 env s A X R F hA) fun z s1 v H1 a1 b1 c1 => ?_
  refine an (b1 s1 A X y z c1.rel hA (c1.vr R r) a1) fun w s2 v2 H2 a2 b2 c2 => ?_
  have c12 := c1.trans c2
  exact store_slot c12.rel (c12.frm R F) h1 h2 a2 fun s3 R3 F3 c3 => ⟨.next, _, _, trivial, b2, R3, F3, (SF.of_step c12).trans c3⟩
theorem ws_if {t : E} {a b : Ss} {Q : AF → Loc → AH → Prop} (h : WT W n cx t ρ H fun r H1 => (r = true → WSs W n cx a ρ H1 Q) ∧ (r = false → WSs W n cx b ρ H1 Q)) : WS W n cx (.ifs t a b) ρ H Q := by
  intro x hx env s A X R F hA
  apply c_ifs hx
  intro x a b p h1 h2 h3
  refine wpAny_If (anT (h _ h1 env s A X R F hA) fun r s1 H1 w1s1 c1 => ?_)
  obtain ⟨b1, b2⟩ := w1s1
  cases r with
  | true => exact aftS (SF.of_step c1) (b1 rfl _ h2 env s1 A X c1.rel (c1.frm R F) hA)
  | false => exact aftS (SF.of_step c1) (b2 rfl _ h3 env s1 A X c1.rel (c1.frm R F) hA)
theorem ws_ret {e : E} {Q : AF → Loc → AH → Prop} (h : WE W n cx e ρ H fun v H1 => Q (.ret v) ρ H1) : WS W n cx (.ret e) ρ H Q := by
  intro x hx env s A X R F hA
  apply c_ret hx
  intro v p hx
  exact wpAny_Return_some (an (h _ hx env s A X R F hA) fun y s1 v H1 a1 b1 c1 => ⟨.ret v, ρ, H1, a1, b1, c1.rel, c1.frm R F, SF.of_step c1⟩)
theorem ws_brk {Q : AF → Loc → AH → Prop} (h : Q .brk ρ H) : WS W n cx .brk ρ H Q := by
  intro x hx env s A X R F hA
  obtain ⟨p, rfl⟩ := c_brk hx
  exact wpAny_Break ⟨.brk, ρ, H, trivial, h, R, F, SF.refl⟩
theorem ws_cnt {Q : AF → Loc → AH → Prop} (h : Q .cnt ρ H) : WS W n cx .cnt ρ H Q := by
  intro x hx env s A X R F hA
  obtain ⟨p, rfl⟩ := c_cnt hx
  exact wpAny_Continue ⟨.cnt, ρ, H, trivial, h, R, F, SF.refl⟩
theorem ws_exp {e : E} {Q : AF → Loc → AH → Prop} (h : WE W n cx e ρ H fun v H1 => Q .next ρ H1) : WS W n cx (.exp e) ρ H Q := by
  intro x hx env s A X R F hA
  apply c_exp hx
  intro ex p h1 h2
  have nc : notComp ex = true := by cases ex <;> first | rfl | cases h2
  refine wpAny_Expr_any (an (h _ h1 env s A X R F hA) fun y s1 v H1 a1 b1 c1 => ⟨.next, ρ, H1, trivial, b1, c1.rel, c1.frm R F, SF.of_step c1⟩) (by unfold interactive; rw [F.fn]; rfl) (swap_none nc)
theorem ws_whl {t : E} {b : Ss} {Q : AF → Loc → AH → Prop} (I : Nat → Loc → AH → Prop) (m : Nat) (h0 : I m ρ H)
    (h : ∀ m ρ H, I m ρ H → WT W n cx t ρ H fun r H1 => (r = true → WSs W n cx b ρ H1 fun a ρ2 H2 => match a with | .next => ∃ m', m' < m ∧ I m' ρ2 H2 | .cnt => ∃ m', m' < m ∧ I m' ρ2 H2 | .brk => Q .next ρ2 H2 | .ret v => Q (.ret v) ρ2 H2) ∧ (r = false → Q .next ρ H1)) :
    WS W n cx (.whl t b) ρ H Q := by
  intro x hx env s A X R F hA
  apply c_whl hx
  intro x b p h1 h2
  refine wpAny_While (codeAny_whileLoop (fun m s' => ∃ ρ' H', I m ρ' H' ∧ Rel W H' s'.heap ∧ Frm W cx env ρ' H' s'.heap ∧ SF cx env H s H' s') (fun m s1 ⟨ρ1, H1, i1, R1, F1, c1⟩ => ?_) m ⟨ρ, H, h0, R, F, SF.refl⟩)
  refine anT (h m ρ1 H1 i1 _ h1 env s1 A _ R1 F1 hA) fun r s2 H2 w1s2 c2 => ?_
  obtain ⟨b1, b2⟩ := w1s2
  have c12 := c1.trans (SF.of_step (cx := cx) (env := env) c2)
  cases r with
  | true =>
    refine anS (b1 rfl _ h2 env s2 A _ c2.rel (c2.frm R1 F1) hA) fun f s3 a ρ3 H3 af q R3 F3 c3 => ?_
    have c13 := c12.trans c3
    cases a with
    | next =>
      cases f <;> first | exact af.elim | skip
      obtain ⟨m', q1, q2⟩ := q
      exact ⟨m', q1, ρ3, H3, q2, R3, F3, c13⟩
    | cnt =>
      cases f <;> first | exact af.elim | skip
      obtain ⟨m', q1, q2⟩ := q
      exact ⟨m', q1, ρ3, H3, q2, R3, F3, c13⟩
    | brk => cases f <;> first | exact af.elim | exact ⟨.next, ρ3, H3, trivial, q, R3, F3, c13⟩
    | ret v => cases f <;> first | exact af.elim | exact ⟨.ret v, ρ3, H3, af, q, R3, F3, c13⟩
  | false => exact wpAny_execs_nil ⟨.next, ρ1, H2, trivial, b2 rfl, c2.rel, c2.frm R1 F1, c12⟩
end
section
structure KB (fp : List Addr) (s s' : Shared) : Prop where
  kept : ∀ b o, b ∉ fp → s.heap.get? b = some o → s'.heap.get? b = some o
  same : SmH s s'
structure Iter (W : Wd) (n : Nat) (x : Expr) (it : Value) (vals : List V) (Wt : AH → Prop) (fp : List Addr) (I : Nat → Heap → Prop) : Prop where
  ex : ∀ i h, I i h → ∀ b ∈ fp, ∃ o, h.get? b = some o ∧ ¬ isTup o
  keep : ∀ i h h', I i h → TupKeep h h' → (∀ b ∈ fp, ∀ o, h.get? b = some o → h'.get? b = some o) → I i h'
  next : ∀ (i : Nat) (v : V) (H : AH) (s : Shared) (A : Around) (X : Value → Shared → Prop) (Q : Option Value → Shared → Prop), AOk n A → Rel W H s.heap → Wt H → (∀ b ∈ fp, H b = none) → vals[i]? = some v → I i s.heap →
    (∀ y s', VR s'.heap v y → KB fp s s' → (∀ b ∈ fp, ∀ o, s'.heap.get? b = some o → ¬ isTup o) →
      (∀ (X' : Value → Shared → Prop) (Q' : Unit → Shared → Prop), (∀ s'', KB fp s' s'' → I (i + 1) s''.heap → Q' () s'') → wpAny W.M A (letOwnedTupleGo x it y) Q' X' s') → Q (some y) s') → wpAny W.M A (pyNext it) Q X s
  self : ∀ (i : Nat) (H : AH) (s : Shared) (A : Around) (X : Value → Shared → Prop) (Q : Value → Shared → Prop), AOk n A → Rel W H s.heap → Wt H → (∀ b ∈ fp, H b = none) → I i s.heap → Q it s → wpAny W.M A (pyIter it) Q X s
  done : ∀ (H : AH) (s : Shared) (A : Around) (X : Value → Shared → Prop) (Q : Option Value → Shared → Prop), AOk n A → Rel W H s.heap → Wt H → (∀ b ∈ fp, H b = none) → I vals.length s.heap → (∀ s', KB fp s s' → Q none s') → wpAny W.M A (pyNext it) Q X s
variable {W : Wd} {n : Nat} {cx : Cx} {ρ : Loc} {H : AH}
theorem KB.trans {fp : List Addr} {s s' s'' : Shared} (x : KB fp s s') (y : KB fp s' s'') : KB fp s s'' := by
  refine ⟨fun b o h e => y.kept b o h (x.kept b o h e), ?_⟩
  exact x.same.trans y.same
theorem KB.tups {fp : List Addr} {s s' : Shared} (k : KB fp s s') (hn : ∀ b ∈ fp, ∀ o, s.heap.get? b = some o → ¬ isTup o) : TupKeep s.heap s'.heap := fun a o e ht =>
  k.kept a o (fun q => hn a q o e ht) e
theorem KB.rel {fp : List Addr} {s s' : Shared} (k : KB fp s s') (R : Rel W H s.heap) (hf : ∀ b ∈ fp, H b = none) (hb : ∀ b ∈ fp, W.base.get? b = none) (hn : ∀ b ∈ fp, ∀ o, s.heap.get? b = some o → ¬ isTup o) : Rel W H s'.heap :=
  ⟨fun a o e => ⟨k.kept a o (fun q => by rw [hb a q] at e; cases e) (R.base a o e).1, (R.base a o e).2⟩,
   fun a o e => (R.objs a o e).keep (k.tups hn) fun ob q => k.kept a ob (fun q' => by rw [hf a q'] at e; cases e) q⟩
noncomputable def Apart (cx : Cx) (env : Env) (fp : List Addr) : Prop := env.locals ∉ fp ∧ ∀ x i c, cx.slots.lookup x = some i → (cx.kinds.lookup x = some .cell ∨ cx.kinds.lookup x = some .free) → env.cells.lookup x = some c → c ∉ fp
theorem Frm.apart_of {env : Env} {h : Heap} {fp : List Addr} (F : Frm W cx env ρ H h) (hf : ∀ b ∈ fp, H b = none → h.get? b = none) : Apart cx env fp := by
  refine ⟨fun q => ?_, fun x i c h1 h2 h3 q => ?_⟩
  · obtain ⟨m, ⟨o, es, ep, e, hm⟩, hl2⟩ := F.loc
    rw [hf _ q F.locH] at e; cases e
  · obtain ⟨c', ov, c1, c2, c3, c4, ⟨o', c5, c6⟩, c7⟩ := F.cell x i h1 h2
    rw [h3] at c1; cases c1
    rw [hf _ q c3] at c5; cases c5
theorem KB.frm {fp : List Addr} {env : Env} {s s' : Shared} (k : KB fp s s') (F : Frm W cx env ρ H s.heap) (ha : Apart cx env fp) (hn : ∀ b ∈ fp, ∀ o, s.heap.get? b = some o → ¬ isTup o) : Frm W cx env ρ H s'.heap := by
  have tk := k.tups hn
  obtain ⟨m, ⟨o, es, ep, e, hm⟩, hl2⟩ := F.loc
  refine ⟨F.kinds, F.fn, F.gl, F.bl, ⟨m, ⟨o, es, ep, k.kept _ _ ha.1 e, hm⟩, fun x i v h1 h2 h3 => let ⟨y, q, r⟩ := hl2 x i v h1 h2 h3; ⟨y, q, r.keep tk⟩⟩, F.locH, F.locB, fun x i h1 h2 => ?_, F.apart, F.inj, F.code⟩
  obtain ⟨c, ov, c1, c2, c3, c4, ⟨o', c5, c6⟩, c7⟩ := F.cell x i h1 h2
  exact ⟨c, ov, c1, c2, c3, c4, ⟨o', k.kept _ _ (ha.2 x i c h1 h2 c1) c5, c6⟩, fun v hv => let ⟨y, q, r⟩ := c7 v hv; ⟨y, q, r.keep tk⟩⟩
theorem SF.kb {fp : List Addr} {env : Env} {H0 : AH} {s0 s s' : Shared} (c : SF cx env H0 s0 H s) (hf : ∀ b ∈ fp, H0 b = none → s0.heap.get? b = none) (k : KB fp s s') : SF cx env H0 s0 H s' := by
  refine ⟨fun b o e h h1 h2 => ?_, ?_⟩
  · obtain ⟨a, d⟩ := c.ext b o e h h1 h2
    exact ⟨k.kept b o (fun q => by rw [hf b q h] at e; cases e) a, d⟩
  · exact c.same.trans k.same
structure FB (W : Wd) (n : Nat) (cx : Cx) (t : T) (b : Ss) (Q : AF → Loc → AH → Prop) (vals : List V) (Wt : AH → Prop) (ρ : Loc) (H : AH) (Inv : Nat → Loc → AH → Prop) : Prop where
  zero : Inv 0 ρ H
  wt : ∀ i ρ H, Inv i ρ H → Wt H
  step : ∀ i v ρ H, vals[i]? = some v → Inv i ρ H → WG W n cx t v ρ H fun ρ1 H1 => WSs W n cx b ρ1 H1 fun a ρ2 H2 => match a with
    | .next => Inv (i + 1) ρ2 H2 | .cnt => Inv (i + 1) ρ2 H2 | .brk => Q .next ρ2 H2 | .ret v => Q (.ret v) ρ2 H2
  fin : ∀ ρ H, Inv vals.length ρ H → Q .next ρ H
inductive ForI (W : Wd) (cx : Cx) (vals : List V) (fp : List Addr) (I : Nat → Heap → Prop) (Inv : Nat → Loc → AH → Prop) (env : Env) (s0 : Shared) (H0 : AH) (m : Nat) (s : Shared) : Prop
  | mk (i : Nat) (ρ : Loc) (H : AH) (em : m = vals.length - i) (hi : i ≤ vals.length) (q : Inv i ρ H) (I2 : I i s.heap) (R : Rel W H s.heap) (F : Frm W cx env ρ H s.heap) (c : SF cx env H0 s0 H s) (f : ∀ b ∈ fp, H b = none)
theorem for_core {x : Expr} {body : List Stmt} {t : T} {b : Ss} {Q : AF → Loc → AH → Prop} {itv : Value} {vals : List V} {Wt : AH → Prop} {fp : List Addr} {I : Nat → Heap → Prop} {Inv : Nat → Loc → AH → Prop} {ρ1 : Loc} {H1 : AH}
    (IT : Iter W n x itv vals Wt fp I) (hx : sameT W.gt W.attr cx t x = true) (hb : sameSs W.gt W.attr cx b body = true) (B : FB W n cx t b Q vals Wt ρ1 H1 Inv)
    {env : Env} {s0 s : Shared} {H0 : AH} {A : Around} {E : Value → Shared → Prop} {ρ0 : Loc} (F0 : Frm W cx env ρ0 H0 s0.heap) (hA : AOk n A)
    (hf0 : ∀ b ∈ fp, H0 b = none → s0.heap.get? b = none) (hfB : ∀ b ∈ fp, W.base.get? b = none) (hI : I 0 s.heap) (R : Rel W H1 s.heap) (F : Frm W cx env ρ1 H1 s.heap) (c : SF cx env H0 s0 H1 s) (hfH : ∀ b ∈ fp, H1 b = none) :
    codeAny W.M A (.forLoop x itv body [] env) (fun r s' => match r with | .ok f => AnsS W cx env H0 s0 Q f s' | .error e => E e s') s := by
  have ha := F0.apart_of hf0
  refine codeAny_forLoop_any (ForI W cx vals fp I Inv env s0 H0) (fun m s1 q => ?_) vals.length ⟨0, ρ1, H1, rfl, Nat.zero_le _, B.zero, hI, R, F, c, hfH⟩
  obtain ⟨i, ρ2, H2, em, hi, i2, I2, R2, F2, c2, f2⟩ := q
  have nt : ∀ b ∈ fp, ∀ o, s1.heap.get? b = some o → ¬ isTup o := fun b hb o e => by
    obtain ⟨o', e', q⟩ := IT.ex i _ I2 b hb
    rw [e] at e'; cases e'; exact q
  rcases Nat.lt_or_ge i vals.length with hlt | hge
  · have hv : vals[i]? = some vals[i] := List.getElem?_eq_getElem hlt
    refine IT.next i vals[i] H2 s1 A _ _ hA R2 (B.wt _ _ _ i2) f2 hv I2 fun y s2 ry k2 nt2 go => ?_
    refine go _ _ fun s3 k3 I3 => ?_
    have R2' := k2.rel R2 f2 hfB nt
    have F2' := k2.frm F2 ha nt
    have R3 := k3.rel R2' f2 hfB nt2
    have F3 := k3.frm F2' ha nt2
    have c3 := (c2.kb hf0 k2).kb hf0 k3
    refine wpAny_mono (B.step i _ ρ2 H2 hv i2 x hx env s3 A _ y R3 F3 hA (ry.keep (k3.tups nt2))) (fun _ s4 ⟨ρ4, H4, q4, R4, F4, c4⟩ => ?_) fun _ _ z => z
    refine wpAny_mono (q4 body hb env s4 A _ R4 F4 hA) (fun f s5 ⟨a, ρ5, H5, af, q5, R5, F5, c5⟩ => ?_) fun _ _ z => z
    have c35 := c4.trans c5
    have c05 := c3.trans c35
    have again : Inv (i + 1) ρ5 H5 → ∃ m', m' < m ∧ ForI W cx vals fp I Inv env s0 H0 m' s5 := fun q => by
      have kf : ∀ b ∈ fp, ∀ o, s3.heap.get? b = some o → s5.heap.get? b = some o ∧ H5 b = none := fun b hb o e =>
        c35.ext b o e (f2 b hb) (by rintro rfl; exact ha.1 hb) fun x i _ h1 h2 h3 => ha.2 x i b h1 h2 h3 hb
      refine ⟨vals.length - (i + 1), em ▸ sb_lt hlt, i + 1, ρ5, H5, rfl, hlt, q, IT.keep _ _ _ I3 (c35.tups R3 F3) fun b hb o e => (kf b hb o e).1, R5, F5, c05, fun b hb => ?_⟩
      obtain ⟨o, e, _⟩ := IT.ex _ _ I3 b hb
      exact (kf b hb o e).2
    cases a with
    | next => cases f <;> first | exact af.elim | exact again q5
    | cnt => cases f <;> first | exact af.elim | exact again q5
    | brk => cases f <;> first | exact af.elim | exact ⟨.next, ρ5, H5, trivial, q5, R5, F5, c05⟩
    | ret v => cases f <;> first | exact af.elim | exact ⟨.ret v, ρ5, H5, af, q5, R5, F5, c05⟩
  · cases Nat.le_antisymm hi hge
    refine IT.done H2 s1 A _ _ hA R2 (B.wt _ _ _ i2) f2 I2 fun s2 k2 => ?_
    exact wpAny_execs_nil ⟨.next, ρ2, H2, trivial, B.fin _ _ i2, k2.rel R2 f2 hfB nt, k2.frm F2 ha nt, c2.kb hf0 k2⟩
end
section
noncomputable def DRaw (h : Heap) (d : Addr) (es : Array DictEntry) (ep : Nat) : Prop := ∃ o, h.get? d = some o ∧ o.cls = .type "dict" ∧ o.data = .dict es ep
section
variable {prog : Program} {w : World} {A : Around} {E : Value → Shared → Prop} {s : Shared}
theorem pyIter_dictR {d : Addr} {es : Array DictEntry} {ep : Nat} {Q : Value → Shared → Prop} (hd : (d == sysModules) = false) (hm : DRaw s.heap d es ep)
    (hQ : Q (.ref s.heap.objs.size) { s with heap := s.heap.push { cls := .type "dict_keyiterator", data := .fields #[.ref d, .int 0 0, .int es.size 0, .int ep 0] } }) :
    wpAny (model prog w) A (pyIter (.ref d)) Q E s := by
  obtain ⟨o, ho, hc, hdat⟩ := id hm
  have hT : s.TypeIs (.ref d) "dict" := ⟨o, ho, hc⟩
  refine wpAny_pyIter_slot hT PySem.F.slot_dict_iter (wpAny_call_entry PySem.F.slot_dict_iter hT PySem.F.entry_dict_iter ?_ (PySem.F.args_dict_iter_1 _))
  unfold Builtin.«dict.__iter__»
  refine wpAny_bind ?_
  unfold Builtin.Dict.dictSlotNone
  refine wpAny_bind (wpAny_notOrdered_dict hT ?_)
  show wpAny _ _ (pure (Value.ref d)) _ _ s
  refine wpAny_pure ?_
  show wpAny _ _ (Builtin.Dict.showsAll d >>= _) _ _ s
  unfold Builtin.Dict.showsAll
  rw [if_neg (by rw [hd]; exact Bool.false_ne_true)]
  refine wpAny_bind (wpAny_pure ?_)
  refine wpAny_bind (wpAny_dictEntries ho hdat ?_)
  refine wpAny_bind (wpAny_dictEpoch ho hdat ?_)
  refine wpAny_bind (wpAny_newObj_type (wpAny_pure ⟨_, rfl, "dict_keyiterator", _, ⟨_, Heap.get?_push_size _ rfl, rfl⟩, PySem.F.slot_dict_keyiterator_next.lookup, ?_⟩))
  simpa [rawInt] using hQ
theorem pyNext_dictR_item {it d : Addr} {i ep : Nat} {es : Array DictEntry} {Q : Option Value → Shared → Prop} (hit : s.heap.IsKeyIter it d i es.size ep)
    (hm : DRaw s.heap d es ep) {e : DictEntry} (hx : es[i]? = some e)
    (hQ : ∀ h', h'.IsKeyIter it d (i + 1) es.size ep → Heap.SameBut it s.heap h' → Q (some e.key) { s with heap := h' }) :
    wpAny (model prog w) A (pyNext (.ref it)) Q E s := by
  obtain ⟨o, ho, hc, hd⟩ := id hit
  obtain ⟨od, hod, hcd, hdd⟩ := id hm
  unfold pyNext
  refine wpAny_bind (wpAny_attempt (wpAny_callSpecial?_slot (name := Str.ofString "__next__") hit.typeIs PySem.F.slot_dict_keyiterator_next
    (wpAny_call_entry PySem.F.slot_dict_keyiterator_next hit.typeIs PySem.F.entry_dict_keyiterator_next ?_ (PySem.F.args_dict_keyiterator_next_1 _))))
  refine wpAny_bind (wpAny_pure ?_)
  refine wpAny_bind ?_
  refine wpAny_bind ?_
  first | refine wpAny_bind (wpAny_typeNameOfWhole_keyiter hit.typeIs (wpAny_pure ?_)) | refine wpAny_bind (wpAny_typeNameOf_keyiter hit.typeIs (wpAny_pure ?_))
  refine wpAny_bind (wpAny_fieldsOf ho hd ?_)
  have hown : Builtin.Dict_items.ownsTuple "dict_keyiterator" = false := by decide
  rw [if_neg (by rw [hown]; exact Bool.false_ne_true)]
  show wpAny _ _ (if (Value.ref d == Value.none) = true then _ else _) _ _ s
  rw [if_neg (show ¬ ((Value.ref d == Value.none) = true) from Bool.false_ne_true)]
  refine wpAny_bind (wpAny_pure ?_)
  refine wpAny_bind (wpAny_dictEntries hod hdd ?_)
  rw [if_neg (by simp)]
  refine wpAny_bind (wpAny_pure ?_)
  refine wpAny_bind (wpAny_dictEpoch hod hdd ?_)
  rw [if_neg (by simp)]
  refine wpAny_pure ?_
  dsimp only
  rw [if_neg (show ¬ ((i : Int) < 0) by lia), Int.toNat_natCast, hx]
  dsimp only
  refine wpAny_bind ?_
  first | refine wpAny_bind (wpAny_typeNameOfWhole_keyiter hit.typeIs (wpAny_pure ?_)) | refine wpAny_bind (wpAny_typeNameOf_keyiter hit.typeIs (wpAny_pure ?_))
  refine wpAny_bind (wpAny_isOneOf_keyiter hit.typeIs ?_)
  show wpAny _ _ (setField (.ref it) 1 (rawInt ((i : Int) + 1)) >>= _) _ _ s
  refine wpAny_bind (wpAny_setField ho hd (by simp) ?_)
  have hit' : (s.heap.update it (Obj.mapFields (·.setIfInBounds 1 (rawInt ((i : Int) + 1))))).IsKeyIter it d (i + 1) es.size ep :=
    ⟨_, Heap.get?_update_self _ ho (Obj.isFreed_of_fields (Obj.data_mapFields hd _)), (Obj.cls_mapFields ..).trans hc, by rw [Obj.data_mapFields hd]; simp [rawInt]⟩
  refine wpAny_bind (wpAny_holding ?_)
  refine wpAny_bind (wpAny_isOneOf_keyiter (s := { s with heap := s.heap.update it (Obj.mapFields (·.setIfInBounds 1 (rawInt ((i : Int) + 1)))) }) hit'.typeIs ?_)
  show wpAny _ _ (pure e.key) _ _ _
  exact wpAny_pure (wpAny_pure ⟨_, rfl, wpAny_pure (hQ _ hit' (Heap.SameBut.update ..))⟩)
theorem pyNext_dictR_end {it d : Addr} {i ep : Nat} {es : Array DictEntry} {Q : Option Value → Shared → Prop} (hh : A.handled = none) (hit : s.heap.IsKeyIter it d i es.size ep)
    (hm : DRaw s.heap d es ep) (hx : es[i]? = none)
    (hQ : ∀ h', Heap.ExtBut it s.heap h' → Q none { s with heap := h' }) : wpAny (model prog w) A (pyNext (.ref it)) Q E s := by
  obtain ⟨o, ho, hc, hd⟩ := id hit
  obtain ⟨od, hod, hcd, hdd⟩ := id hm
  unfold pyNext
  refine wpAny_bind (wpAny_attempt (wpAny_callSpecial?_slot (name := Str.ofString "__next__") hit.typeIs PySem.F.slot_dict_keyiterator_next
    (wpAny_call_entry PySem.F.slot_dict_keyiterator_next hit.typeIs PySem.F.entry_dict_keyiterator_next ?_ (PySem.F.args_dict_keyiterator_next_1 _))))
  refine wpAny_bind (wpAny_pure ?_)
  refine wpAny_bind ?_
  refine wpAny_bind ?_
  first | refine wpAny_bind (wpAny_typeNameOfWhole_keyiter hit.typeIs (wpAny_pure ?_)) | refine wpAny_bind (wpAny_typeNameOf_keyiter hit.typeIs (wpAny_pure ?_))
  refine wpAny_bind (wpAny_fieldsOf ho hd ?_)
  have hown : Builtin.Dict_items.ownsTuple "dict_keyiterator" = false := by decide
  rw [if_neg (by rw [hown]; exact Bool.false_ne_true)]
  show wpAny _ _ (if (Value.ref d == Value.none) = true then _ else _) _ _ s
  rw [if_neg (show ¬ ((Value.ref d == Value.none) = true) from Bool.false_ne_true)]
  refine wpAny_bind (wpAny_pure ?_)
  refine wpAny_bind (wpAny_dictEntries hod hdd ?_)
  rw [if_neg (by simp)]
  refine wpAny_bind (wpAny_pure ?_)
  refine wpAny_bind (wpAny_dictEpoch hod hdd ?_)
  rw [if_neg (by simp)]
  refine wpAny_pure ?_
  dsimp only
  rw [if_neg (show ¬ ((i : Int) < 0) by lia), Int.toNat_natCast, hx]
  dsimp only
  refine wpAny_bind ?_
  first | refine wpAny_bind (wpAny_typeNameOfWhole_keyiter hit.typeIs (wpAny_pure ?_)) | refine wpAny_bind (wpAny_typeNameOf_keyiter hit.typeIs (wpAny_pure ?_))
  show wpAny _ _ (setField (.ref it) 0 .none >>= _) _ _ s
  refine wpAny_bind (wpAny_setField ho hd (by simp) ?_)
  show wpAny _ _ (newExc (.type "StopIteration") [] >>= _) _ _ _
  refine wpAny_bind ?_
  simp only [newExc, newTuple]
  refine wpAny_bind (wpAny_newObj_type ?_ (by size_fits))
  refine wpAny_bind (m := firstArgMember _ _) (wpAny_of_eq (a := Value.none) (by first | rfl | (simp only [firstArgMember]; rfl)) ?_)
  refine wpAny_newObj_type ?_ (by size_fits)
  simp only [raiseNew]
  refine wpAny_bind (wpAny_handled ?_)
  rw [show A.in1.handled = none from hh]
  refine wpAny_bind (wpAny_pure (wpAny_throw ?_))
  refine wpAny_bind (wpAny_isInstance (T := "StopIteration") (b := true) ⟨_, Heap.get?_push_size _ rfl, rfl⟩ isSubtype_stop ?_)
  exact wpAny_pure (hQ _ (((Heap.SameBut.update ..).extBut.push _).push _))
end
variable {W : Wd} {n : Nat} {cx : Cx} {ρ : Loc} {H : AH}
theorem kb_of {J : Addr} {s : Shared} {h' : Heap} {tk : Nat} (k : ∀ b o, b ∉ [J] → s.heap.get? b = some o → h'.get? b = some o) : KB [J] s { s with heap := h', toks := tk } := ⟨k, _, _, rfl⟩
theorem kb_refl {fp : List Addr} {s : Shared} : KB fp s s := ⟨fun _ _ _ e => e, _, _, rfl⟩
theorem listiter_nt {h : Heap} {J a : Addr} {i : Nat} (x : h.IsListIter J a i) : ∀ b ∈ [J], ∃ o, h.get? b = some o ∧ ¬ isTup o := fun b hb => by
  rw [List.mem_singleton.mp hb]
  obtain ⟨o, e, hc, _⟩ := x
  exact ⟨o, e, fun ht => isTup.no hc ht (by simp) (by simp)⟩
theorem tupiter_nt {h : Heap} {J a : Addr} {i : Nat} (x : h.IsTupleIter J a i) : ∀ b ∈ [J], ∃ o, h.get? b = some o ∧ ¬ isTup o := fun b hb => by
  rw [List.mem_singleton.mp hb]
  obtain ⟨o, e, hc, _⟩ := x
  exact ⟨o, e, fun ht => isTup.no hc ht (by simp) (by simp)⟩
theorem keyiter_nt {h : Heap} {J a : Addr} {i m ep : Nat} (x : h.IsKeyIter J a i m ep) : ∀ b ∈ [J], ∃ o, h.get? b = some o ∧ ¬ isTup o := fun b hb => by
  rw [List.mem_singleton.mp hb]
  obtain ⟨o, e, hc, _⟩ := x
  exact ⟨o, e, fun ht => isTup.no hc ht (by simp) (by simp)⟩
theorem nt_of {h : Heap} {fp : List Addr} (x : ∀ b ∈ fp, ∃ o, h.get? b = some o ∧ ¬ isTup o) : ∀ b ∈ fp, ∀ o, h.get? b = some o → ¬ isTup o := fun b hb o e => by
  obtain ⟨o', e', q⟩ := x b hb
  rw [e] at e'; cases e'; exact q
theorem tk_of {s : Shared} {h' : Heap} {fp : List Addr} (k : ∀ b o, b ∉ fp → s.heap.get? b = some o → h'.get? b = some o) (x : ∀ b ∈ fp, ∃ o, s.heap.get? b = some o ∧ ¬ isTup o) : TupKeep s.heap h' := fun a o e ht =>
  k a o (fun q => nt_of x a q o e ht) e
theorem iter_list {x : Expr} {J a : Addr} {l : List V} : Iter W n x (.ref J) l (fun H => H a = some (.list l)) [J] (fun i h => h.IsListIter J a i) where
  ex := fun i h hI => listiter_nt hI
  keep := fun i h h' hI tk k => let ⟨o, e, r⟩ := hI; ⟨o, k J (by simp) o e, r⟩
  next := fun i v H s A X Q hA R hW hf hv hI hQ => by
    obtain ⟨its, m, e, r, hsz⟩ := (R.objs _ _ hW).list_at
    have hne : a ≠ J := by rintro rfl; rw [hf a (by simp)] at hW; cases hW
    obtain ⟨y, hy, ry⟩ := r.get hv
    have hy' : its[i]? = some y := by rw [← Array.getElem?_toList]; exact hy
    have hi : i < its.size := ga_lt hy'
    refine (Walks.list hA.h J a hne its).item i s Q X hi ⟨hI, isList_of e⟩ fun z h' tk hz st' k => ?_
    rw [hy'] at hz; cases hz
    refine hQ y _ (ry.keep (tk_of k (listiter_nt hI))) (kb_of k) (nt_of (listiter_nt st'.1)) fun X' Q' hq => ?_
    exact letGo_listiter (s' := { s with heap := h', toks := tk }) st'.1 (hq _ kb_refl st'.1)
  self := fun i H s A X Q hA R hW hf hI hQ => wpAny_pyIter_listiter hI hQ
  done := fun H s A X Q hA R hW hf hI hQ => by
    obtain ⟨its, m, e, r, hsz⟩ := (R.objs _ _ hW).list_at
    have hne : a ≠ J := by rintro rfl; rw [hf a (by simp)] at hW; cases hW
    exact (Walks.list hA.h J a hne its).done s Q X (by rw [hsz]; exact ⟨hI, isList_of e⟩) fun h' tk k => hQ _ (kb_of k)
theorem iter_tup {x : Expr} {J t : Addr} {its : Array Value} {l : List V} (hne : t ≠ J) : Iter W n x (.ref J) l (fun _ => True) [J] (fun i h => h.IsTupleIter J t i ∧ IsTup h t its ∧ VRs h l its.toList) where
  ex := fun i h hI => tupiter_nt hI.1
  keep := fun i h h' hI tk k => ⟨let ⟨o, e, r⟩ := hI.1; ⟨o, k J (by simp) o e, r⟩, let ⟨o, e1, e2, m, e3⟩ := hI.2.1; ⟨o, tk _ _ e1 ⟨.inl e2, .inl ⟨_, m, e3⟩⟩, e2, m, e3⟩, hI.2.2.keep tk⟩
  next := fun i v H s A X Q hA R hW hf hv hI hQ => by
    obtain ⟨hI, ht, r⟩ := hI
    obtain ⟨y, hy, ry⟩ := r.get hv
    have hy' : its[i]? = some y := by rw [← Array.getElem?_toList]; exact hy
    have hi : i < its.size := ga_lt hy'
    refine (Walks.tuple hA.h J t hne its).item i s Q X hi ⟨hI, ht⟩ fun z h' tk hz st' k => ?_
    rw [hy'] at hz; cases hz
    have tk := tk_of k (tupiter_nt hI)
    refine hQ y _ (ry.keep tk) (kb_of k) (nt_of (tupiter_nt st'.1)) fun X' Q' hq => ?_
    exact letGo_tupleiter (s' := { s with heap := h', toks := _ }) st'.1 (hq _ kb_refl ⟨st'.1, st'.2, r.keep tk⟩)
  self := fun i H s A X Q hA R hW hf hI hQ => wpAny_pyIter_tupleiter hI.1 hQ
  done := fun H s A X Q hA R hW hf hI hQ => by
    have hsz : its.size = l.length := by have := hI.2.2.length; rw [← Array.length_toList]; lia
    exact (Walks.tuple hA.h J t hne its).done s Q X (by rw [hsz]; exact ⟨hI.1, hI.2.1⟩) fun h' tk k => hQ _ (kb_of k)
theorem rangeiter_nt {h : Heap} {J : Addr} {x left step : Int} (y : IsRangeIter h J x left step) : ∀ b ∈ [J], ∃ o, h.get? b = some o ∧ ¬ isTup o := fun b hb => by
  rw [List.mem_singleton.mp hb]
  exact ⟨_, y, fun ht => absurd ht.1 (by simp)⟩
noncomputable def rangeV (a : Int) (m : Nat) : List V := (List.range m).map fun (i : Nat) => .int (a + (i : Int))
theorem letGo_range {A : Around} {E : Value → Shared → Prop} {target : Expr} {J : Addr} {x left step : Int} {v : Value} {Q' : Unit → Shared → Prop} {s' : Shared} (hit : IsRangeIter s'.heap J x left step) (h : Q' () s') :
    wpAny W.M A (letOwnedTupleGo target (.ref J) v) Q' E s' := by
  unfold letOwnedTupleGo
  cases target <;> first
    | exact wpAny_pure h
    | (cases v <;> first
        | exact wpAny_pure h
        | (refine wpAny_bind (wpAny_load hit ?_)
           exact wpAny_pure h))
theorem iter_range {x : Expr} {J : Addr} {a : Int} {m : Nat} : Iter W n x (.ref J) (rangeV a m) (fun _ => True) [J] (fun i h => IsRangeIter h J (a + (i : Nat) * 1) ((m : Int) - (i : Nat)) 1) where
  ex := fun i h hI => rangeiter_nt hI
  keep := fun i h h' hI tk k => k J (by simp) _ hI
  next := fun i v H s A X Q hA R hW hf hv hI hQ => by
    have hi : i < m := by
      rcases Nat.lt_or_ge i m with q | q
      · exact q
      · unfold rangeV at hv; rw [List.getElem?_eq_none (by simpa using q)] at hv; cases hv
    have ev : v = .int (a + i) := by
      unfold rangeV at hv; rw [List.getElem?_map, List.getElem?_range hi] at hv; cases hv; rfl
    refine (Walks.range hA.h J a 1 m).item i s Q X hi hI fun z h' tk hz st' k => ?_
    obtain ⟨t, rfl⟩ := hz
    refine hQ _ _ (by rw [ev, Int.mul_one]; exact .int _ t) (kb_of k) (nt_of (rangeiter_nt st')) fun X' Q' hq => ?_
    exact letGo_range (s' := { s with heap := h', toks := tk }) st' (hq _ kb_refl st')
  self := fun i H s A X Q hA R hW hf hI hQ => wpAny_pyIter_rangeiter hI hQ
  done := fun H s A X Q hA R hW hf hI hQ => by
    have : (rangeV a m).length = m := by simp [rangeV]
    rw [this] at hI
    exact (Walks.range hA.h J a 1 m).done s Q X hI fun h' tk k => hQ _ (kb_of k)
noncomputable def enumV (l : List V) : List V := l.mapIdx fun i v => .tup [.int (i : Int), v]
theorem enumiter_nt {h : Heap} {e it l : Addr} {i : Nat} {old : Value} {k : Int} (x : IsEnum h e it k old) (y : h.IsListIter it l i) : ∀ b ∈ [e, it], ∃ o, h.get? b = some o ∧ ¬ isTup o := fun b hb => by
  simp only [List.mem_cons, List.not_mem_nil, or_false] at hb
  rcases hb with rfl | rfl
  · exact ⟨_, x, fun ht => absurd ht.1 (by simp)⟩
  · obtain ⟨o, e, hc, _⟩ := y
    exact ⟨o, e, fun ht => isTup.no hc ht (by simp) (by simp)⟩
theorem enumout_nt {h : Heap} {e it l T : Addr} {i : Nat} {x : Value} {k : Int} (q : IsEnumOut h e it k x T) (y : h.IsListIter it l i) : ∀ b ∈ [e, it], ∃ o, h.get? b = some o ∧ ¬ isTup o := fun b hb => by
  simp only [List.mem_cons, List.not_mem_nil, or_false] at hb
  rcases hb with rfl | rfl
  · exact ⟨_, q, fun ht => absurd ht.1 (by simp)⟩
  · obtain ⟨o, e, hc, _⟩ := y
    exact ⟨o, e, fun ht => isTup.no hc ht (by simp) (by simp)⟩
theorem iter_enum {es : List Expr} {kk : Nat} {p : Pos} {J it a : Addr} {l : List V} (hJ : J ≠ it) : Iter W n (.Tuple es kk p) (.ref J) (enumV l) (fun H => H a = some (.list l)) [J, it] (fun i h => (∃ old, IsEnum h J it i old) ∧ h.IsListIter it a i) where
  ex := fun i h hI => let ⟨old, q⟩ := hI.1; enumiter_nt q hI.2
  keep := fun i h h' hI tk k => ⟨let ⟨old, q⟩ := hI.1; ⟨old, k J (by simp) _ q⟩, let ⟨o, e, r⟩ := hI.2; ⟨o, k it (by simp) o e, r⟩⟩
  next := fun i v H s A X Q hA R hW hf hv hI hQ => by
    obtain ⟨its, m, e, r, hsz⟩ := (R.objs _ _ hW).list_at
    have n1 : a ≠ J := by rintro rfl; rw [hf a (by simp)] at hW; cases hW
    have n2 : a ≠ it := by rintro rfl; rw [hf a (by simp)] at hW; cases hW
    unfold enumV at hv
    rw [List.getElem?_mapIdx] at hv
    obtain ⟨u, hu, rfl⟩ := Option.map_eq_some_iff.mp hv
    obtain ⟨y, hy, ry⟩ := r.get hu
    have hy' : its[i]? = some y := by rw [← Array.getElem?_toList]; exact hy
    have hi : i < its.size := ga_lt hy'
    have WT := WalksT.enumerate (prog := W.prog) (w := W.w) hA.h J it a hJ n1 n2 its
    have ex0 := let ⟨old, q⟩ := hI.1; enumiter_nt q hI.2
    refine WT.item i s Q X hi ⟨hI.1, hI.2, isList_of e⟩ fun T vals h' tk hP hT ht mid k => ?_
    obtain ⟨t, x, hx, rfl⟩ := hP
    rw [hy'] at hx; cases hx
    have tk1 := tk_of k ex0
    have mid' := mid
    obtain ⟨⟨x, q1⟩, q2, q3, q4, q5⟩ := mid
    refine hQ (.ref T) { s with heap := h', toks := tk } (.tup ht (.cons (.int _ t) (.one (ry.keep tk1)))) ⟨k, _, _, rfl⟩ (nt_of (enumout_nt q1 q2)) fun X' Q' hq => ?_
    refine WT.go es kk p i T { s with heap := h', toks := tk } Q' X' mid' fun h'' st k2 => ?_
    exact hq _ ⟨k2, _, _, rfl⟩ ⟨st.1, st.2.1⟩
  self := fun i H s A X Q hA R hW hf hI hQ => by
    obtain ⟨its, m, e, r, hsz⟩ := (R.objs _ _ hW).list_at
    have n1 : a ≠ J := by rintro rfl; rw [hf a (by simp)] at hW; cases hW
    have n2 : a ≠ it := by rintro rfl; rw [hf a (by simp)] at hW; cases hW
    exact (WalksT.enumerate (prog := W.prog) (w := W.w) hA.h J it a hJ n1 n2 its).self i s Q X ⟨hI.1, hI.2, isList_of e⟩ hQ
  done := fun H s A X Q hA R hW hf hI hQ => by
    obtain ⟨its, m, e, r, hsz⟩ := (R.objs _ _ hW).list_at
    have n1 : a ≠ J := by rintro rfl; rw [hf a (by simp)] at hW; cases hW
    have n2 : a ≠ it := by rintro rfl; rw [hf a (by simp)] at hW; cases hW
    have hl : (enumV l).length = its.size := by unfold enumV; rw [List.length_mapIdx, hsz]
    rw [hl] at hI
    exact (WalksT.enumerate (prog := W.prog) (w := W.w) hA.h J it a hJ n1 n2 its).done s Q X ⟨hI.1, hI.2, isList_of e⟩ fun h' tk k => hQ _ ⟨k, _, _, rfl⟩
theorem OR.tdict_raw {h : Heap} {a : Addr} {l : List (List Int × V)} {ep : Nat} (x : OR W h a (.tdict l (some ep))) : ∃ es, DRaw h a es ep ∧ VRs h (l.map fun y => tupI y.1) (es.toList.map (·.key)) := by
  obtain ⟨xs, ⟨o, es, ep', e, hx, hd, he, hk, _⟩, q1, q2, q3⟩ := x
  obtain ⟨ob, es', e', hd'⟩ := q3 ep rfl
  rw [e] at e'; cases e'
  rw [hd] at hd'; cases hd'
  refine ⟨es, ⟨o, e, hx.1, hd⟩, ?_⟩
  rw [he, List.map_map]
  have e1 : (l.map fun y => tupI y.1) = (xs.map (·.1)).map tupI := by rw [q1, List.map_map]; rfl
  rw [e1, List.map_map]
  have key : ∀ (ys : List (List Int × Addr × Value)), (∀ y ∈ ys, (tupleKind (intKind W.prog W.w)).is h y.1 y.2.1) → VRs h (ys.map (tupI ∘ fun x => x.1)) (ys.map ((fun x => x.key) ∘ entryOfKey (tupleKind (intKind W.prog W.w)))) := by
    intro ys
    induction ys with
    | nil => exact fun _ => .nil
    | cons y ys ih =>
      intro hk
      refine .cons ?_ (ih fun z hz => hk z (.tail _ hz))
      obtain ⟨ob, its, m, f1, f2, f3, f4⟩ := hk y (.head _)
      refine .tup ⟨ob, f1, f2, m, f3⟩ ?_
      clear ih hk
      have : ∀ {ks : List Int} {vs : List Value}, ItemsAre (intKind W.prog W.w) ks vs → VRs h (ks.map V.int) vs := by
        intro ks vs q
        induction q with
        | nil => exact .nil
        | @cons k v ks vs hk _ ih =>
          refine .cons ?_ ih
          cases v <;> simp [intKind, Value.isInt] at hk
          subst hk; exact .int _ _
      exact this f4
  exact key xs hk
theorem iter_dict {x : Expr} {J a : Addr} {l : List (List Int × V)} {ep : Nat} : Iter W n x (.ref J) (l.map fun y => tupI y.1) (fun H => H a = some (.tdict l (some ep))) [J] (fun i h => h.IsKeyIter J a i l.length ep) where
  ex := fun i h hI => keyiter_nt hI
  keep := fun i h h' hI tk k => let ⟨o, e, r⟩ := hI; ⟨o, k J (by simp) o e, r⟩
  next := fun i v H s A X Q hA R hW hf hv hI hQ => by
    obtain ⟨es, d, r⟩ := (R.objs _ _ hW).tdict_raw
    obtain ⟨y, hy, ry⟩ := r.get hv
    have hsz : es.size = l.length := by have := r.length; simp at this; lia
    rw [List.getElem?_map, Option.map_eq_some_iff] at hy
    obtain ⟨en, h1, rfl⟩ := hy
    have h1' : es[i]? = some en := by rw [← Array.getElem?_toList]; exact h1
    rw [← hsz] at hI
    refine pyNext_dictR_item hI d h1' fun h' st' sb => ?_
    have k : ∀ b o, b ∉ [J] → s.heap.get? b = some o → h'.get? b = some o := fun b o hb q => (sb.2 b (by simpa using hb)).trans q
    refine hQ en.key { s with heap := h' } (ry.keep (tk_of k (keyiter_nt hI))) ⟨k, _, s.toks, rfl⟩ (nt_of (keyiter_nt st')) fun X' Q' hq => ?_
    exact letGo_keyiter (s' := { s with heap := h' }) st' (hq _ kb_refl (by rw [← hsz]; exact st'))
  self := fun i H s A X Q hA R hW hf hI hQ => wpAny_pyIter_keyiter hI hQ
  done := fun H s A X Q hA R hW hf hI hQ => by
    obtain ⟨es, d, r⟩ := (R.objs _ _ hW).tdict_raw
    have hsz : es.size = l.length := by have := r.length; simp at this; lia
    rw [← hsz, List.length_map, ← hsz] at hI
    refine pyNext_dictR_end hA.h hI d (by simp) fun h' eb => hQ { s with heap := h' } ⟨fun b o hb q => eb b o (by simpa using hb) q, _, s.toks, rfl⟩
end
section
noncomputable def okTarget : It → Expr → Prop
  | .enum _, x => ∃ es k p, x = .Tuple es k p
  | _, _ => True
noncomputable def WI (W : Wd) (n : Nat) (cx : Cx) (it : It) (ρ : Loc) (H : AH) (P : List V → (AH → Prop) → AH → Prop) : Prop :=
  ∀ (x : Expr), sameIt W.gt W.attr cx it x = true → ∀ (target : Expr), okTarget it target → ∀ (env : Env) (s : Shared) (A : Around) (X : Value → Shared → Prop) (Q : Value → Shared → Prop), Rel W H s.heap → Frm W cx env ρ H s.heap → AOk n A →
    (∀ vals Wt H' itv fp I s', P vals Wt H' → Step W H s H' s' → Iter W n target itv vals Wt fp I → I 0 s'.heap → (∀ b ∈ fp, H' b = none) → (∀ b ∈ fp, H b = none → s.heap.get? b = none) → (∀ b ∈ fp, W.base.get? b = none) → Q itv s') →
    wpAny W.M A (eval x env) (fun v s1 => wpAny W.M A (pyIter v) Q X s1) X s
variable {W : Wd} {n : Nat} {cx : Cx} {ρ : Loc} {H : AH}
theorem Step.new_free {H' : AH} {s s' : Shared} (c : Step W H s H' s') {b : Addr} (hb : s'.heap.objs.size ≤ b) (h : H b = none) : s.heap.get? b = none := by
  cases q : s.heap.get? b with
  | none => rfl
  | some o => have := (c.ext b o q h).1; rw [get_none_of_le hb] at this; cases this
theorem Step.push {s : Shared} (R : Rel W H s.heap) (o : Obj) : Step W H s H { s with heap := s.heap.push o } := Step.grow (tk := s.toks) R fun b _ e => Heap.get?_push_of_some _ e
theorem wi_list {e : E} {P : List V → (AH → Prop) → AH → Prop} (h : WE W n cx e ρ H fun v H1 => ∃ a l, v = .ref a ∧ H1 a = some (.list l) ∧ P l (fun H => H a = some (.list l)) H1) : WI W n cx (.plain e) ρ H P := by
  intro x hx target _ env s A X Q R F hA hQ
  refine an (h x (an2 hx).1 env s A X R F hA) fun y s1 v H1 a1 w3s1 c1 => ?_
  obtain ⟨a, l, e, q1, q2⟩ := w3s1
  subst e
  cases vr_ref a1
  obtain ⟨its, m, e, r, hsz⟩ := (c1.rel.objs _ _ q1).list_at
  have c2 := Step.push c1.rel { cls := .type "list_iterator", data := .fields #[.ref a, .int 0 0] }
  refine wpAny_pyIter_list (isList_of e) (hQ _ _ _ _ _ _ _ q2 (c1.trans c2) iter_list ⟨_, Heap.get?_push_size _ rfl, rfl, rfl⟩ (fun b hb => ?_) (fun b hb h => ?_) fun b hb => ?_) <;> rw [List.mem_singleton.mp hb] at *
  · exact c1.rel.fresh (Nat.le_refl _)
  · exact c1.new_free (Nat.le_refl _) h
  · exact c1.rel.new_none (Nat.le_refl _)
theorem wi_tup {e : E} {P : List V → (AH → Prop) → AH → Prop} (h : WE W n cx e ρ H fun v H1 => ∃ l, v = .tup l ∧ P l (fun _ => True) H1) : WI W n cx (.plain e) ρ H P := by
  intro x hx target _ env s A X Q R F hA hQ
  refine an (h x (an2 hx).1 env s A X R F hA) fun y s1 v H1 a1 w3s1 c1 => ?_
  obtain ⟨l, e, q2⟩ := w3s1
  subst e
  obtain ⟨t, its, rfl, ht, r⟩ := vr_tup a1
  have c2 := Step.push c1.rel { cls := .type "tuple_iterator", data := .fields #[.ref t, .int 0 0] }
  have hne : t ≠ s1.heap.objs.size := by obtain ⟨o, e, _⟩ := ht; exact Nat.ne_of_lt (Heap.lt_size e)
  refine wpAny_pyIter_tuple ht (hQ _ _ _ _ _ _ _ q2 (c1.trans c2) (iter_tup hne) ⟨⟨_, Heap.get?_push_size _ rfl, rfl, rfl⟩, ht.push _, c2.vrs c1.rel r⟩ (fun b hb => ?_) (fun b hb h => ?_) fun b hb => ?_) <;> rw [List.mem_singleton.mp hb] at *
  · exact c1.rel.fresh (Nat.le_refl _)
  · exact c1.new_free (Nat.le_refl _) h
  · exact c1.rel.new_none (Nat.le_refl _)
theorem OR.tdict_ep {h : Heap} {a : Addr} {l : List (List Int × V)} {ep : Option Nat} (x : OR W h a (.tdict l ep)) : ∃ n, OR W h a (.tdict l (some n)) := by
  obtain ⟨xs, d, q1, q2, q3⟩ := x
  obtain ⟨o, es, n, e, hx, hd, r⟩ := id d
  exact ⟨n, xs, d, q1, q2, fun m hm => by cases hm; exact ⟨o, es, e, hd⟩⟩
theorem wi_dict {e : E} {P : List V → (AH → Prop) → AH → Prop} (h : WE W n cx e ρ H fun v H1 => ∃ a l en, v = .ref a ∧ H1 a = some (.tdict l en) ∧ ∀ ep, P (l.map fun y => tupI y.1) (fun H => H a = some (.tdict l (some ep))) (upd H1 a (.tdict l (some ep)))) : WI W n cx (.plain e) ρ H P := by
  intro x hx target _ env s A X Q R F hA hQ
  refine an (h x (an2 hx).1 env s A X R F hA) fun y s1 v H1 a1 w3s1 c1 => ?_
  obtain ⟨a, l, en, e, q1, q2⟩ := w3s1
  subst e
  cases vr_ref a1
  obtain ⟨ep, x1⟩ := (c1.rel.objs _ _ q1).tdict_ep
  obtain ⟨es, d, r⟩ := x1.tdict_raw
  have hsz : es.size = l.length := by have := r.length; simp at this; lia
  have cs : Step W H1 s1 (upd H1 a (.tdict l (some ep))) s1 := Step.store (s := s1) (tk := s1.toks) c1.rel q1 (fun _ _ _ e => e) x1
  have c12 := c1.trans cs
  have c2 := Step.push c12.rel { cls := .type "dict_keyiterator", data := .fields #[.ref a, .int 0 0, .int es.size 0, .int ep 0] }
  refine pyIter_dictR (c1.rel.sys q1) d (hQ _ _ _ _ _ _ _ (q2 ep) (c12.trans c2) iter_dict ⟨_, Heap.get?_push_size _ rfl, rfl, by simp [hsz]⟩ (fun b hb => ?_) (fun b hb h => ?_) fun b hb => ?_) <;> rw [List.mem_singleton.mp hb] at *
  · exact c12.rel.fresh (Nat.le_refl _)
  · exact c12.new_free (Nat.le_refl _) h
  · exact c12.rel.new_none (Nat.le_refl _)
theorem eval_call' {x : Str} {np pos : Pos} {args : List Expr} {env : Env} {f : Value} {es : Es} {P : List V → AH → Prop} {Q : Value → Shared → Prop} (hk : cx.kinds.lookup x = some .globalImplicit) (hd : (x == ("__debug__" : Str)) = false)
    (hv : W.mg x = some f ∨ (W.mg x = none ∧ W.mb x = some f)) (hkp : Keeps' W f) (h : WEs W n cx es ρ H P)
    (h1 : sameEs W.gt W.attr cx es args = true) (h2 : starFree args = true) {s : Shared} {A : Around} {X : Value → Shared → Prop} (R : Rel W H s.heap) (F : Frm W cx env ρ H s.heap) (hA : AOk n A)
    (hc : ∀ vs ys H1 s1, VRs s1.heap vs ys → P vs H1 → Step W H s H1 s1 → wpAny W.M A (PySem.call f ys) Q X s1) :
    wpAny W.M A (eval (.Call (.Name x np) args [] pos) env) Q X s := by
  refine Call_Name rfl (eval_glob R F hk hd hv ?_)
  refine callWith_of (P := fun h => W.K.In h) (by rw [star_plain h2]; rfl) hkp ?_
  refine wpAny_mono (args_go h h1 h2 R F hA) (fun a s1 ⟨vs, ys, H1, e, r, q, c⟩ => ?_) fun _ _ z => z
  subst e
  exact ⟨in_base c.rel, hc vs ys H1 s1 r q c⟩
theorem wes_one {e : E} {P : V → AH → Prop} (h : WE W n cx e ρ H P) : WEs W n cx (.cons e .nil) ρ H fun vs H' => ∃ v, vs = [v] ∧ P v H' :=
  wes_cons (h.mono fun v H' q => wes_nil ⟨v, rfl, q⟩)
theorem same_one {e : E} {x : Expr} (h : sameE W.gt W.attr cx e x = true) : sameEs W.gt W.attr cx (.cons e .nil) [x] = true := by
  show (sameE W.gt W.attr cx e x && true) = true; rw [h]; rfl
theorem same_two {e e' : E} {x x' : Expr} (h : sameE W.gt W.attr cx e x = true) (h' : sameE W.gt W.attr cx e' x' = true) : sameEs W.gt W.attr cx (.cons e (.cons e' .nil)) [x, x'] = true := by
  show (sameE W.gt W.attr cx e x && sameEs W.gt W.attr cx (.cons e' .nil) [x']) = true; rw [h]; exact same_one h'
theorem range_go {r : Addr} {a b : Int} {m : Nat} {t u v : Tok} {target : Expr} {H1 : AH} {s s1 : Shared} {A : Around} {X Q : Value → Shared → Prop} {P : List V → (AH → Prop) → AH → Prop} (c1 : Step W H s H1 s1) (hA : AOk n A) (hr : IsRange s1.heap r a b 1 t u v) (hm : b - a = m ∨ (m = 0 ∧ b ≤ a)) (ha : -(2 ^ 62) ≤ a ∧ a < 2 ^ 62) (hb : -(2 ^ 62) ≤ b ∧ b < 2 ^ 62)
    (hP : P (rangeV a m) (fun _ => True) H1)
    (hQ : ∀ vals Wt H' itv fp I s', P vals Wt H' → Step W H s H' s' → Iter W n target itv vals Wt fp I → I 0 s'.heap → (∀ b ∈ fp, H' b = none) → (∀ b ∈ fp, H b = none → s.heap.get? b = none) → (∀ b ∈ fp, W.base.get? b = none) → Q itv s') :
    wpAny W.M A (pyIter (.ref r)) Q X s1 := by
  have hs : Builtin.Range.rangeSize a b 1 = (m : Int) := by rw [rangeSize_one]; split <;> lia
  refine wpAny_pyIter_range hr (small_one ha.1 ha.2 hb.1 hb.2) ?_
  rw [hs]
  have c2 := Step.push c1.rel { cls := .type "range_iterator", data := .fields #[rawInt a, rawInt (m : Int), rawInt 1] }
  refine hQ _ _ _ _ _ _ _ hP (c1.trans c2) iter_range ?_ (fun b hb => ?_) (fun b hb h => ?_) fun b hb => ?_
  · have := Heap.get?_push_size s1.heap (o := { cls := .type "range_iterator", data := .fields #[rawInt a, rawInt (m : Int), rawInt 1] }) rfl
    show IsRangeIter _ _ (a + ((0 : Nat) : Int) * 1) ((m : Int) - ((0 : Nat) : Int)) 1
    exact (Int.add_zero a).symm ▸ (Int.sub_zero (m : Int)).symm ▸ this
  all_goals rw [List.mem_singleton.mp hb] at *
  · exact c1.rel.fresh (Nat.le_refl _)
  · exact c1.new_free (Nat.le_refl _) h
  · exact c1.rel.new_none (Nat.le_refl _)
theorem wi_range2 {e e' : E} {P : List V → (AH → Prop) → AH → Prop} (h : WE W n cx e ρ H fun v H1 => WE W n cx e' ρ H1 fun v' H2 => ∃ (a b : Int) (m : Nat), v = .int a ∧ v' = .int b ∧ (b - a = m ∨ (m = 0 ∧ b ≤ a)) ∧ a.natAbs ≤ 1000000000 ∧ b.natAbs ≤ 1000000000 ∧ P (rangeV a m) (fun _ => True) H2) : WI W n cx (.range2 e e') ρ H P := by
  intro x hx target _ env s A X Q R F hA hQ
  apply i_two hx
  intro f p u v q h1 h2 h3 h4 h5 h6
  refine eval_call' (cx := cx) (P := fun vs H' => ∃ v v', vs = [v, v'] ∧ ∃ (a b : Int) (m : Nat), v = .int a ∧ v' = .int b ∧ (b - a = m ∨ (m = 0 ∧ b ≤ a)) ∧ a.natAbs ≤ 1000000000 ∧ b.natAbs ≤ 1000000000 ∧ P (rangeV a m) (fun _ => True) H') h2 h1 (.inr (W.gok _ _ h3)) keeps_typ
    (wes_cons (h.mono fun v H' q => wes_cons (q.mono fun v' H'' q' => wes_nil ⟨v, v', rfl, q'⟩))) (same_two h5 h6) h4 R F hA fun vs ys H1 s1 r ⟨v, v', e1, a, b, m, e2, e3, hm, ha, hb, q⟩ c1 => ?_
  subst e1 e2 e3
  obtain ⟨y, z, rfl, ry, rz⟩ := r.two_inv
  obtain ⟨t, rfl⟩ := vr_int ry
  obtain ⟨u, rfl⟩ := vr_int rz
  refine call_range_2 ?_
  have c2 : Step W H1 s1 H1 { s1 with heap := s1.heap.push { cls := .type "range", data := .fields #[.int a t, .int b u, .int 1 s1.toks] }, toks := s1.toks + 1 } := Step.grow c1.rel fun b _ e => Heap.get?_push_of_some _ e
  exact range_go (c1.trans c2) hA (Heap.get?_push_size _ rfl) (m := m) hm (nrng ha) (nrng hb) q hQ
theorem wi_enum {e : E} {P : List V → (AH → Prop) → AH → Prop} (h : WE W n cx e ρ H fun v H1 => ∃ a l, v = .ref a ∧ H1 a = some (.list l) ∧ P (enumV l) (fun H => H a = some (.list l)) H1) : WI W n cx (.enum e) ρ H P := by
  intro x hx target ht env s A X Q R F hA hQ
  obtain ⟨tes, tk, tp, rfl⟩ := ht
  apply i_one hx
  intro f p u q h1 h2 h3 h4 h5
  refine eval_call' (cx := cx) h2 h1 (.inr (W.gok _ _ h3)) keeps_typ (wes_one h) (same_one h5) h4 R F hA fun vs ys H1 s1 r ⟨v, e1, a, l, e2, q1, q2⟩ c1 => ?_
  subst e1 e2
  obtain ⟨y, rfl, ry⟩ := r.one_inv
  cases vr_ref ry
  obtain ⟨its, m, e, r, hsz⟩ := (c1.rel.objs _ _ q1).list_at
  refine call_enumerate_list (isList_of e) fun h' he hl hz k => ?_
  have c2 := Step.kept c1.rel s1.toks k
  have n1 : a < s1.heap.objs.size := Heap.lt_size e
  refine (WalksT.enumerate (prog := W.prog) (w := W.w) hA.h (s1.heap.objs.size + 1) s1.heap.objs.size a (Nat.succ_ne_self _) (Nat.ne_of_lt (Nat.lt_succ_of_lt n1)) (Nat.ne_of_lt n1) its).self 0 { s1 with heap := h' } Q X ⟨⟨_, he⟩, hl, (isList_of e).at (k _)⟩ ?_
  refine hQ _ _ _ _ _ _ _ q2 (c1.trans c2) (iter_enum (a := a) (Nat.succ_ne_self _)) ⟨⟨_, he⟩, hl⟩ (fun b hb => ?_) (fun b hb h => ?_) fun b hb => ?_
  all_goals
    simp only [List.mem_cons, List.not_mem_nil, or_false] at hb
    have hb' : s1.heap.objs.size ≤ b := by rcases hb with rfl | rfl <;> lia
  · exact c1.rel.fresh hb'
  · exact c1.new_free hb' h
  · exact c1.rel.new_none hb'
theorem folded_none {x : Expr} (h : notSet x = true) (env : Env) : ∀ y, foldedSetIterable x env y = pure y := by
  intro y
  cases x <;> first | rfl | cases h
theorem sameIt_notSet {it : It} {x : Expr} (h : sameIt W.gt W.attr cx it x = true) : notSet x = true := by
  cases it with
  | plain e => exact (an2 h).2
  | range1 a => apply i_one h; intros; rfl
  | range2 a b => apply i_two h; intros; rfl
  | enum a => apply i_one h; intros; rfl
noncomputable def okT : It → T → Bool
  | .enum _, .tup _ => true
  | .enum _, _ => false
  | _, _ => true
theorem okT_target {it : It} {t : T} {x : Expr} (h : okT it t = true) (hx : sameT W.gt W.attr cx t x = true) : okTarget it x := by
  cases it with
  | enum e =>
    cases t with
    | tup ts => apply t_tup hx; intros; exact ⟨_, _, _, rfl⟩
    | _ => cases h
  | _ => trivial
theorem ws_for {t : T} {it : It} {b : Ss} {Q : AF → Loc → AH → Prop} (ht : okT it t = true) (h : WI W n cx it ρ H fun vals Wt H1 => ∃ Inv, FB W n cx t b Q vals Wt ρ H1 Inv) : WS W n cx (.for t it b) ρ H Q := by
  intro x hx env s A X R F hA
  apply c_for hx
  intro tx ix bx p h1 h2 h3
  refine wpAny_For ?_ (folded_none (sameIt_notSet h2) env)
  refine h ix h2 tx (okT_target ht h1) env s A X _ R F hA fun vals Wt H1 itv fp I s1 ⟨Inv, B⟩ c1 IT hI f1 f2 f3 => ?_
  exact for_core IT h1 h3 B F hA f2 f3 hI c1.rel (c1.frm R F) (SF.of_step c1) f1
end
section
variable {W : Wd} {n : Nat} {cx : Cx} {ρ : Loc} {H : AH}
section
variable {prog : Program} {w : World} {A : Around} {E : Value → Shared → Prop} {s : Shared}
theorem comp_loop {elt target iter : PySem.Expr} {ifs : List PySem.Expr} {scope : Scope} {pos : Pos} {it acc : Value} {env : Env} {R : Result → Shared → Prop} (I : Nat → Shared → Prop)
    (turn : ∀ n s, I n s → wpAny (model prog w) A (pyNext it) (fun r s₁ => match r with
      | none => R (.ok .next) s₁
      | some v => wpAny (model prog w) A (letOwnedTupleGo target it v) (fun _ s₀ => wpAny (model prog w) A (assign target env v) (fun _ s₂ =>
          wpAny (model prog w) A (forIn ifs true fun c r => if r = true then do let ok ← isTrue c env (eval c env); pure (ForInStep.yield ok) else pure (ForInStep.yield r)) (fun ok s₃ => if ok = true then wpAny (model prog w) A (eval elt env) (fun x s₄ =>
            wpAny (model prog w) A (call (.builtin "list.append") [acc, x]) (fun _ s₅ => ∃ m, m < n ∧ I m s₅) (notedBy (model prog w) A env fun e s' => R (.error e) s') s₄) (notedBy (model prog w) A env fun e s' => R (.error e) s') s₃
            else ∃ m, m < n ∧ I m s₃) (notedBy (model prog w) A env fun e s' => R (.error e) s') s₂)
          (notedBy (model prog w) A env fun e s' => R (.error e) s') s₀) (notedBy (model prog w) A env fun e s' => R (.error e) s') s₁) (notedBy (model prog w) A env fun e s' => R (.error e) s') s)
    (n : Nat) (h : I n s) : codeAny (model prog w) A (.compLoop (.ListComp elt [⟨target, iter, ifs, 0⟩] scope pos) 0 it acc env) R s := by
  refine codeAny_loop rfl I (fun n s hI => ?_) n h
  show wpAny _ A ((compTurn (.ListComp elt [⟨target, iter, ifs, 0⟩] scope pos) 0 it acc env).onRaise (fun x => do noteFrame x env; theTreesLotGoes x)) _ _ s
  refine wpAny_noted ?_
  rw [compTurn_list]
  refine wpAny_bind (wpAny_standAt (wpAny_bind (wpAny_mono (turn n s hI) (fun r s₁ h₁ => ?_) fun _ _ h' => h')))
  cases r with
  | none => exact wpAny_pure h₁
  | some v =>
    refine wpAny_bind (wpAny_mono h₁ (fun _ s₀ h₀' => ?_) fun _ _ h' => h')
    refine wpAny_bind (wpAny_mono h₀' (fun _ s₂ h₂ => ?_) fun _ _ h' => h')
    refine wpAny_bind (wpAny_mono h₂ (fun okb s₃ h₃ => ?_) fun _ _ h' => h')
    cases okb with
    | false => exact wpAny_pure ⟨rfl, h₃⟩
    | true => exact wpAny_bind (wpAny_bind (wpAny_mono h₃ (fun x s₄ h₄ => wpAny_bind (wpAny_mono h₄ (fun _ s₅ h₅ => wpAny_pure (wpAny_pure ⟨rfl, h₅⟩)) fun _ _ h' => h')) fun _ _ h' => h'))
end
mutual
noncomputable def bindT : T → V → Loc → Option Loc
  | .slot i, v, ρ => some (ρ.set i (some v))
  | .tup ts, v, ρ => match v with
    | .tup l => bindTs ts l ρ
    | _ => none
  | _, _, _ => none
noncomputable def bindTs : Ts → List V → Loc → Option Loc
  | .nil, [], ρ => some ρ
  | .cons t ts, v :: l, ρ => (bindT t v ρ).bind fun ρ' => bindTs ts l ρ'
  | _, _, _ => none
end
mutual
noncomputable def tslots : T → List Nat
  | .slot i => [i]
  | .tup ts => tsslots ts
  | _ => []
noncomputable def tsslots : Ts → List Nat
  | .nil => []
  | .cons t ts => tslots t ++ tsslots ts
end
noncomputable def Le (ρ ρ' : Loc) : Prop := ∀ (i : Nat) (v : V), ρ[i]? = some (some v) → ρ'[i]? = some (some v)
theorem Frm.less {env : Env} {h : Heap} {ρ' : Loc} (F : Frm W cx env ρ' H h) (l : Le ρ ρ') : Frm W cx env ρ H h := by
  obtain ⟨m, hm, hl2⟩ := F.loc
  refine ⟨F.kinds, F.fn, F.gl, F.bl, ⟨m, hm, fun x i v h1 h2 h3 => hl2 x i v h1 h2 (l _ _ h3)⟩, F.locH, F.locB, fun x i h1 h2 => ?_, F.apart, F.inj, F.code⟩
  obtain ⟨c, ov, c1, c2, c3, c4, c5, c7⟩ := F.cell x i h1 h2
  exact ⟨c, ov, c1, c2, c3, c4, c5, fun v hv => c7 v (l _ _ hv)⟩
theorem no_some {α : Type} {x : α} {P : Prop} (h : (none : Option α) = some x) : P := nomatch h
mutual
theorem bindT_same : ∀ (t : T) {v : V} {ρ ρ' : Loc}, bindT t v ρ = some ρ' → ∀ i, i ∉ tslots t → ρ'[i]? = ρ[i]?
  | .slot j, v, ρ, ρ', h, i, hi => by
    cases Option.some.inj h
    exact List.getElem?_set_ne fun q => hi (by subst q; exact List.Mem.head _)
  | .tup ts, v, ρ, ρ', h, i, hi => by
    cases v with
    | tup l => exact bindTs_same ts h i hi
    | _ => exact no_some h
  | .attr .., _, _, _, h, _, _ => no_some h
  | .idx .., _, _, _, h, _, _ => no_some h
theorem bindTs_same : ∀ (ts : Ts) {l : List V} {ρ ρ' : Loc}, bindTs ts l ρ = some ρ' → ∀ i, i ∉ tsslots ts → ρ'[i]? = ρ[i]?
  | .nil, l, _, _, h, _, _ => by
    cases l with
    | nil => cases Option.some.inj h; rfl
    | cons _ _ => exact no_some h
  | .cons t ts, l, ρ, ρ', h, i, hi => by
    cases l with
    | nil => exact no_some h
    | cons v l =>
      obtain ⟨ρ1, h1, h2⟩ := Option.bind_eq_some_iff.mp h
      rw [bindTs_same ts h2 i fun q => hi (List.mem_append_right _ q), bindT_same t h1 i fun q => hi (List.mem_append_left _ q)]
end
theorem bindT_le {t : T} {v : V} {ρ' : Loc} (h : bindT t v ρ = some ρ') (hf : ∀ i ∈ tslots t, ρ[i]? = some none) : Le ρ ρ' := fun i u hu => by
  by_cases q : i ∈ tslots t
  · rw [hf i q] at hu; cases hu
  · rw [bindT_same t h i q]; exact hu
theorem bindTs_len : ∀ (ts : Ts) {l : List V} {ρ ρ' : Loc}, bindTs ts l ρ = some ρ' → ts.len = l.length
  | .nil, l, _, _, h => by
    cases l with
    | nil => rfl
    | cons _ _ => exact no_some h
  | .cons t ts, l, _, _, h => by
    cases l with
    | nil => exact no_some h
    | cons v l =>
      obtain ⟨ρ1, _, h2⟩ := Option.bind_eq_some_iff.mp h
      exact congrArg (· + 1) (bindTs_len ts h2)
mutual
theorem wg_bind : ∀ (t : T) {v : V} {ρ ρ' : Loc}, bindT t v ρ = some ρ' → WG W n cx t v ρ H fun ρ1 H1 => ρ1 = ρ' ∧ H1 = H
  | .slot i, v, ρ, ρ', h => by cases Option.some.inj h; exact wg_slot ⟨rfl, rfl⟩
  | .tup ts, v, ρ, ρ', h => by
    cases v with
    | tup l => exact wg_tup (bindTs_len ts h) (wgs_bind ts h)
    | _ => exact no_some h
  | .attr .., _, _, _, h => no_some h
  | .idx .., _, _, _, h => no_some h
theorem wgs_bind : ∀ (ts : Ts) {l : List V} {ρ ρ' : Loc}, bindTs ts l ρ = some ρ' → WGs W n cx ts l ρ H fun ρ1 H1 => ρ1 = ρ' ∧ H1 = H
  | .nil, l, _, _, h => by
    cases l with
    | nil => cases Option.some.inj h; exact wgs_nil ⟨rfl, rfl⟩
    | cons _ _ => exact no_some h
  | .cons t ts, l, ρ, ρ', h => by
    cases l with
    | nil => exact no_some h
    | cons v l =>
      obtain ⟨ρ1, h1, h2⟩ := Option.bind_eq_some_iff.mp h
      refine wgs_cons fun x hx env s A X y R F hA r => anW (wg_bind t h1 x hx env s A X y R F hA r) fun _ s1 ρ2 H2 e R2 F2 c2 => ⟨ρ2, H2, ?_, R2, F2, c2⟩
      rw [e.1, e.2]
      exact wgs_bind ts h2
end
noncomputable def WCond (W : Wd) (n : Nat) (cx : Cx) : Es → Loc → AH → (Bool → AH → Prop) → Prop
  | .nil, _, H, Q => Q true H
  | .cons c .nil, ρ, H, Q => WT W n cx c ρ H Q
  | _, _, _, _ => False
structure CB (W : Wd) (n : Nat) (cx : Cx) (own : List Nat) (elt : E) (t : T) (conds : Es) (Q : V → AH → Prop) (ρ : Loc) (vals : List V) (Wt : AH → Prop) (H : AH) (Inv : Nat → List V → AH → Prop) : Prop where
  len : vals.length ≤ 1000
  zero : Inv 0 [] H
  wt : ∀ i out H, Inv i out H → Wt H
  step : ∀ i v out H, vals[i]? = some v → Inv i out H → ∃ ρ1, bindT t v ρ = some ρ1 ∧ WCond W n cx conds ρ1 H fun ok H2 => (ok = true → WE W n cx elt ρ1 H2 fun y H3 => Inv (i + 1) (out ++ [y]) H3) ∧ (ok = false → Inv (i + 1) out H2)
  fin : ∀ out H, Inv vals.length out H → ∀ D, H D = none → Q (.ref D) (upd H D (.list out))
noncomputable def closeOf (env : Env) : List (Str × NameKind) → List (Str × Addr) → List (Str × Addr)
  | [], acc => acc
  | (x, k) :: r, acc => closeOf env r (if k == .free then (x, (env.cells.lookup x).getD 0) :: acc else acc)
theorem closure_go (env : Env) (f : Str × NameKind → List (Str × Addr) → Sem (ForInStep (List (Str × Addr)))) (hf : ∀ x k cs, f (x, k) cs = if k == .free then (do let c ← cellOf env x; pure (.yield ((x, c) :: cs))) else pure (.yield cs)) :
    ∀ (names : List (Str × NameKind)) (acc : List (Str × Addr)), (∀ x, (x, NameKind.free) ∈ names → ∃ c, env.cells.lookup x = some c) → forIn names acc f = pure (closeOf env names acc)
  | [], acc, _ => by rw [List.forIn_nil]; rfl
  | (x, k) :: r, acc, h => by
    rw [List.forIn_cons, hf]
    have ih := closure_go env f hf r
    unfold closeOf
    by_cases hk : (k == NameKind.free) = true
    · rw [if_pos hk, if_pos hk]
      obtain ⟨c, hc⟩ := h x (by rw [beq_iff_eq.mp hk]; exact .head _)
      unfold cellOf
      rw [hc]
      show forIn r ((x, c) :: acc) f = _
      rw [ih _ fun y hy => h y (.tail _ hy)]
      rfl
    · rw [if_neg hk, if_neg hk]
      show forIn r acc f = _
      exact ih _ fun y hy => h y (.tail _ hy)
theorem closure_of {scope : Scope} {env : Env} (h : ∀ x, (x, NameKind.free) ∈ scope.names → ∃ c, env.cells.lookup x = some c) : closureFor scope env = pure (closeOf env scope.names []) := by
  unfold closureFor
  show (forIn scope.names [] _ >>= fun cs => pure cs) = _
  rw [closure_go env _ (fun x k cs => ?_) scope.names [] h]
  · rfl
  · rfl
theorem closeOf_mem (env : Env) : ∀ (names : List (Str × NameKind)) (acc : List (Str × Addr)) (p : Str × Addr), p ∈ closeOf env names acc ↔ p ∈ acc ∨ ((p.1, NameKind.free) ∈ names ∧ p.2 = (env.cells.lookup p.1).getD 0)
  | [], acc, p => by unfold closeOf; simp
  | (x, k) :: r, acc, p => by
    unfold closeOf
    rw [closeOf_mem env r]
    by_cases hk : (k == NameKind.free) = true
    · rw [if_pos hk]
      have := beq_iff_eq.mp hk; subst this
      simp only [List.mem_cons, Prod.mk.injEq, and_true]
      constructor
      · rintro ((rfl | h) | ⟨h1, h2⟩)
        · exact .inr ⟨.inl rfl, rfl⟩
        · exact .inl h
        · exact .inr ⟨.inr h1, h2⟩
      · rintro (h | ⟨rfl | h1, h2⟩)
        · exact .inl (.inr h)
        · exact .inl (.inl (Prod.ext rfl h2))
        · exact .inr ⟨h1, h2⟩
    · rw [if_neg hk]
      have : ¬ (NameKind.free = k) := fun q => hk (by rw [← q]; exact beq_self_eq_true _)
      simp only [List.mem_cons, Prod.mk.injEq, this, and_false, false_or]
theorem mol {α : Type} {x : Str} {c : α} : ∀ {l : List (Str × α)}, l.lookup x = some c → (x, c) ∈ l
  | [], h => by simp at h
  | (y, d) :: r, h => by
    rw [List.lookup_cons] at h
    split at h
    · rename_i q; cases h; have := beq_iff_eq.mp q; subst this; exact .head _
    · exact .tail _ (mol h)
theorem lookup_of_mem {α : Type} {x : Str} {c : α} : ∀ {l : List (Str × α)}, (x, c) ∈ l → ∃ d, l.lookup x = some d
  | (y, d) :: r, h => by
    rw [List.lookup_cons]
    split
    · exact ⟨_, rfl⟩
    · rename_i q
      rcases List.mem_cons.mp h with e | h
      · cases e; simp at q
      · exact lookup_of_mem h
theorem kindEq_eq : ∀ {a b : List (Str × NameKind)}, kindEq a b = true → a = b
  | [], b, h => by
    cases b with
    | nil => rfl
    | cons _ _ => exact absurd h Bool.false_ne_true
  | (x, k) :: r, b, h => by
    cases b with
    | nil => exact absurd h Bool.false_ne_true
    | cons q s =>
      obtain ⟨h1, h2⟩ := an2 h
      obtain ⟨h3, h4⟩ := an2 h1
      rw [kindEq_eq h2, eq_of_beq h3, eq_of_beq h4]
theorem lookup_kindsIn (cx : Cx) (x : Str) : ∀ (names : List (Str × NameKind)), (kindsIn cx names).lookup x = (names.lookup x).map fun k => if k == .free && cx.kinds.lookup x == some .cell then .cell else k
  | [] => rfl
  | (y, k) :: r => by
    have ih := lookup_kindsIn cx x r
    show List.lookup x ((if (k == .free && cx.kinds.lookup y == some .cell) = true then (y, NameKind.cell) else (y, k)) :: kindsIn cx r) = _
    have e : (if (k == .free && cx.kinds.lookup y == some .cell) = true then (y, NameKind.cell) else (y, k)) = (y, if (k == .free && cx.kinds.lookup y == some .cell) = true then NameKind.cell else k) := by split <;> rfl
    rw [e, List.lookup_cons, List.lookup_cons]
    by_cases q : (x == y) = true
    · have := beq_iff_eq.mp q; subst this
      rw [q]; rfl
    · have q' : (x == y) = false := by simpa using q
      rw [q']; exact ih
structure CS (cx cx' : Cx) (own : List Nat) (sc : Scope) : Prop where
  notOwn : cx'.own = false
  noCode : cx'.code = none
  kind : sc.kind = .function
  kinds : cx'.kinds = kindsIn cx sc.names
  local_ : ∀ x i, (x, i) ∈ cx'.slots → sc.names.lookup x = some .local → i ∈ own ∧ ∀ x' i', (x', i') ∈ cx'.slots → x = x' ∨ i ≠ i'
  free : ∀ x i, (x, i) ∈ cx'.slots → sc.names.lookup x = some .free → cx.slots.lookup x = some i ∧ (cx.kinds.lookup x = some .cell ∨ cx.kinds.lookup x = some .free)
  both : ∀ x i, (x, i) ∈ cx'.slots → sc.names.lookup x = some .local ∨ sc.names.lookup x = some .free
  names : ∀ x k, (x, k) ∈ sc.names → (k = .local ∧ sc.names.lookup x = some .local) ∨ (k = .free ∧ sc.names.lookup x = some .free ∧ ∃ i, cx'.slots.lookup x = some i) ∨ k = .globalImplicit
theorem CS.of {cx cx' : Cx} {own : List Nat} {sc : Scope} (h0 : cx'.own = false) (h00 : cx'.code = none) (h1 : sc.kind = .function) (h2 : kindEq cx'.kinds (kindsIn cx sc.names) = true) (h3 : slotsIn cx sc.names cx'.slots = true)
    (h4 : cx'.slots.all (fun (x, i) => cx'.kinds.lookup x != some .local || own.contains i) = true) : CS cx cx' own sc := by
  have hk := kindEq_eq h2
  unfold slotsIn at h3
  obtain ⟨h3, h5⟩ := Bool.and_eq_true_iff.mp h3
  rw [List.all_eq_true] at h3 h4 h5
  refine ⟨h0, h00, h1, hk, fun x i hm hl => ?_, fun x i hm hl => ?_, fun x i hm => ?_, fun x k hm => ?_⟩
  · have a := h3 _ hm
    simp only [hl, List.all_eq_true] at a
    have b := h4 _ hm
    simp only at b
    rw [hk, lookup_kindsIn, hl] at b
    refine ⟨by simpa using b, fun x' i' hm' => ?_⟩
    have := a _ hm'
    simpa using this
  · have a := h3 _ hm
    simp only [hl, Bool.and_eq_true, beq_iff_eq, bne_iff_ne] at a
    obtain ⟨⟨a1, a2⟩, a3⟩ := a
    refine ⟨a1, ?_⟩
    unfold localish at a2
    split at a2
    · rename_i q; exact absurd q a3
    · rename_i q; exact .inl q
    · rename_i q; exact .inr q
    · cases a2
  · have a := h3 _ hm
    simp only at a
    split at a
    · rename_i q; exact .inl q
    · rename_i q; exact .inr q
    · cases a
  · have a := h5 _ hm
    simp only at a
    split at a
    · exact .inl ⟨rfl, beq_iff_eq.mp a⟩
    · obtain ⟨a1, a2⟩ := Bool.and_eq_true_iff.mp a
      exact .inr (.inl ⟨rfl, beq_iff_eq.mp a1, Option.isSome_iff_exists.mp a2⟩)
    · exact .inr (.inr rfl)
    · cases a
theorem CS.cells {cx cx' : Cx} {own : List Nat} {sc : Scope} (C : CS cx cx' own sc) {env : Env} {h : Heap} (F : Frm W cx env ρ H h) : ∀ x, (x, NameKind.free) ∈ sc.names → ∃ c, env.cells.lookup x = some c := fun x hm => by
  rcases C.names x _ hm with ⟨q, _⟩ | ⟨_, q, i, hi⟩ | q
  · cases q
  · obtain ⟨a, b⟩ := C.free x i (mol hi) q
    obtain ⟨c, ov, c1, _⟩ := F.cell x i a b
    exact ⟨c, c1⟩
  · cases q
theorem CS.frm {cx cx' : Cx} {own : List Nat} {sc : Scope} (S : CS cx cx' own sc) {env : Env} {h h' : Heap} {C : Addr} (F : Frm W cx env ρ H h) (hown : ∀ i ∈ own, ρ[i]? = some none) (hn : h'.Ns C fun _ => none) (hk : ∀ b o, h.get? b = some o → h'.get? b = some o)
    (hC : H C = none) (hB : W.base.get? C = none) (hf : h.get? C = none) : Frm W cx' (compEnvC sc (closeOf env sc.names []) C env) ρ H h' := by
  have hcells := S.cells F
  have look : ∀ x c, (closeOf env sc.names []).lookup x = some c → env.cells.lookup x = some c := fun x c hx => by
    obtain ⟨a, b⟩ := ((closeOf_mem env sc.names [] (x, c)).mp (mol hx)).resolve_left (by simp)
    obtain ⟨d, hd⟩ := hcells x a
    rw [hd] at b
    rw [hd]
    exact congrArg some b.symm
  have look2 : ∀ x, (x, NameKind.free) ∈ sc.names → ∃ c, (closeOf env sc.names []).lookup x = some c := fun x hx =>
    lookup_of_mem (c := (env.cells.lookup x).getD 0) ((closeOf_mem env sc.names [] (x, (env.cells.lookup x).getD 0)).mpr (.inr ⟨hx, rfl⟩))
  have fr : ∀ x i, cx'.slots.lookup x = some i → (cx'.kinds.lookup x = some .cell ∨ cx'.kinds.lookup x = some .free) → sc.names.lookup x = some .free := fun x i h1 h2 => by
    rcases S.both x i (mol h1) with q | q
    · rw [S.kinds, lookup_kindsIn, q] at h2
      rcases h2 with h2 | h2 <;> exact absurd h2 (by simp)
    · exact q
  refine ⟨fun x => ?_, S.kind, F.gl, F.bl, ⟨_, hn, fun x i v h1 h2 h3 => ?_⟩, hC, hB, fun x i h1 h2 => ?_, fun x x' c h1 h2 => F.apart x x' c (look _ _ h1) (look _ _ h2), fun x x' i h1 h2 => ?_, fun c q h => by rw [S.noCode] at h; cases h⟩
  · rw [S.kinds]
    show (List.map _ sc.names).lookup x = (List.map _ sc.names).lookup x
    congr 1
    refine List.map_congr_left fun p _ => ?_
    obtain ⟨y, k⟩ := p
    have : env.kindOf y = cx.kinds.lookup y := F.kinds y
    simp only [F.fn, this, beq_self_eq_true, Bool.and_true]
  · have q : sc.names.lookup x = some .local := by
      rcases S.both x i (mol h1) with q | q
      · exact q
      · rw [S.kinds, lookup_kindsIn, q] at h2
        simp only [Option.map_some, Option.some.injEq] at h2
        split at h2 <;> cases h2
    have := hown i (S.local_ x i (mol h1) q).1
    rw [this] at h3; cases h3
  · have q := fr x i h1 h2
    obtain ⟨a, b⟩ := S.free x i (mol h1) q
    obtain ⟨c, ov, c1, c2, c3, c4, ⟨o, c5, c6⟩, c7⟩ := F.cell x i a b
    obtain ⟨d, hd⟩ := look2 x (mol q)
    have : d = c := by have := look x d hd; rw [c1] at this; cases this; rfl
    subst this
    exact ⟨d, ov, hd, (by rintro rfl; rw [hf] at c5; cases c5), c3, c4, ⟨o, hk _ _ c5, c6⟩, fun v hv => let ⟨y, z, r⟩ := c7 v hv; ⟨y, z, r.keep fun a o e _ => hk a o e⟩⟩
  · rcases S.both x i (mol h1) with q | q
    · exact ((S.local_ x i (mol h1) q).2 x' i (mol h2)).resolve_right (fun z => z rfl)
    · rcases S.both x' i (mol h2) with q' | q'
      · exact (((S.local_ x' i (mol h2) q').2 x i (mol h1)).resolve_right (fun z => z rfl)).symm
      · exact F.inj x x' i (S.free x i (mol h1) q).1 (S.free x' i (mol h2) q').1
theorem CS.look {cx cx' : Cx} {own : List Nat} {sc : Scope} (S : CS cx cx' own sc) {env : Env} {h : Heap} (F : Frm W cx env ρ H h) : ∀ x c, (closeOf env sc.names []).lookup x = some c → env.cells.lookup x = some c := fun x c hx => by
  obtain ⟨a, b⟩ := ((closeOf_mem env sc.names [] (x, c)).mp (mol hx)).resolve_left (by simp)
  obtain ⟨d, hd⟩ := S.cells F x a
  rw [hd] at b
  rw [hd]
  exact congrArg some b.symm
theorem CS.free_of {cx cx' : Cx} {own : List Nat} {sc : Scope} (S : CS cx cx' own sc) {x : Str} {i : Nat} (h1 : cx'.slots.lookup x = some i) (h2 : cx'.kinds.lookup x = some .cell ∨ cx'.kinds.lookup x = some .free) : sc.names.lookup x = some .free := by
  rcases S.both x i (mol h1) with q | q
  · rw [S.kinds, lookup_kindsIn, q] at h2
    rcases h2 with h2 | h2 <;> exact absurd h2 (by simp)
  · exact q
theorem CS.apart {cx cx' : Cx} {own : List Nat} {sc : Scope} (S : CS cx cx' own sc) {env : Env} {h : Heap} {C : Addr} {fp : List Addr} (F : Frm W cx env ρ H h) (ha : Apart cx env fp) (hC : C ∉ fp) : Apart cx' (compEnvC sc (closeOf env sc.names []) C env) fp :=
  ⟨hC, fun x i c h1 h2 h3 => by
    obtain ⟨a, b⟩ := S.free x i (mol h1) (S.free_of h1 h2)
    exact ha.2 x i c a b (S.look F x c h3)⟩
theorem pl_keep {h h' : Heap} {D : Addr} {items : Array Value} (x : h.PlainList D items) (k : ∀ o, h.get? D = some o → h'.get? D = some o) : h'.PlainList D items := x.at k
inductive CIv (W : Wd) (cx' : Cx) (env' : Env) (ρ : Loc) (vals : List V) (I : Nat → Heap → Prop) (Inv : Nat → List V → AH → Prop) (D : Addr) (fp : List Addr) (s2 : Shared) (H1 : AH) (m : Nat) (s' : Shared) : Prop
  | mk (i : Nat) (out : List V) (H' : AH) (items : Array Value) (em : m = vals.length - i) (hi : i ≤ vals.length) (hlen : out.length ≤ i) (i4 : Inv i out H') (I4 : I i s'.heap) (R4 : Rel W H' s'.heap) (F4 : Frm W cx' env' ρ H' s'.heap)
    (pl : s'.heap.PlainList D items) (ro : VRs s'.heap out items.toList) (d4 : H' D = none) (f4 : ∀ b ∈ fp, H' b = none) (x4 : ∀ b o, s2.heap.get? b = some o → H1 b = none → b ∉ fp → s'.heap.get? b = some o ∧ H' b = none) (same4 : SmH s2 s')
structure LK (W : Wd) (n : Nat) (cx' : Cx) (env' : Env) (A : Around) (s2 : Shared) (D : Addr) (fp : List Addr) : Prop where
  fpD : D ∉ fp
  fpC : env'.locals ∉ fp
  hDC : D ≠ env'.locals
  gD : s2.heap.get? D = none
  gC : s2.heap.get? env'.locals = none
  BD : W.base.get? D = none
  ap : Apart cx' env' fp
  apD : Apart cx' env' [D]
  f3 : ∀ b ∈ fp, W.base.get? b = none
  hA : AOk n A
  own : cx'.own = false
section
variable {cx' : Cx} {env' : Env} {vals : List V} {Wt : AH → Prop} {itv : Value} {fp : List Addr} {I : Nat → Heap → Prop} {Inv : Nat → List V → AH → Prop} {D : Addr} {s2 : Shared} {H1 : AH} {A : Around} {tg : PySem.Expr}
theorem CIv.again (K : LK W n cx' env' A s2 D fp) (IT : Iter W n tg itv vals Wt fp I) {i m : Nat} {s4 s6 s7 s9 : Shared} {H4 H9 : AH} {ρ1 : Loc} {items : Array Value} {out : List V} (hlt : i < vals.length) (em : m = vals.length - i) (f4 : ∀ b ∈ fp, H4 b = none)
    (x4 : ∀ b o, s2.heap.get? b = some o → H1 b = none → b ∉ fp → s4.heap.get? b = some o ∧ H4 b = none) (same4 : SmH s2 s4) (I6 : I (i + 1) s6.heap) (k46 : KB fp s4 s6) (tk7 : TupKeep s6.heap s7.heap) (c7 : SF cx' env' H4 s6 H4 s7)
    (q1 : Inv (i + 1) out H9) (q2 : out.length ≤ i + 1) (q3 : Rel W H9 s9.heap) (q4 : Frm W cx' env' ρ1 H9 s9.heap) (le1 : Le ρ ρ1) (q5 : s9.heap.PlainList D items) (q6 : VRs s9.heap out items.toList) (q7 : H9 D = none)
    (q8 : ∀ b o, s7.heap.get? b = some o → H4 b = none → b ≠ D → s9.heap.get? b = some o ∧ H9 b = none) (q9 : SmH s7 s9) (q10 : TupKeep s7.heap s9.heap) : ∃ m', m' < m ∧ CIv W cx' env' ρ vals I Inv D fp s2 H1 m' s9 := by
  have x7 : ∀ b o, s6.heap.get? b = some o → H4 b = none → b ≠ env'.locals → s7.heap.get? b = some o := fun b o e h hb => (c7.ext b o e h hb fun x i q => by rw [K.own] at q; cases q).1
  have x9 : ∀ b o, s6.heap.get? b = some o → H4 b = none → b ≠ env'.locals → b ≠ D → s9.heap.get? b = some o ∧ H9 b = none := fun b o e h h1 h2 => q8 b o (x7 b o e h h1) h h2
  have ne1 : ∀ b ∈ fp, b ≠ env'.locals := fun b hb q => K.fpC (q ▸ hb)
  have ne2 : ∀ b ∈ fp, b ≠ D := fun b hb q => K.fpD (q ▸ hb)
  refine ⟨vals.length - (i + 1), ?_, i + 1, out, H9, items, rfl, hlt, q2, q1, ?_, q3, q4.less le1, q5, q6, q7, fun b hb => ?_, fun b o e h hb => ?_, ?_⟩
  · rw [em]; exact Nat.sub_lt_sub_left hlt (Nat.lt_succ_self i)
  · exact IT.keep _ _ _ I6 (fun a o e ht => q10 a o (tk7 a o e ht) ht) fun b hb o e => (x9 b o e (f4 b hb) (ne1 b hb) (ne2 b hb)).1
  · obtain ⟨o, e, _⟩ := IT.ex _ _ I6 b hb
    exact (x9 b o e (f4 b hb) (ne1 b hb) (ne2 b hb)).2
  · obtain ⟨z1, z2⟩ := x4 b o e h hb
    exact x9 b o (k46.kept b o hb z1) z2 (fun q => by rw [q, K.gC] at e; cases e) fun q => by rw [q, K.gD] at e; cases e
  · exact ((same4.trans k46.same).trans c7.same).trans q9
theorem pl_step {H H' : AH} {s s' : Shared} {items : Array Value} (c : Step W H s H' s') (p : s.heap.PlainList D items) (d : H D = none) : s'.heap.PlainList D items ∧ H' D = none := by
  obtain ⟨m, e⟩ := p
  exact ⟨⟨m, (c.ext D _ e d).1⟩, (c.ext D _ e d).2⟩
theorem comp_push {elt : E} {el : PySem.Expr} {ρ1 : Loc} {s7 : Shared} {H7 : AH} {items : Array Value} {out : List V} {E : Value → Shared → Prop} {P : Shared → Prop} {J : List V → AH → Prop} (K : LK W n cx' env' A s2 D fp) (he : sameE W.gt W.attr cx' elt el = true)
    (hw : WE W n cx' elt ρ1 H7 fun y H3 => J (out ++ [y]) H3) (R : Rel W H7 s7.heap) (F : Frm W cx' env' ρ1 H7 s7.heap) (pl : s7.heap.PlainList D items) (ro : VRs s7.heap out items.toList) (d7 : H7 D = none) (hl : out.length ≤ 1000)
    (k : ∀ s9 H9 items' y, J (out ++ [y]) H9 → Rel W H9 s9.heap → Frm W cx' env' ρ1 H9 s9.heap → s9.heap.PlainList D items' → VRs s9.heap (out ++ [y]) items'.toList → H9 D = none →
      (∀ b o, s7.heap.get? b = some o → H7 b = none → b ≠ D → s9.heap.get? b = some o ∧ H9 b = none) → (SmH s7 s9) → TupKeep s7.heap s9.heap → P s9) :
    wpAny W.M A (eval el env') (fun x s₄ => wpAny W.M A (PySem.call (.builtin "list.append") [.ref D, x]) (fun _ s₅ => P s₅) E s₄) E s7 := by
  refine an (hw el he _ s7 A _ R F K.hA) fun x s9 v9 H9 r9 i9 c9 => ?_
  obtain ⟨pl9, d9⟩ := pl_step c9 pl d7
  have tk9 := c9.ext.tups R
  have hsz : items.size = out.length := by rw [← Array.length_toList, ← ro.length]
  refine wpAny_list_append_plain pl9 (fun h' pl' sb => ?_) (by rw [sizeLine_eq]; lia)
  have one : ∀ b ∈ [D], b = D := fun b hb => List.mem_singleton.mp hb
  have kD : KB [D] s9 { s9 with heap := h' } := ⟨fun b o hb e => (sb.2 b fun q => hb (q ▸ .head _)).trans e, h', s9.toks, rfl⟩
  obtain ⟨mF, eF⟩ := id pl9
  have ntD : ∀ b ∈ [D], ∀ o, s9.heap.get? b = some o → ¬ isTup o := fun b hb o e ht => by
    rw [one b hb, eF] at e; cases e; exact absurd ht.1 (by simp)
  have tkD := kD.tups ntD
  refine k { s9 with heap := h' } H9 (items.push x) v9 i9 (kD.rel c9.rel (fun b hb => (one b hb).symm ▸ d9) (fun b hb => (one b hb).symm ▸ K.BD) ntD) (kD.frm (c9.frm R F) K.apD ntD) pl' ?_ d9 (fun b o e h hb => ?_) ?_ (fun a o e ht => tkD a o (tk9 a o e ht) ht)
  · rw [Array.toList_push]
    exact ((ro.keep tk9).keep tkD).append (.one (r9.keep tkD))
  · obtain ⟨z1, z2⟩ := c9.ext b o e h
    exact ⟨(sb.2 b hb).trans z1, z2⟩
  · exact c9.same.trans ⟨_, _, rfl⟩
theorem comp_conds {conds : Es} {ifs : List PySem.Expr} {ρ1 : Loc} {s7 : Shared} {H7 : AH} {E : Value → Shared → Prop} {P : Bool → Shared → Prop} {J : Bool → AH → Prop} (hA : AOk n A) (hc : sameEs W.gt W.attr cx' conds ifs = true) (hw : WCond W n cx' conds ρ1 H7 J) (R : Rel W H7 s7.heap) (F : Frm W cx' env' ρ1 H7 s7.heap)
    (k : ∀ ok s8 H8, J ok H8 → Step W H7 s7 H8 s8 → P ok s8) : wpAny W.M A (forIn ifs true fun c r => if r = true then do let ok ← isTrue c env' (eval c env'); pure (ForInStep.yield ok) else pure (ForInStep.yield r)) P E s7 := by
  cases conds with
  | nil =>
    cases es_nil hc
    rw [List.forIn_nil]
    exact wpAny_pure (k true s7 H7 hw (Step.refl R))
  | cons cd r =>
    cases r with
    | nil =>
      obtain ⟨x, r1, rfl, h1, g⟩ := es_cons hc
      cases es_nil g
      exact wpAny_tests_one (anT ((hw : WT W n cx' cd ρ1 H7 J) x h1 _ s7 A _ R F hA) fun ok s8 H8 q c8 => k ok s8 H8 q c8)
    | cons _ _ => exact (hw : False).elim
end
theorem comp_block {cx' : Cx} {own : List Nat} {elt : E} {t : T} {conds : Es} {Q : V → AH → Prop} {el tg iter : PySem.Expr} {ifs : List PySem.Expr} {sc : Scope} {pos : Pos} {env : Env} {s s2 : Shared} {H1 : AH} {A : Around} {E : Value → Shared → Prop}
    {vals : List V} {Wt : AH → Prop} {itv : Value} {fp : List Addr} {I : Nat → Heap → Prop} {Inv : Nat → List V → AH → Prop} {RR : Value → Addr → Result → Shared → Prop}
    (S : CS cx cx' own sc) (ht : sameT W.gt W.attr cx' t tg = true) (hc : sameEs W.gt W.attr cx' conds ifs = true) (he : sameE W.gt W.attr cx' elt el = true)
    (hown : ∀ i ∈ own, ρ[i]? = some none) (hto : ∀ i ∈ tslots t, i ∈ own)
    (B : CB W n cx' own elt t conds Q ρ vals Wt H1 Inv) (IT : Iter W n tg itv vals Wt fp I) (hI : I 0 s2.heap) (F0 : Frm W cx env ρ H s.heap) (R0 : Rel W H s.heap) (c : Step W H s H1 s2) (hA : AOk n A)
    (f1 : ∀ b ∈ fp, H1 b = none) (f2 : ∀ b ∈ fp, H b = none → s.heap.get? b = none) (f3 : ∀ b ∈ fp, W.base.get? b = none)
    (hRR : ∀ D C s' H', Q (.ref D) H' → Step W H s H' s' → (∃ m, s'.heap.Ns C m) → H' C = none → W.base.get? C = none → (H C = none → s.heap.get? C = none) → RR (.ref D) C (.ok .next) s') :
    wpAny W.M A (newList []) (fun acc s₃ => wpAny W.M A (newFunctionEnv sc env.globals (closeOf env sc.names []) [] env.qual none .none (some env)) (fun cenv s₄ =>
      codeAny W.M A (.compStart (.ListComp el [⟨tg, iter, ifs, 0⟩] sc pos) 0 itv acc { cenv with scope := relabel sc env }) (RR acc cenv.locals) s₄) E s₃) E s2 := by
  have F2 := c.frm R0 F0
  have hcell : ∀ y ∈ sc.names, y.2 ≠ .cell := fun y hy q => by
    obtain ⟨x, k⟩ := y
    rcases S.names x k hy with ⟨h, _⟩ | ⟨h, _⟩ | h <;> (simp only at q; rw [q] at h; cases h)
  refine wpAny_newObj_type (wpAny_newFunctionEnv hcell (fun y hy => nomatch hy) (fun h₁ hns₁ hsb₁ => ?_) S.kind)
  dsimp only at hns₁ hsb₁ ⊢
  generalize hH2 : s2.heap.push { cls := .type "list", dict := none, data := .seq ([] : List Value).toArray } = H2 at hns₁ hsb₁ ⊢
  have hC : H2.objs.size = s2.heap.objs.size + 1 := by rw [← hH2, Heap.size_push]
  generalize hCe : H2.objs.size = C at hns₁ hsb₁ ⊢
  generalize hDe : s2.heap.objs.size = D at hC ⊢
  rw [hCe] at hC
  have hDC : D ≠ C := by rw [hC]; exact Nat.ne_of_lt (Nat.lt_succ_self _)
  have hCge : s2.heap.objs.size ≤ C := by rw [hDe, hC]; exact Nat.le_succ _
  have hDge : s2.heap.objs.size ≤ D := Nat.le_of_eq hDe
  have gC : s2.heap.get? C = none := get_none_of_le hCge
  have gD : s2.heap.get? D = none := get_none_of_le hDge
  have old : ∀ b o, s2.heap.get? b = some o → h₁.get? b = some o := fun b o e =>
    hsb₁.extBut b o (fun q => by rw [q, gC] at e; cases e) (Heap.get?_push_of_some _ (hH2 ▸ Heap.get?_push_of_some _ e))
  have hacc : h₁.PlainList D #[] := ⟨_, hsb₁.extBut _ _ hDC (Heap.get?_push_of_some _ (by rw [← hH2, ← hDe]; exact Heap.get?_push_size _ rfl))⟩
  clear hsb₁ hH2 hCe hC
  have fpN : ∀ a, s2.heap.get? a = none → a ∉ fp := fun a ha q => by obtain ⟨o, e, _⟩ := IT.ex 0 _ hI a q; rw [ha] at e; cases e
  have K : LK W n cx' (compEnvC sc (closeOf env sc.names []) C env) A s2 D fp := ⟨fpN D gD, fpN C gC, hDC, gD, gC, c.rel.new_none hDge, S.apart F0 (F0.apart_of f2) (fpN C gC),
    S.apart F2 (F2.apart_of fun b hb _ => by rw [List.mem_singleton.mp hb]; exact gD) (fun q => hDC (List.mem_singleton.mp q).symm), f3, hA, S.notOwn⟩
  have R2 : Rel W H1 h₁ := c.rel.grow old
  have BC : W.base.get? C = none := c.rel.new_none hCge
  have Fc : Frm W cx' (compEnvC sc (closeOf env sc.names []) C env) ρ H1 h₁ := S.frm F2 hown hns₁ old (c.rel.fresh hCge) BC gC
  have I0 := IT.keep 0 _ _ hI (fun a o e _ => old a o e) fun b _ o e => old b o e
  have nC : H C = none → s.heap.get? C = none := fun h => c.new_free hCge h
  have lD : ∀ b, s2.heap.get? b ≠ none → b ≠ D := fun b h q => h (q ▸ gD)
  have hCl : (compEnvC sc (closeOf env sc.names []) C env).locals = C := rfl
  generalize hE : compEnvC sc (closeOf env sc.names []) C env = env' at K Fc hCl
  have loop : ∀ s₃ : Shared, s₃ = { s2 with heap := h₁, toks := s2.toks + ([] : List (Str × Value)).length } →
      codeAny W.M A (.compLoop (.ListComp el [⟨tg, iter, ifs, 0⟩] sc pos) 0 itv (.ref D) env') (RR (.ref D) C) s₃ := by
    rintro s₃ rfl
    refine comp_loop (CIv W cx' env' ρ vals I Inv D fp s2 H1) (fun m s4 ⟨i, out, H4, items, em, hi, hlen, i4, I4, R4, F4, pl, ro, d4, f4, x4, same4⟩ => ?_) vals.length
      ⟨0, [], H1, #[], rfl, Nat.zero_le _, Nat.le_refl _, B.zero, I0, R2, Fc, hacc, .nil, c.rel.fresh hDge, f1, fun b o e h _ => ⟨old b o e, h⟩, _, _, rfl⟩
    have nt : ∀ b ∈ fp, ∀ o, s4.heap.get? b = some o → ¬ isTup o := nt_of (IT.ex i _ I4)
    rcases Nat.lt_or_ge i vals.length with hlt | hge
    · have hv : vals[i]? = some vals[i] := List.getElem?_eq_getElem hlt
      refine IT.next i vals[i] H4 s4 A _ _ hA R4 (B.wt _ _ _ i4) f4 hv I4 fun y s5 ry k5 nt5 go => ?_
      refine go _ _ fun s6 k6 I6 => ?_
      have k46 := k5.trans k6
      have R5 := k5.rel R4 f4 f3 nt
      have R6 := k6.rel R5 f4 f3 nt5
      have F6 := k6.frm (k5.frm F4 K.ap nt) K.ap nt5
      obtain ⟨ρ1, hb, hstep⟩ := B.step i vals[i] out H4 hv i4
      have le1 : Le ρ ρ1 := bindT_le hb fun j hj => hown j (hto j hj)
      refine anW (wg_bind t hb tg ht _ s6 A _ y R6 F6 hA (ry.keep (k6.tups nt5))) fun _ s7 ρ7 H7 w2s7 R7 F7 c7 => ?_
      obtain ⟨e1, e2⟩ := w2s7
      subst e1 e2
      have tk7 := c7.tups R6 F6
      have pl7 : s7.heap.PlainList D items := pl_keep (pl_keep pl fun o e => k46.kept D o K.fpD e) fun o e => (c7.ext D o e d4 K.hDC fun x i q => by rw [K.own] at q; cases q).1
      have ro7 : VRs s7.heap out items.toList := (ro.keep fun a o e ht => k6.tups nt5 a o (k5.tups nt a o e ht) ht).keep tk7
      refine comp_conds hA hc hstep R7 F7 fun ok s8 H8 w c8 => ?_
      obtain ⟨pl8, d8⟩ := pl_step c8 pl7 d4
      have ro8 := ro7.keep (c8.ext.tups R7)
      cases ok with
      | false => exact CIv.again K IT hlt em f4 x4 same4 I6 k46 tk7 c7 (w.2 rfl) (Nat.le_succ_of_le hlen) c8.rel (c8.frm R7 F7) le1 pl8 ro8 d8 (fun b o e h _ => c8.ext b o e h) c8.same (c8.ext.tups R7)
      | true =>
        refine comp_push K he (w.1 rfl) c8.rel (c8.frm R7 F7) pl8 ro8 d8 (Nat.le_trans hlen (Nat.le_trans hi B.len)) fun s9 H9 items' y' i9 R9 F9 pl9 ro9 d9 x9 same9 tk9 => ?_
        refine CIv.again K IT hlt em f4 x4 same4 I6 k46 tk7 c7 i9 (by rw [List.length_append]; exact Nat.succ_le_succ hlen) R9 F9 le1 pl9 ro9 d9 (fun b o e h hb => x9 b o (c8.ext b o e h).1 (c8.ext b o e h).2 hb) ?_ (fun a o e ht => tk9 a o (c8.ext.tups R7 a o e ht) ht)
        exact c8.same.trans same9
    · cases Nat.le_antisymm hi hge
      refine IT.done H4 s4 A _ _ hA R4 (B.wt _ _ _ i4) f4 I4 fun s5 k5 => ?_
      obtain ⟨mD, eD⟩ := id pl
      have eD5 := k5.kept D _ K.fpD eD
      have F5 := k5.frm F4 K.ap nt
      rw [← hCl]
      refine hRR D _ s5 _ (B.fin out H4 i4 D d4) ⟨(k5.rel R4 f4 f3 nt).set K.BD (fun o e ht => by rw [eD5] at e; cases e; exact absurd ht.1 (by simp)) (fun _ _ _ e => e) ⟨items, mD, eD5, ro.keep (k5.tups nt)⟩, fun b o e h => ?_, ?_⟩ ?_ ?_ (hCl ▸ BC) (hCl ▸ nC)
      · obtain ⟨z1, z2⟩ := c.ext b o e h
        have hb : b ∉ fp := fun q => by rw [f2 b q h] at e; cases e
        obtain ⟨z3, z4⟩ := x4 b o z1 z2 hb
        refine ⟨k5.kept b o hb z3, ?_⟩
        rw [upd_ne _ _ (lD b (by rw [z1]; nofun))]
        exact z4
      · exact (c.same.trans same4).trans k5.same
      · obtain ⟨mm, hm, _⟩ := F5.loc
        exact ⟨mm, hm⟩
      · rw [upd_ne _ _ K.hDC.symm]
        exact F5.locH
  subst hE
  exact codeAny_compStart_list (loop _ rfl) (IT.self 0 H1 _ A _ _ hA R2 (B.wt _ _ _ B.zero) f1 I0 (loop _ rfl))
theorem Step.but {H' : AH} {s s' : Shared} {C : Addr} {h' : Heap} (c : Step W H s H' s') (hC : H' C = none) (hB : W.base.get? C = none) (hn : H C = none → s.heap.get? C = none) (ht : ∀ o, s'.heap.get? C = some o → ¬ isTup o) (sb : Heap.ExtBut C s'.heap h') : Step W H s H' { s' with heap := h' } := by
  refine ⟨c.rel.but hC hB ht sb, fun b o e h => ?_, ?_⟩
  · obtain ⟨z1, z2⟩ := c.ext b o e h
    exact ⟨sb b o (by rintro rfl; rw [hn h] at e; cases e) z1, z2⟩
  · exact c.same.trans ⟨_, _, rfl⟩
theorem ns_not_tup {h : Heap} {C : Addr} {m : Str → Option Value} (x : h.Ns C m) : ∀ o, h.get? C = some o → ¬ isTup o := by
  obtain ⟨o, es, ep, e, hd, _⟩ := x
  rintro o' e' ⟨_, ⟨its, k, hd'⟩ | ⟨vs, hd'⟩⟩ <;>
  (rw [e] at e'; cases e'; rw [hd] at hd'; cases hd')
theorem same_comp {cx' : Cx} {own : List Nat} {elt : E} {t : T} {it : It} {conds : Es} {x : PySem.Expr} (h : sameE W.gt W.attr cx (.comp cx' own elt t it conds) x = true) :
    ∃ el tg iter ifs sc pos, x = .ListComp el [⟨tg, iter, ifs, 0⟩] sc pos ∧ CS cx cx' own sc ∧ sameIt W.gt W.attr cx it iter = true ∧ sameT W.gt W.attr cx' t tg = true ∧ sameEs W.gt W.attr cx' conds ifs = true ∧ sameE W.gt W.attr cx' elt el = true := by
  obtain ⟨h1, h2, h3, h4, h5, h6⟩ := an6 h
  obtain ⟨h6, h7, h8, h9⟩ := an4 h6
  obtain ⟨p, e⟩ := tg h1
  obtain ⟨g, e2, h9⟩ := one_inv h9
  obtain ⟨f1, f2, f3, f4⟩ := an4 h9
  have e3 : g = ⟨g.target, g.iter, g.ifs, 0⟩ := by rw [← eq_of_beq f1]; cases g; rfl
  rw [e2, e3] at e
  exact ⟨_, _, _, _, _, p, e, CS.of (not_t h2) (Option.isNone_iff_eq_none.mp h3) (of_decide_eq_true h4) h5 h6 h7, f2, f3, f4, h8⟩
theorem CS.nms {cx cx' : Cx} {own : List Nat} {sc : Scope} (S : CS cx cx' own sc) : ∀ x ∈ sc.names, x.2 = .local → sc.names.lookup x.1 = some .local := fun x hx h => by
  obtain ⟨y, k⟩ := x
  rcases S.names y k hx with ⟨_, q⟩ | ⟨q, _⟩ | q
  · exact q
  · simp only at h; rw [h] at q; cases q
  · simp only at h; rw [h] at q; cases q
theorem we_comp {cx' : Cx} {own : List Nat} {elt : E} {t : T} {it : It} {conds : Es} {Q : V → AH → Prop} (ho : okT it t = true) (hown : ∀ i ∈ own, ρ[i]? = some none) (hto : ∀ i ∈ tslots t, i ∈ own)
    (h : WI W n cx it ρ H fun vals Wt H1 => ∃ Inv, CB W n cx' own elt t conds Q ρ vals Wt H1 Inv) : WE W n cx (.comp cx' own elt t it conds) ρ H Q := by
  intro x hx env s A X R F hA
  obtain ⟨el, tg, iter, ifs, sc, pos, rfl, S, h5, h6, h7, h8⟩ := same_comp hx
  rw [eval_ListComp]
  refine wpAny_comprehension_free (use := none) rfl (folded_none (sameIt_notSet h5) env) (closure_of (S.cells F)) S.kind S.nms ?_
  refine h iter h5 tg (okT_target ho h6) env s A X _ R F hA fun vals Wt H1 itv fp I s2 ⟨Inv, B⟩ c IT hI f1 f2 f3 => ?_
  refine comp_block (RR := fun acc C => compPost W.M A X none _ acc C) S h6 h7 h8 hown hto B IT hI F R c hA f1 f2 f3 fun D C s' H' q c' ⟨m, hm⟩ hC hB hn => ?_
  exact ⟨m, hm, fun h' sb => ec (.ref D) q (c'.but hC hB hn (ns_not_tup hm) sb.extBut)⟩
theorem ws_asgc {i : Nat} {cx' : Cx} {own : List Nat} {elt : E} {t : T} {it : It} {conds : Es} {Q : AF → Loc → AH → Prop} (ho : okT it t = true) (hown : ∀ i ∈ own, ρ[i]? = some none) (hto : ∀ i ∈ tslots t, i ∈ own)
    (h : WI W n cx it ρ H fun vals Wt H1 => ∃ Inv, CB W n cx' own elt t conds (fun v H2 => Q .next (ρ.set i (some v)) H2) ρ vals Wt H1 Inv) : WS W n cx (.asgc i (.comp cx' own elt t it conds)) ρ H Q := by
  intro x hx env s A X R F hA
  apply c_asgc hx
  intro nm px v pos h1 h2 h3 h4
  have plain := we_comp (W := W) (n := n) (cx := cx) (Q := fun v H2 => Q .next (ρ.set i (some v)) H2) ho hown hto h v h2
  obtain ⟨el, tg, iter, ifs, sc, cpos, rfl, S, h5, h6, h7, h8⟩ := same_comp h2
  rw [exec_Assign_arm]
  refine wpAny_bind (wpAny_standAt ?_)
  have sw : ∃ b, swapsWithSole [.Name nm px] (.ListComp el [⟨tg, iter, ifs, 0⟩] sc cpos) pos.line env = pure b := ⟨_, rfl⟩
  obtain ⟨b, sw⟩ := sw
  rw [sw]
  refine wpAny_bind (wpAny_pure ?_)
  cases b with
  | false =>
    rw [if_neg (by decide)]
    refine wpAny_bind (an (plain env s A X R F hA) fun y s1 v1 H1 a1 b1 c1 => ?_)
    have hw : swappedStores [.Name nm px] (.ListComp el [⟨tg, iter, ifs, 0⟩] sc cpos) env = pure none := rfl
    rw [hw]
    refine wpAny_bind (wpAny_pure ?_)
    refine wpAny_bind (wpAny_bind (wpAny_standAt (wpAny_bindName (store_slot c1.rel (c1.frm R F) h3 h4 a1 fun s2 R2 F2 c2 => ?_))))
    exact wpAny_pure ⟨.next, _, _, trivial, b1, R2, F2, (SF.of_step c1).trans c2⟩
  | true =>
    rw [if_pos rfl]
    refine wpAny_bind (wpAny_bind ?_)
    refine wpAny_comprehension_free (use := some _) rfl (folded_none (sameIt_notSet h5) env) (closure_of (S.cells F)) S.kind S.nms ?_
    refine h iter h5 tg (okT_target ho h6) env s A X _ R F hA fun vals Wt H1 itv fp I s2 ⟨Inv, B⟩ c IT hI f1 f2 f3 => ?_
    refine comp_block (RR := fun acc C => compPost W.M A X (some _) _ acc C) S h6 h7 h8 hown hto B IT hI F R c hA f1 f2 f3 fun D C s' H' q c' ⟨m, hm⟩ hC hB hn => ?_
    have nf := c'.frm R F
    have hCl : C ≠ env.locals := by
      rintro rfl
      obtain ⟨mm, ⟨o, es, ep, e, _⟩, _⟩ := F.loc
      rw [hn F.locH] at e; cases e
    refine wpAny_bind (wpAny_standAt (wpAny_bindName (store_slot c'.rel nf h3 h4 (.ref D) fun s3 R3 F3 c3 => ?_)))
    obtain ⟨o, es, ep, e, hd⟩ := id hm
    have kC := c3.ext C o e hC hCl fun x i _ h1 h2 h3 => by
      obtain ⟨cc, ov, d1, d2, d3, d4, ⟨o', d5, d6⟩, d7⟩ := F.cell x i h1 h2
      rw [h3] at d1; cases d1
      rw [hn d3] at d5; cases d5
    refine ⟨m, ⟨o, es, ep, kC.1, hd⟩, fun h' sb => ?_⟩
    have ntC := ns_not_tup (h := s3.heap) (C := C) (m := m) ⟨o, es, ep, kC.1, hd⟩
    have kb : KB [C] s3 { s3 with heap := h' } := ⟨fun b o hb e => (sb.2 b (by simpa using hb)).trans e, h', s3.toks, rfl⟩
    have nt1 : ∀ b ∈ [C], ∀ o, s3.heap.get? b = some o → ¬ isTup o := fun b hb o e => by rw [List.mem_singleton.mp hb] at e; exact ntC o e
    have ap : Apart cx env [C] := F.apart_of fun b hb h => by rw [List.mem_singleton.mp hb] at h ⊢; exact hn h
    refine wpAny_pure (wpAny_pure ⟨.next, _, H', trivial, q, kb.rel R3 (fun b hb => by rw [List.mem_singleton.mp hb]; exact hC) (fun b hb => by rw [List.mem_singleton.mp hb]; exact hB) nt1, kb.frm F3 ap nt1, ?_⟩)
    exact ((SF.of_step c').trans c3).kb (fun b hb h => by rw [List.mem_singleton.mp hb] at h ⊢; exact hn h) kb
end
section
variable {W : Wd} {n : Nat} {cx : Cx} {ρ : Loc} {H : AH}
structure FnIs (W : Wd) (f : Addr) (cx : Cx) (ss : Ss) (names : List Str) (fd : FuncData) : Prop where
  at_ : ∃ o body, W.K.lookup f = some o ∧ o.data = .func fd ∧ fd.body = .stmts body ∧ sameSs W.gt W.attr cx ss body = true
  kinds : fd.scope.names = cx.kinds
  glob : fd.globals = mainGlobals
  blt : fd.builtins = builtinsNs
  code : codeIn W.K fd.code fd.qualname = true
  clo : fd.closure = []
  co : fd.scope.isCoroutine = false
  gen : fd.scope.isGenerator = false
  fn : fd.scope.kind = .function
  inj : (cx.slots.map (·.2)).Nodup
  slots : ∀ x i, (x, i) ∈ cx.slots → cx.kinds.lookup x = some .local ∨ cx.kinds.lookup x = some .cell
  params : ∀ (j : Nat) (x : Str), names[j]? = some x → cx.slots.lookup x = some j
  nodup : names.Nodup
  cd : ∀ c q, cx.code = some (c, q) → fd.code = .ref c ∧ fd.qualname ++ ".<locals>." = q
theorem slots_inj : ∀ {l : List (Str × Nat)}, (l.map (·.2)).Nodup → ∀ x x' i, (x, i) ∈ l → (x', i) ∈ l → x = x'
  | [], _, _, _, _, h, _ => by cases h
  | (y, j) :: r, nd, x, x', i, h1, h2 => by
    simp only [List.map_cons, List.nodup_cons] at nd
    rcases List.mem_cons.mp h1 with e1 | h1
    · rcases List.mem_cons.mp h2 with e2 | h2
      · cases e1; cases e2; rfl
      · cases e1; exact absurd (List.mem_map_of_mem (f := (·.2)) h2) nd.1
    · rcases List.mem_cons.mp h2 with e2 | h2
      · cases e2; exact absurd (List.mem_map_of_mem (f := (·.2)) h1) nd.1
      · exact slots_inj nd.2 x x' i h1 h2
theorem bindL_other (kindOf : Str → Option NameKind) (x : Str) : ∀ (l : List (Str × Value)) (m : Str → Option Value), (∀ p ∈ l, p.1 ≠ x) → bindL kindOf l m x = m x
  | [], m, _ => rfl
  | (y, v) :: r, m, h => by
    unfold bindL
    rw [bindL_other kindOf x r _ fun p hp => h p (.tail _ hp)]
    have : x ≠ y := Ne.symm (h (y, v) (.head _))
    split
    · exact if_neg this
    · rfl
theorem bindC_other (kindOf : Str → Option NameKind) (x : Str) : ∀ (l : List (Str × Value)) (m : Str → Option Value), (∀ p ∈ l, p.1 ≠ x) → bindC kindOf l m x = m x
  | [], m, _ => rfl
  | (y, v) :: r, m, h => by
    unfold bindC
    rw [bindC_other kindOf x r _ fun p hp => h p (.tail _ hp)]
    have : x ≠ y := Ne.symm (h (y, v) (.head _))
    split
    · rfl
    · exact if_neg this
theorem zip_fst {names : List Str} {xs : List Value} {p : Str × Value} (h : p ∈ names.zip xs) : p.1 ∈ names := (List.of_mem_zip h).1
theorem bindL_zip (kindOf : Str → Option NameKind) : ∀ {names : List Str} {xs : List Value} {m : Str → Option Value} {j : Nat} {x : Str} {y : Value}, names.Nodup → names[j]? = some x → xs[j]? = some y → kindOf x = some .local → bindL kindOf (names.zip xs) m x = some y
  | [], _, _, _, _, _, _, h, _, _ => by simp at h
  | _ :: _, [], _, _, _, _, _, _, h, _ => by simp at h
  | z :: names, v :: xs, m, 0, x, y, nd, h1, h2, hk => by
    simp at h1 h2; subst h1 h2
    rw [List.zip_cons_cons]
    unfold bindL
    rw [bindL_other kindOf z _ _ fun p hp q => (List.nodup_cons.mp nd).1 (q ▸ zip_fst hp), if_pos hk, if_pos rfl]
  | z :: names, v :: xs, m, j + 1, x, y, nd, h1, h2, hk => by
    rw [List.zip_cons_cons]
    unfold bindL
    exact bindL_zip kindOf (List.nodup_cons.mp nd).2 (by simpa using h1) (by simpa using h2) hk
theorem bindC_zip (kindOf : Str → Option NameKind) : ∀ {names : List Str} {xs : List Value} {m : Str → Option Value} {j : Nat} {x : Str} {y : Value}, names.Nodup → names[j]? = some x → xs[j]? = some y → kindOf x ≠ some .local → bindC kindOf (names.zip xs) m x = some y
  | [], _, _, _, _, _, _, h, _, _ => by simp at h
  | _ :: _, [], _, _, _, _, _, _, h, _ => by simp at h
  | z :: names, v :: xs, m, 0, x, y, nd, h1, h2, hk => by
    simp at h1 h2; subst h1 h2
    rw [List.zip_cons_cons]
    unfold bindC
    rw [bindC_other kindOf z _ _ fun p hp q => (List.nodup_cons.mp nd).1 (q ▸ zip_fst hp), if_neg hk, if_pos rfl]
  | z :: names, v :: xs, m, j + 1, x, y, nd, h1, h2, hk => by
    rw [List.zip_cons_cons]
    unfold bindC
    exact bindC_zip kindOf (List.nodup_cons.mp nd).2 (by simpa using h1) (by simpa using h2) hk
theorem cellsFrom_has : ∀ (names : List (Str × NameKind)) (k : Nat) (acc : List (Str × Addr)) (x : Str), ((x, NameKind.cell) ∈ names ∨ ∃ c, (x, c) ∈ acc) → ∃ c, (x, c) ∈ cellsFrom k names acc
  | [], k, acc, x, h => by
    unfold cellsFrom
    exact h.resolve_left (by simp)
  | (y, kd) :: r, k, acc, x, h => by
    unfold cellsFrom
    split
    · rename_i q
      refine cellsFrom_has r _ _ x ?_
      rcases h with h | ⟨c, h⟩
      · rcases List.mem_cons.mp h with e | h
        · cases e; exact .inr ⟨k, .head _⟩
        · exact .inl h
      · exact .inr ⟨c, .tail _ h⟩
    · rename_i q
      refine cellsFrom_has r _ _ x ?_
      rcases h with h | h
      · rcases List.mem_cons.mp h with e | h
        · cases e; simp at q
        · exact .inl h
      · exact .inr h
theorem pair_inj : ∀ {l : List (Str × Addr)}, l.Pairwise (fun x y => x.2 ≠ y.2) → ∀ x x' c, (x, c) ∈ l → (x', c) ∈ l → x = x'
  | [], _, _, _, _, h, _ => by cases h
  | p :: r, nd, x, x', c, h1, h2 => by
    obtain ⟨n1, n2⟩ := List.pairwise_cons.mp nd
    rcases List.mem_cons.mp h1 with e1 | g1
    · rcases List.mem_cons.mp h2 with e2 | g2
      · rw [← e1] at e2; cases e2; rfl
      · subst e1; exact (n1 (x', c) g2 rfl).elim
    · rcases List.mem_cons.mp h2 with e2 | g2
      · subst e2; exact (n1 (x, c) g1 rfl).elim
      · exact pair_inj n2 x x' c g1 g2
noncomputable def start (vs : List V) (m : Nat) : Loc := vs.map some ++ List.replicate m none
theorem start_get {vs : List V} {m i : Nat} {v : V} (h : (start vs m)[i]? = some (some v)) : vs[i]? = some v := by
  unfold start at h
  rcases Nat.lt_or_ge i vs.length with q | q
  · rw [List.getElem?_append_left (by simpa using q), List.getElem?_map] at h
    obtain ⟨u, hu, e⟩ := Option.map_eq_some_iff.mp h
    cases e; exact hu
  · rw [List.getElem?_append_right (by simpa using q), List.getElem?_replicate] at h
    split at h <;> cases h
theorem par_at {f : Addr} {ss : Ss} {names : List Str} {fd : FuncData} (F : FnIs W f cx ss names fd) {h : Heap} {vs : List V} {xs : List Value} (hv : VRs h vs xs) (hl : vs.length = names.length) {m i : Nat} {x : Str} {v : V} (hx : cx.slots.lookup x = some i) (hv' : (start vs m)[i]? = some (some v)) :
    names[i]? = some x ∧ ∃ y, xs[i]? = some y ∧ VR h v y := by
  have h1 := start_get hv'
  obtain ⟨y, hy, ry⟩ := hv.get h1
  have hi : i < names.length := hl ▸ (List.getElem?_eq_some_iff.mp h1).1
  have h2 := F.params i names[i] (List.getElem?_eq_getElem hi)
  rw [slots_inj F.inj _ _ _ (mol hx) (mol h2)]
  exact ⟨List.getElem?_eq_getElem hi, y, hy, ry⟩
noncomputable def RetQ (Q : V → AH → Prop) : AF → Loc → AH → Prop
  | .ret v, _, H => Q v H
  | .next, _, H => Q .none H
  | _, _, _ => False
theorem nolimit_of {h : Heap} (R : Rel W H h) : h.NoLimit := W.nolimit.keeps fun b o e => (R.base b o e).1
theorem wc_of {f : Addr} {ss : Ss} {names : List Str} {fd : FuncData} (F : FnIs W f cx ss names fd) (hb : ∀ xs : List Value, xs.length = names.length → bindArgs fd ⟨xs, []⟩ = pure (names.zip xs)) {vs : List V} (hl : vs.length = names.length) (m : Nat) {Q : V → AH → Prop}
    (h : WSs W n cx ss (start vs m) H (RetQ Q)) : WC W (n + 1) f vs H Q := by
  intro s A X xs R hA hv
  obtain ⟨o, body, ho, hdat, hbody, hsame⟩ := F.at_
  have hlx : xs.length = names.length := by rw [← hv.length]; exact hl
  have hX := in_base R
  have kd : ∀ x, fd.scope.names.lookup x = cx.kinds.lookup x := fun x => by rw [F.kinds]
  have hkind : ∀ x ∈ names.zip xs, fd.scope.names.lookup x.1 = some .local ∨ (fd.scope.names.lookup x.1 = some .cell ∧ ((cellsFrom (s.heap.objs.size + 1) fd.scope.names []).lookup x.1).isSome = true) := fun p hp => by
    obtain ⟨j, hj⟩ := List.getElem?_of_mem (zip_fst hp)
    have := F.params j p.1 hj
    rw [kd]
    rcases F.slots p.1 j (mol this) with q | q
    · exact .inl q
    · refine .inr ⟨q, ?_⟩
      obtain ⟨c, hc⟩ := cellsFrom_has fd.scope.names (s.heap.objs.size + 1) [] p.1 (.inl (mol (by rw [kd]; exact q)))
      obtain ⟨d, hd⟩ := lookup_of_mem hc
      rw [hd]; rfl
  refine codeAny_call_cells hA.depth (hX _ _ ho) hdat (nolimit_of R) (codeRec_of hX F.code) hbody (hb xs hlx) F.clo hkind (fun s1 C => ?_) F.co F.gen F.fn
  generalize henv : callEnvC fd s.heap.objs.size f = env at C ⊢
  have hL : env.locals = s.heap.objs.size := by rw [← henv]; rfl
  have hcl : env.cells = cellsFrom (s.heap.objs.size + 1) fd.scope.names [] := by rw [← henv]; rfl
  have hsn : env.scope = fd.scope := by rw [← henv]; rfl
  have hko : ∀ x, env.kindOf x = cx.kinds.lookup x := fun x => by unfold Env.kindOf; rw [hsn]; exact kd x
  have tk : TupKeep s.heap s1.heap := fun a o e _ => C.toInCall.keep a o e
  have R1 : Rel W H s1.heap := R.grow C.toInCall.keep
  have aboveC : ∀ x c, env.cells.lookup x = some c → s.heap.objs.size < c := fun x c hc => by rw [← hL]; exact C.above x c (mol hc)
  have Fr0 : Frm W cx env (start vs m) H s1.heap := by
    refine ⟨fun x => by rw [hsn]; exact kd x, by rw [hsn]; exact F.fn, by rw [← henv]; exact F.glob, by rw [← henv]; exact F.blt, ⟨_, C.toInCall.ns, fun x i v h1 h2 h3 => ?_⟩, R.fresh C.toInCall.fresh, R.new_none C.toInCall.fresh, fun x i h1 h2 => ?_, fun x x' c h1 h2 => pair_inj C.apart _ _ _ (mol h1) (mol h2), fun x x' i h1 h2 => slots_inj F.inj _ _ _ (mol h1) (mol h2), fun c q h => by rw [← henv]; exact F.cd c q h⟩
    · obtain ⟨a, y, b, r⟩ := par_at F hv hl h1 h3
      exact ⟨y, bindL_zip _ F.nodup a b (by rw [hko]; exact h2), r.keep tk⟩
    · have hcx : cx.kinds.lookup x = some .cell := by
        rcases F.slots x i (mol h1) with q | q
        · rw [q] at h2; rcases h2 with h2 | h2 <;> cases h2
        · exact q
      obtain ⟨c0, hc0⟩ := cellsFrom_has fd.scope.names (s.heap.objs.size + 1) [] x (.inl (mol (by rw [kd]; exact hcx)))
      obtain ⟨c, hc⟩ := lookup_of_mem hc0
      rw [← hcl] at hc
      have ab := aboveC x c hc
      refine ⟨c, _, hc, by rw [hL]; exact Nat.ne_of_gt ab, R.fresh (Nat.le_of_lt ab), R.new_none (Nat.le_of_lt ab), C.cell x c hc, fun v h3 => ?_⟩
      obtain ⟨a, y, b, r⟩ := par_at F hv hl h1 h3
      exact ⟨y, bindC_zip _ F.nodup a b (by rw [hko, hcx]; simp), r.keep tk⟩
  refine anS (h body hsame env s1 _ _ R1 Fr0 hA.deeper) fun fl s2 a ρ2 H2 af q R2 F2 c2 => ?_
  have st : Step W H s H2 s2 := by
    refine ⟨R2, fun b o e hb => ?_, ?_⟩
    · refine c2.ext b o (C.toInCall.keep b o e) hb ?_ fun x i _ _ _ hc => ?_
      · rw [hL]; exact Nat.ne_of_lt (Heap.lt_size e)
      · exact Nat.lt_asymm (aboveC x b hc) (Heap.lt_size e)
    · exact SmH.trans C.toInCall.same c2.same
  cases a with
  | next => cases fl <;> first | exact af.elim | exact ⟨_, H2, .none, q, st⟩
  | brk => exact q.elim
  | cnt => exact q.elim
  | ret v => cases fl <;> first | exact af.elim | exact ⟨v, H2, af, q, st⟩
theorem wc_dflt {f : Addr} {ss : Ss} {names : List Str} {fd : FuncData} (F : FnIs W f cx ss names fd) {vs dvs : List V} {dxs : List Value} (hd : ∀ h, VRs h dvs dxs) (hno : ∀ x ∈ fd.scope.names, x.2 ≠ .cell)
    (hb : ∀ (s : Shared) (xs : List Value), W.K.In s.heap → xs.length = vs.length → BindsTo s fd ⟨xs, []⟩ (names.zip (xs ++ dxs))) (hl : vs.length + dvs.length = names.length) (m : Nat) {Q : V → AH → Prop}
    (h : WSs W n cx ss (start (vs ++ dvs) m) H (RetQ Q)) : WC W (n + 1) f vs H Q := by
  intro s A X xs R hA hv
  obtain ⟨o, body, ho, hdat, hbody, hsame⟩ := F.at_
  have hX := in_base R
  have kd : ∀ x, fd.scope.names.lookup x = cx.kinds.lookup x := fun x => by rw [F.kinds]
  have hvd := hv.append (hd s.heap)
  have hlx : (xs ++ dxs).length = names.length := by rw [← hvd.length, List.length_append]; exact hl
  have loc : ∀ x i, cx.slots.lookup x = some i → cx.kinds.lookup x = some .local := fun x i hx => by
    rcases F.slots x i (mol hx) with q | q
    · exact q
    · exact absurd rfl (hno (x, .cell) (mol (by rw [kd]; exact q)))
  have hkind : ∀ x ∈ names.zip (xs ++ dxs), fd.scope.names.lookup x.1 = some .local := fun p hp => by
    obtain ⟨j, hj⟩ := List.getElem?_of_mem (zip_fst hp)
    rw [kd]; exact loc p.1 j (F.params j p.1 hj)
  refine codeAny_call_def hA.depth (hX _ _ ho) hdat (nolimit_of R) (codeRec_of hX F.code) hbody (hb s xs hX hv.length.symm) hno hkind (fun h₀ hns keep => ?_) F.co F.gen F.fn
  generalize henv : callEnv fd s.heap.objs.size f = env
  have hL : env.locals = s.heap.objs.size := by rw [← henv]; rfl
  have hsn : env.scope = fd.scope := by rw [← henv]; rfl
  have tk : TupKeep s.heap h₀ := fun a o e _ => keep a o e
  have R1 : Rel W H h₀ := R.grow keep
  have look : ∀ (ns : List Str) (ys : List Value) (j : Nat) (x : Str) (y : Value), ns.Nodup → ns[j]? = some x → ys[j]? = some y → (ns.zip ys).reverse.lookup x = some y := by
    intro ns
    induction ns with
    | nil => intro ys j x y _ h _; simp at h
    | cons z ns ih =>
      intro ys j x y nd h1 h2
      cases ys with
      | nil => simp at h2
      | cons v ys =>
        rw [List.zip_cons_cons, List.reverse_cons, List.lookup_append]
        cases j with
        | zero =>
          simp at h1 h2; subst h1 h2
          have : (ns.zip ys).reverse.lookup z = none := by
            cases q : (ns.zip ys).reverse.lookup z with
            | none => rfl
            | some w => exact absurd (zip_fst (List.mem_reverse.mp (mol q))) (List.nodup_cons.mp nd).1
          rw [this]; simp
        | succ j =>
          rw [ih ys j x y (List.nodup_cons.mp nd).2 (by simpa using h1) (by simpa using h2)]; rfl
  have Fr0 : Frm W cx env (start (vs ++ dvs) m) H h₀ := by
    refine ⟨fun x => by rw [hsn]; exact kd x, by rw [hsn]; exact F.fn, by rw [← henv]; exact F.glob, by rw [← henv]; exact F.blt, ⟨_, by rw [hL]; exact hns, fun x i v h1 h2 h3 => ?_⟩, by rw [hL]; exact R.fresh (Nat.le_refl _), by rw [hL]; exact R.new_none (Nat.le_refl _), fun x i h1 h2 => ?_, fun x x' c h1 h2 => ?_, fun x x' i h1 h2 => slots_inj F.inj _ _ _ (mol h1) (mol h2), fun c q h => by rw [← henv]; exact F.cd c q h⟩
    · obtain ⟨a, y, b, r⟩ := par_at F hvd (by rw [List.length_append]; exact hl) h1 h3
      exact ⟨y, look _ _ i x y F.nodup a b, r.keep tk⟩
    · rw [loc x i h1] at h2; rcases h2 with h2 | h2 <;> cases h2
    · have : env.cells = [] := by rw [← henv]; exact F.clo
      rw [this] at h1; cases h1
  refine anS (h body hsame env _ _ _ R1 Fr0 hA.deeper) fun fl s2 a ρ2 H2 af q R2 F2 c2 => ?_
  have st : Step W H s H2 s2 := by
    refine ⟨R2, fun b o e hb => ?_, ?_⟩
    · refine c2.ext b o (keep b o e) hb ?_ fun x i _ _ _ hc => ?_
      · rw [hL]; exact Nat.ne_of_lt (Heap.lt_size e)
      · have : env.cells = [] := by rw [← henv]; exact F.clo
        rw [this] at hc; cases hc
    · exact SmH.trans ⟨_, _, rfl⟩ c2.same
  cases a with
  | next => cases fl <;> first | exact af.elim | exact ⟨_, H2, .none, q, st⟩
  | brk => exact q.elim
  | cnt => exact q.elim
  | ret v => cases fl <;> first | exact af.elim | exact ⟨v, H2, af, q, st⟩
end
section
variable {W : Wd} {n : Nat} {cx : Cx} {ρ : Loc} {H : AH}
theorem op_list_add {a b : Addr} {l k : List V} {Q : V → AH → Prop} (hH : H a = some (.list l)) (hK : H b = some (.list k)) (hl : l.length ≤ 1000) (hk : k.length ≤ 1000) (h : ∀ c, H c = none → Q (.ref c) (upd H c (.list (l ++ k)))) : OpOk W n .Add (.ref a) (.ref b) H Q := by
  intro s A X x y R hA r1 r2
  cases vr_ref r1
  cases vr_ref r2
  obtain ⟨its, m, e, r, hsz⟩ := (R.objs _ _ hH).list_at
  obtain ⟨its2, m2, e2, r', hsz2⟩ := (R.objs _ _ hK).list_at
  have hz : its.size + its2.size ≤ sizeLine := by rw [hsz, hsz2, sizeLine_eq]; exact Nat.le_trans (Nat.add_le_add hl hk) (by decide)
  refine concat_meets ⟨_, e, rfl⟩ ⟨_, e2, rfl⟩ noFill_list_add seq_list_add PySem.F.slot_list_add PySem.F.entry_list_add (PySem.F.args_list_add_2 _ _) (list_addW a b its its2 m m2 none none #[] #[] hz) ⟨e, e2, ?_⟩
  have ea : its ++ its2 = (its.toList ++ its2.toList).toArray := by simp
  rw [ea]
  exact new_list R (r.append r') h
theorem op_tup_add {l k : List V} {Q : V → AH → Prop} (h1 : l ≠ []) (h2 : k ≠ []) (hl : l.length ≤ 1000) (hk : k.length ≤ 1000) (h : Q (.tup (l ++ k)) H) : OpOk W n .Add (.tup l) (.tup k) H Q := by
  intro s A X x y R hA r1 r2
  obtain ⟨a, its, rfl, ⟨o1, e1, c1, m1, d1⟩, r⟩ := vr_tup r1
  obtain ⟨b, its2, rfl, ⟨o2, e2, c2, m2, d2⟩, r'⟩ := vr_tup r2
  have hsz : its.size = l.length := by have := r.length; rw [← Array.length_toList]; lia
  have hsz2 : its2.size = k.length := by have := r'.length; rw [← Array.length_toList]; lia
  have hz : its.size + its2.size ≤ sizeLine := by rw [hsz, hsz2, sizeLine_eq]; exact Nat.le_trans (Nat.add_le_add hl hk) (by decide)
  have g1 : ¬ its.isEmpty = true := by
    unfold Array.isEmpty; rw [decide_eq_true_eq, hsz]; intro q; exact h1 (List.eq_nil_of_length_eq_zero q)
  have g2 : ¬ its2.isEmpty = true := by
    unfold Array.isEmpty; rw [decide_eq_true_eq, hsz2]; intro q; exact h2 (List.eq_nil_of_length_eq_zero q)
  obtain ⟨cls1, dd1, data1, sl1⟩ := o1
  obtain ⟨cls2, dd2, data2, sl2⟩ := o2
  simp only at c1 d1 c2 d2
  subst c1 d1 c2 d2
  refine concat_meets ⟨_, e1, rfl⟩ ⟨_, e2, rfl⟩ noFill_tuple_add seq_tuple_add PySem.F.slot_tuple_add PySem.F.entry_tuple_add (PySem.F.args_tuple_add_2 _ _) (tuple_addW2 a b its its2 m1 m2 dd1 dd2 sl1 sl2 g1 g2 hz) ⟨e1, e2, ?_⟩
  have ea : its ++ its2 = (its.toList ++ its2.toList).toArray := by simp
  rw [ea]
  exact new_tup R (r.append r') h
theorem op_list_mul {a : Addr} {v : V} {k : Nat} {Q : V → AH → Prop} (hH : H a = some (.list [v])) (hk : k ≤ 1000) (h : ∀ c, H c = none → Q (.ref c) (upd H c (.list (List.replicate k v)))) : OpOk W n .Mult (.ref a) (.int k) H Q := by
  obtain ⟨i, hi⟩ : ∃ i : Int, i = k := ⟨_, rfl⟩
  rw [← hi]
  intro s A X x y R hA r1 r2
  cases vr_ref r1
  obtain ⟨u, rfl⟩ := vr_int r2
  obtain ⟨its, m, e, r, hsz⟩ := (R.objs _ _ hH).list_at
  obtain ⟨y, ey, ry⟩ := r.one_inv
  have hsz1 : its.size = 1 := hsz
  have hfit : Builtin.List.listFitsIndex i = true := by unfold Builtin.List.listFitsIndex; simp only [Bool.and_eq_true, decide_eq_true_eq]; lia
  have hik : i.toNat = k := by lia
  have q1 : ¬(!Builtin.List.listFitsIndex i) = true := by rw [hfit]; decide
  have q2 : ¬ its.size * i.toNat > (2 ^ 63 - 1) / 8 := by rw [hsz1, hik]; lia
  have q3 : ¬ Builtin.List.listTooLong (its.size * i.toNat) = true := by
    rw [hsz1, hik]; unfold Builtin.List.listTooLong
    rw [decide_eq_true_eq, sizeLine_eq]; lia
  refine wpAny_binaryOp_repeat_ref (T := "list") (U := "int") (by decide) ⟨_, e, rfl⟩ (fun s' => typeIs_int s' i u) noFill_list_mul PySem.F.fills_int_mul PySem.F.slot_int_rmul repeat_list PySem.F.slot_int_index.lookup
    (call_meets PySem.F.slot_int_rmul (typeIs_int s i u) PySem.F.entry_int_rmul (PySem.F.args_int_rmul_2 _ _) (int___rmul___int_list i u a its m)
      ⟨e, rfl, ⟨_, e, rfl⟩, call_meets PySem.F.slot_list_mul ⟨_, e, rfl⟩ PySem.F.entry_list_mul (PySem.F.args_list_mul_2 _ _)
        (PySem.AutoListH.list___mul___list_int_3 a its m i u q1 q2 q3) ⟨e, ?_⟩⟩)
  have hne : its.isEmpty = false := by unfold Array.isEmpty; rw [hsz1]; rfl
  rw [hne]
  rw [if_neg Bool.false_ne_true]
  rw [hik]
  have ea : List.foldl (fun x1 x2 => x1 ++ x2) #[] (List.replicate k its) = (List.replicate k y).toArray := by
    have ei : its = #[y] := by rw [← Array.toList_inj]; exact ey
    rw [ei]
    have : ∀ (j : Nat) (acc : Array Value), List.foldl (fun x1 x2 => x1 ++ x2) acc (List.replicate j #[y]) = acc ++ (List.replicate j y).toArray := by
      intro j
      induction j with
      | zero => intro acc; simp
      | succ j ih => intro acc; rw [List.replicate_succ, List.foldl_cons, ih, List.replicate_succ]; apply Array.toList_inj.mp; simp
    rw [this]; simp
  rw [ea]
  have rr : VRs s.heap (List.replicate k v) (List.replicate k y) := by
    clear ea q2 q3 hik hi hk h
    induction k with
    | zero => exact .nil
    | succ k ih => rw [List.replicate_succ, List.replicate_succ]; exact .cons ry ih
  exact new_list R rr h
noncomputable def isBoolV : V → Option Bool
  | .none => some false
  | .int _ => some false
  | .bool _ => some true
  | .tup _ => some false
  | _ => none
theorem wv_isb {v : V} {r : Bool} {Q : Value → Shared → Prop} {s : Shared} {A : Around} {X : Value → Shared → Prop} {y : Value} (hv : isBoolV v = some r) (hr : VR s.heap v y) (h : ∀ t, Q (.bool r) { s with toks := t }) : wpAny W.M A (PySem.call (.builtin "isinstance") [y, .type "bool"]) Q X s := by
  cases hr with
  | none => cases hv; exact PySem.IsiPair.NoneType_bool (h _)
  | bool b => cases hv; exact PySem.IsiPair.bool_bool (h s.toks)
  | int i t => cases hv; exact PySem.IsiPair.int_bool (h _)
  | str _ _ => cases hv
  | tup e r => cases hv; obtain ⟨o, e1, e2, _⟩ := e; exact PySem.IsiPair.tuple_bool e1 e2 (h _)
  | ref a => cases hv
theorem we_isb {a : E} {Q : V → AH → Prop} (h : WE W n cx a ρ H fun v H1 => ∃ r, isBoolV v = some r ∧ Q (.bool r) H1) : WE W n cx (.isb a) ρ H Q := by
  intro x hx env s A X R F hA
  apply e_isb hx
  intro fn p1 y z p2 p3 h1 h2 h3 h4 h5 h6 h7 h8
  obtain ⟨e1, _⟩ := star_cons (x := y) (r := [.Name z p2]) (env := env) h4
  have e2 : starEach [y, .Name z p2] env = [(false, eval y env), (false, eval (.Name z p2) env)] := by
    rw [e1]; rfl
  refine Call_Name (trees := [(false, eval y env), (false, eval (.Name z p2) env)]) (by rw [e2]; rfl) (eval_glob R F h2 h1 (.inr (W.gok _ _ h3)) ?_)
  refine callWith_of (P := fun h => W.K.In h) rfl keeps_blt (Calls.evalArgs_plain (Calls.spliced_cons (an (h y h8 env s A X R F hA) fun v s1 v1 H1 a1 w3s1 c1 => ?_)))
  obtain ⟨r, b1, b2⟩ := w3s1
  refine Calls.spliced_cons (eval_glob c1.rel (c1.frm R F) h6 h5 (.inr (W.gok _ _ h7)) (Calls.spliced_nil ⟨in_base c1.rel, ?_⟩))
  exact wv_isb b1 a1 fun t => ec (.bool r) b2 (c1.tok t)
noncomputable def emptyOf : DK → O
  | .i => .idict []
  | .s => .sdict []
  | .t => .tdict [] none
theorem empty_or {h : Heap} {k : DK} : OR W (h.push { cls := .type "dict", data := .dict #[] }) h.objs.size (emptyOf k) := by
  cases k with
  | i => exact OR.of_idict (Heap.DictOf.new h) .nil
  | s => exact OR.of_sdict (Heap.DictOf.new h) .nil
  | t => exact OR.of_tdict (xs := []) (Heap.DictOfH.new h) .nil
theorem we_dict_nil {k : DK} {Q : V → AH → Prop} (h : ∀ c, H c = none → Q (.ref c) (upd H c (emptyOf k))) : WE W n cx (.dict k .nil .nil) ρ H Q := by
  intro x hx env s A X R F hA
  apply e_dict hx
  intro ks vs p h1 h2 h3 h4
  cases os_nil h1
  cases es_nil h2
  exact wpAny_Dict_empty (ec (.ref _) (h _ (R.fresh (Nat.le_refl _))) (Step.make (tk := s.toks) R (Nat.le_refl _) (fun b _ e => Heap.get?_push_of_some _ e) empty_or))
noncomputable def WPairs (W : Wd) (n : Nat) (cx : Cx) : Es → Es → Loc → AH → (List (V × V) → AH → Prop) → Prop
  | .nil, .nil, _, H, Q => Q [] H
  | .cons k ks, .cons v vs, ρ, H, Q => WE W n cx k ρ H fun kv H1 => WE W n cx v ρ H1 fun vv H2 => WPairs W n cx ks vs ρ H2 fun l H3 => Q ((kv, vv) :: l) H3
  | _, _, _, _, _ => False
noncomputable def pairsOf (env : Env) (pos : Pos) : List (Option Expr) → List Expr → List (Sem Value × Sem Value)
  | some x :: xs, y :: ys => (eval x env, do let v ← eval y env; standAt pos; pure v) :: pairsOf env pos xs ys
  | _, _ => []
inductive VR2 (h : Heap) : List (V × V) → List (Value × Value) → Prop
  | nil : VR2 h [] []
  | cons {a b : V} {x y : Value} {l : List (V × V)} {m : List (Value × Value)} : VR h a x → VR h b y → VR2 h l m → VR2 h ((a, b) :: l) ((x, y) :: m)
theorem pairs_go {env : Env} {pos : Pos} : ∀ {ks vs : Es} {ρ : Loc} {H : AH} {Q : List (V × V) → AH → Prop}, WPairs W n cx ks vs ρ H Q → ∀ (xs : List (Option Expr)) (ys : List Expr), sameOs W.gt W.attr cx ks xs = true → sameEs W.gt W.attr cx vs ys = true →
    ∀ (s : Shared) (A : Around) (X : Value → Shared → Prop), Rel W H s.heap → Frm W cx env ρ H s.heap → AOk n A →
    wpAny W.M A (evalPairs (pairsOf env pos xs ys)) (fun zs s' => ∃ l H', VR2 s'.heap l zs ∧ Q l H' ∧ Step W H s H' s') X s
  | .nil, .nil, ρ, H, Q, h, xs, ys, h1, h2, s, A, X, R, F, hA => by
    cases os_nil h1
    exact evalPairs_nil ⟨[], H, .nil, h, Step.refl R⟩
  | .cons k ks, .cons v vs, ρ, H, Q, h, xs, ys, h1, h2, s, A, X, R, F, hA => by
    obtain ⟨x, xs, rfl, p1, p2⟩ := os_cons h1
    obtain ⟨y, ys, rfl, p3, p4⟩ := es_cons h2
    refine evalPairs_cons (an ((h : WE W n cx k ρ H _) x p1 env s A X R F hA) fun kv s1 v1 H1 a1 b1 c1 => ?_)
    refine wpAny_bind (an (b1 y p3 env s1 A X c1.rel (c1.frm R F) hA) fun vv s2 v2 H2 a2 b2 c2 => ?_)
    have c12 := c1.trans c2
    refine wpAny_bind (wpAny_standAt (wpAny_pure (wpAny_mono (pairs_go b2 xs ys p2 p4 s2 A X c2.rel (c12.frm R F) hA) (fun zs s3 ⟨l, H3, a3, b3, c3⟩ => ?_) fun _ _ z => z)))
    exact ⟨_, H3, .cons ((c2.trans c3).vr c1.rel a1) (c3.vr c2.rel a2) a3, b3, c12.trans c3⟩
  | .nil, .cons _ _, _, _, _, h, _, _, _, _, _, _, _, _, _, _ => h.elim
  | .cons _ _, .nil, _, _, _, h, _, _, _, _, _, _, _, _, _, _ => h.elim
theorem pairs_shape {env : Env} {pos : Pos} : ∀ {ks : Es} {xs : List (Option Expr)} {ys : List Expr}, sameOs W.gt W.attr cx ks xs = true → xs.length = ys.length →
    (evalEachOpt xs env).zip ((evalEach ys env).map fun v => do let x ← v; standAt pos; pure x) = (pairsOf env pos xs ys).map fun p => (some p.1, p.2)
  | .nil, _, ys, h, hl => by
    cases os_nil h
    cases List.length_eq_zero_iff.mp hl.symm
    rfl
  | .cons k ks, _, ys, h, hl => by
    obtain ⟨x, xs, rfl, _, h2⟩ := os_cons h
    cases ys with
    | nil => exact absurd hl (Nat.succ_ne_zero _)
    | cons y ys => exact congrArg (_ :: ·) (pairs_shape (env := env) (pos := pos) h2 (Nat.succ.inj hl))
theorem pairs_len {env : Env} {pos : Pos} : ∀ {ks : Es} {xs : List (Option Expr)} {ys : List Expr}, sameOs W.gt W.attr cx ks xs = true → xs.length = ys.length → (pairsOf env pos xs ys).length = xs.length
  | .nil, _, ys, h, hl => by
    cases os_nil h
    cases List.length_eq_zero_iff.mp hl.symm
    rfl
  | .cons k ks, _, ys, h, hl => by
    obtain ⟨x, xs, rfl, _, h2⟩ := os_cons h
    cases ys with
    | nil => exact absurd hl (Nat.succ_ne_zero _)
    | cons y ys => exact congrArg (· + 1) (pairs_len (env := env) (pos := pos) h2 (Nat.succ.inj hl))
section
variable {K : Type} [DecidableEq K]
noncomputable def amerge {α : Type} (l m : List (K × α)) : List (K × α) := m.foldl (fun acc kv => astore acc kv.1 kv.2) l
theorem PR.merge {h : Heap} {l' : List (K × V)} {m' : List (K × Value)} (y : PR h l' m') : ∀ {l : List (K × V)} {m : List (K × Value)}, PR h l m → PR h (amerge l l') (merged m m') := by
  induction y with
  | nil => exact fun x => x
  | @cons k v x' l' m' r _ ih => intro l m x; exact ih (x.store k r)
theorem carries_of {knd : KeyKind W.prog W.w K} {kv : K → V} (hkv : ∀ h k y, VR h (kv k) y → knd.is k y = true) {h : Heap} : ∀ {ls : List (K × V)} {zs : List (Value × Value)}, VR2 h (ls.map fun p => (kv p.1, p.2)) zs → ∃ kvs, Carries knd zs kvs ∧ PR h ls kvs
  | [], _, r => by cases r; exact ⟨[], trivial, .nil⟩
  | (k, v) :: ls, _, r => by
    cases r with
    | cons r1 r2 r3 =>
      obtain ⟨kvs, a, b⟩ := carries_of hkv r3
      exact ⟨_ :: kvs, ⟨hkv _ _ _ r1, rfl, a⟩, .cons r2 b⟩
theorem dict_go {knd : KeyKind W.prog W.w K} {kv : K → V} (hkv : ∀ h k y, VR h (kv k) y → knd.is k y = true) {mk : List (K × V) → O} (hmk : ∀ h a l kvs, h.DictOf knd a kvs → PR h l kvs → OR W h a (mk l)) {dk : DK} {ks vs : Es} {Q : V → AH → Prop} (hne : ks ≠ .nil)
    (h : WPairs W n cx ks vs ρ H fun l H1 => ∃ ls : List (K × V), l = ls.map (fun p => (kv p.1, p.2)) ∧ ∀ c, H1 c = none → Q (.ref c) (upd H1 c (mk (amerge [] ls)))) : WE W n cx (.dict dk ks vs) ρ H Q := by
  intro x hx env s A X R F hA
  apply e_dict hx
  intro xs ys pos h1 h2 h3 h4
  have hl := pairs_len (W := W) (cx := cx) (env := env) (pos := pos) h1 h3
  have c0 := Step.push R { cls := .type "dict", data := .dict #[] }
  have d0 : (s.heap.push { cls := .type "dict", data := .dict #[] }).get? s.heap.objs.size = some { cls := .type "dict", data := .dict #[] } := Heap.get?_push_size _ rfl
  have hD : H s.heap.objs.size = none := R.fresh (Nat.le_refl _)
  refine wpAny_Dict_pairs (knd := knd) (pairs_shape h1 h3) (fun q => hne ?_) (by lia) (wpAny_mono (pairs_go h xs ys h1 h2 _ A X c0.rel (c0.frm R F) hA) (fun zs s1 ⟨l, H1, r, ⟨ls, e, q⟩, c1⟩ => ?_) fun _ _ z => z)
  · rw [q] at hl
    cases xs with
    | nil => cases ks with
      | nil => rfl
      | cons _ _ => obtain ⟨_, _, e, _⟩ := os_cons h1; cases e
    | cons _ _ => cases hl
  · subst e
    obtain ⟨kvs, ca, pr⟩ := carries_of hkv r
    have dk := c1.ext _ _ d0 hD
    refine ⟨kvs, ca, ?_, fun h' d' sb => ?_⟩
    · obtain ⟨o, es, ep, e, r⟩ := Heap.DictOf.new (knd := knd) s.heap
      rw [d0] at e; cases e
      exact ⟨_, es, ep, dk.1, r⟩
    · have eb : Heap.ExtBut s.heap.objs.size s1.heap h' := fun x o hne q => (sb.2 x hne).trans q
      have ntD : ∀ o, s1.heap.get? s.heap.objs.size = some o → ¬ isTup o := fun o e ht => by rw [dk.1] at e; cases e; exact absurd ht.1 (by simp)
      have tk : TupKeep s1.heap h' := fun a o e ht => eb a o (by rintro rfl; exact ntD o e ht) e
      have bn : W.base.get? s.heap.objs.size = none := R.new_none (Nat.le_refl _)
      refine ec (.ref _) (q _ dk.2) ⟨c1.rel.set bn ntD eb (hmk _ _ _ _ d' ((PR.merge pr .nil).keep tk)), fun b o e hb => ?_, ?_⟩
      · have hne : b ≠ s.heap.objs.size := Nat.ne_of_lt (Heap.lt_size e)
        have := c0.ext b o e hb
        obtain ⟨z1, z2⟩ := c1.ext b o this.1 this.2
        exact ⟨eb b o hne z1, by rw [upd_ne _ _ hne]; exact z2⟩
      · exact c1.same.trans ⟨_, _, rfl⟩
end
theorem we_dict_i {ks vs : Es} {Q : V → AH → Prop} (hne : ks ≠ .nil) (h : WPairs W n cx ks vs ρ H fun l H1 => ∃ ls : List (Int × V), l = ls.map (fun p => (.int p.1, p.2)) ∧ ∀ c, H1 c = none → Q (.ref c) (upd H1 c (.idict (amerge [] ls)))) : WE W n cx (.dict .i ks vs) ρ H Q :=
  dict_go (knd := intKind W.prog W.w) (kv := .int) (fun h k y r => by obtain ⟨t, rfl⟩ := vr_int r; exact int_is k t) (fun _ _ _ _ d p => OR.of_idict d p) hne h
theorem we_dict_s {ks vs : Es} {Q : V → AH → Prop} (hne : ks ≠ .nil) (h : WPairs W n cx ks vs ρ H fun l H1 => ∃ ls : List (Str × V), l = ls.map (fun p => (.str p.1, p.2)) ∧ ∀ c, H1 c = none → Q (.ref c) (upd H1 c (.sdict (amerge [] ls)))) : WE W n cx (.dict .s ks vs) ρ H Q :=
  dict_go (knd := strKind W.prog W.w) (kv := .str) (fun h k y r => by obtain ⟨t, rfl⟩ := vr_str r; exact strKind_is _ _ k t) (fun _ _ _ _ d p => OR.of_sdict d p) hne h
end
section
variable {W : Wd} {n : Nat} {cx : Cx} {ρ : Loc} {H : AH}
theorem erase_filter {K α : Type} [DecidableEq K] {k : K} : ∀ {xs : List (K × α)} {j : Nat} {p : α}, (xs.map (·.1)).Nodup → xs[j]? = some (k, p) → xs.eraseIdx j = xs.filter fun x => decide (x.1 ≠ k)
  | [], _, _, _, h => by simp at h
  | (k', q) :: xs, 0, p, nd, h => by
    simp at h
    obtain ⟨rfl, rfl⟩ := h
    simp only [List.map_cons, List.nodup_cons] at nd
    have : xs.filter (fun x => decide (x.1 ≠ k')) = xs := List.filter_eq_self.mpr fun x hx => by
      simp only [ne_eq, decide_not, Bool.not_eq_true', decide_eq_false_iff_not]
      rintro e
      exact nd.1 (e ▸ List.mem_map_of_mem hx)
    simp [List.filter_cons]
    exact (List.filter_eq_self.mpr fun x hx => by
      simp only [Bool.not_eq_true', decide_eq_false_iff_not]
      rintro e
      exact nd.1 (e ▸ List.mem_map_of_mem hx)).symm
  | (k', q) :: xs, j + 1, p, nd, h => by
    simp only [List.map_cons, List.nodup_cons] at nd
    have h' : xs[j]? = some (k, p) := by simpa using h
    have ne : k' ≠ k := by
      rintro rfl
      exact nd.1 (List.mem_map.mpr ⟨_, List.mem_of_getElem? h', rfl⟩)
    have ih := erase_filter nd.2 h'
    rw [List.eraseIdx_cons_succ, ih, List.filter_cons]
    simp [ne]
theorem erase_map {α β : Type} (f : α → β) : ∀ (l : List α) (i : Nat), (l.map f).eraseIdx i = (l.eraseIdx i).map f
  | [], _ => rfl
  | _ :: _, 0 => rfl
  | x :: l, i + 1 => by
    show f x :: (l.map f).eraseIdx i = f x :: (l.eraseIdx i).map f
    rw [erase_map f l i]
theorem flat_filter {K : Type} [DecidableEq K] (xs : List (K × Addr × Value)) (k : K) : flat (xs.filter fun x => decide (x.1 ≠ k)) = without (flat xs) k := by
  unfold flat without
  rw [List.filter_map]
  rfl
theorem wv_pop_t {a : Addr} {l : List (List Int × V)} {ep : Option Nat} {k : List Int} {v : V} {Q : V → AH → Prop} (hH : H a = some (.tdict l ep)) (hl : l.length ≤ 1000) (hv : alook l k = some v) (h : Q v (upd H a (.tdict (adel l k) none))) :
    WV W n (.builtin "dict.pop") [.ref a, tupI k] H Q := by
  intro s A X xs R hA hvs
  obtain ⟨x, y, rfl, r1, r2⟩ := hvs.two_inv
  cases vr_ref r1
  obtain ⟨b, rfl, hb⟩ := vr_key (W := W) r2
  obtain ⟨xs, d, p⟩ := (R.objs _ _ hH).tdict_pr
  have hT := d.typeIs
  obtain ⟨o, es, e0, ho, hx, hdat, he, his, hn⟩ := id d
  have hlen : xs.length = l.length := by have := p.length; unfold flat at this; rw [List.length_map] at this; lia
  have hsz : es.size = xs.length := size_of_entries he
  rcases p.look k with ⟨q, _⟩ | ⟨v', y', q1, q2, q3⟩
  · rw [q] at hv; cases hv
  rw [hv] at q1; cases q1
  refine wpAny_call_entry PySem.F.slot_dict_pop hT PySem.F.entry_dict_pop ?_ (PySem.F.args_dict_pop_2 _ _)
  unfold Builtin.«dict.pop»
  refine wpAny_bind ?_
  unfold Builtin.Dict.keyAndDefault
  refine wpAny_bind (wpAny_notOrdered_dict hT ?_)
  show wpAny _ _ (pure (a, Value.ref b, none)) _ _ s
  refine wpAny_pure ?_
  have hne : es.isEmpty = false := by
    have : ¬ xs = [] := by
      rintro rfl
      simp [flat, valueAt] at q2
    have : es.size ≠ 0 := by rw [hsz]; intro q; exact this (List.eq_nil_of_length_eq_zero q)
    unfold Array.isEmpty; exact decide_eq_false this
  refine wpAny_bind ?_
  refine wpAny_dictEntries ho hdat (wpAny_bind (wpAny_pure ?_))
  rw [hne]
  simp only [Bool.false_eq_true, if_false]
  refine wpAny_bind ?_
  unfold Builtin.Dict.takeOut
  try with_reducible refine wpAny_holding ?_
  refine wpAny_bind ((tupleKind (intKind W.prog W.w)).pyHash hA.room1 hb ?_)
  refine wpAny_bind (wpAny_dictFind_heap (knd := tupleKind (intKind W.prog W.w)) (s := { s with toks := s.toks + (tupleKind (intKind W.prog W.w)).draws k }) hA.room1 hb ho hdat he his hn (fun hno => ?_) fun j pp hj => ?_)
  · exfalso
    rw [← atKey_flat] at q2
    obtain ⟨pp, q4, _⟩ := Option.map_eq_some_iff.mp q2
    unfold atKey at q4
    obtain ⟨z, q5, q6⟩ := Option.map_eq_some_iff.mp q4
    have q7 := List.find?_some q5
    obtain ⟨j, hj⟩ := List.getElem?_of_mem (List.mem_of_find?_eq_some q5)
    obtain ⟨z1, z2⟩ := z
    simp only [decide_eq_true_eq] at q7
    subst q7
    exact hno j z2 hj
  · have hej : es[j]? = some (entryOfKey (tupleKind (intKind W.prog W.w)) (k, pp)) := by rw [entry_at he j, hj]; rfl
    refine wpAny_bind (wpAny_dictEntries ho hdat ?_)
    rw [hej]
    have hsz1 : es.size ≤ sizeLine := by rw [hsz, hlen, sizeLine_eq]; lia
    have hjl : j < es.size := ga_lt hej
    have hfs : (es.eraseIdxIfInBounds j).size ≤ es.size + 1 := by
      unfold Array.eraseIdxIfInBounds; rw [dif_pos hjl]; rw [Array.size_eraseIdx]; lia
    refine wpAny_bind (wpAny_updateDictKeys (hz := hsz1) ho hdat ?_ hfs)
    refine wpAny_pure ?_
    simp only [Option.isNone_some, Bool.false_eq_true, if_false]
    have hel : (es.eraseIdxIfInBounds j).toList = (xs.eraseIdx j).map (entryOfKey (tupleKind (intKind W.prog W.w))) := by
      unfold Array.eraseIdxIfInBounds; rw [dif_pos hjl, Array.toList_eraseIdx, he, erase_map]
    have sb := Heap.SameBut.update s.heap a (Obj.mapDictKeys fun es => es.eraseIdxIfInBounds j)
    have g := Heap.get?_update_self (h := s.heap) (a := a) (Obj.mapDictKeys fun es => es.eraseIdxIfInBounds j) ho (Obj.isFreed_of_dict (Obj.data_mapDictKeys hdat _))
    have hdat' := Obj.data_mapDictKeys hdat (fun es => es.eraseIdxIfInBounds j)
    have hf := erase_filter hn hj
    have d' : (s.heap.update a (Obj.mapDictKeys fun es => es.eraseIdxIfInBounds j)).DictOfH (tupleKind (intKind W.prog W.w)) a (xs.filter fun x => decide (x.1 ≠ k)) := by
      refine ⟨_, _, _, g, hx.mapDictKeys _, hdat', ?_, fun x hx' => ?_, ?_⟩
      · rw [← hf]; exact hel
      · exact (tupleKind (intKind W.prog W.w)).keeps (his x (List.mem_filter.mp hx').1) ho hdat sb
      · exact hn.sublist (List.Sublist.map _ List.filter_sublist)
    obtain ⟨k1, k2⟩ := dict_kept ho hx.1 sb
    have pr : PR (s.heap.update a (Obj.mapDictKeys fun es => es.eraseIdxIfInBounds j)) (adel l k) (flat (xs.filter fun x => decide (x.1 ≠ k))) := by
      rw [flat_filter]; exact (p.del k).keep k2
    have hpv : pp.2 = y' := by
      have : valueAt (flat xs) k = some pp.2 := by
        rw [← atKey_flat]
        have : atKey xs k = some pp := by
          unfold atKey
          have key : ∀ (ys : List (List Int × Addr × Value)) (i : Nat), (ys.map (·.1)).Nodup → ys[i]? = some (k, pp) → (ys.find? fun x => decide (x.1 = k)).map (·.2) = some pp := by
            intro ys
            induction ys with
            | nil => intro i _ h; simp at h
            | cons z ys ih =>
              intro i nd h
              simp only [List.map_cons, List.nodup_cons] at nd
              cases i with
              | zero => simp at h; subst h; simp
              | succ i =>
                have h' : ys[i]? = some (k, pp) := by simpa using h
                have ne : z.1 ≠ k := by
                  intro q
                  exact nd.1 (q ▸ List.mem_map.mpr ⟨_, List.mem_of_getElem? h', rfl⟩)
                rw [List.find?_cons]
                simp only [ne, decide_false]
                exact ih i nd.2 h'
          exact key xs j hn hj
        rw [this]; rfl
      rw [this] at q2; cases q2; rfl
    refine wpAny_bind (wpAny_letGo (wpAny_pure ⟨y', ?_, ?_⟩))
    · show Fin.done (Flow.ret pp.2) = _
      rw [hpv]
    · exact ec (q3.keep k2) h (Step.store (tk := s.toks + (tupleKind (intKind W.prog W.w)).draws k) R hH k1 (OR.of_tdict d' pr))
theorem keys_miss : typeLookup (.type "list") "keys" = pure none := am_miss_of_fast (by decide +kernel)
theorem getAttrBy_miss {A : Around} {E : Value → Shared → Prop} {s : Shared} {a : Addr} {xs : Array Value} {k : Nat} {u : Tok} {Q : Value → Shared → Prop}
    (hx : s.heap.get? a = some ⟨.type "list", none, .seq xs k, #[]⟩) (hA : A.handled = none)
    (h : ∀ h' tk e, Heap.NewExcOf s.heap h' e "AttributeError" → E (.ref e) { s with heap := h', toks := tk }) :
    wpAny W.M A (getAttrBy (.ref a) (.str "keys" u) false) Q E s := by
  have hmiss := keys_miss
  have hname : (["__module__", "__name__", "__qualname__", "__doc__", "__annotations__"] : List Str).contains "keys" = false := by decide +kernel
  obtain ⟨hp, g, d, tk, os⟩ := s
  have hT : ∀ tk', (⟨hp, g, d, tk', os⟩ : Shared).TypeIs (.ref a) "list" := fun _ => ⟨_, hx, rfl⟩
  have f1 := sub_AttributeError
  have f3 := PySem.F.slot_list_getattribute.lookup
  have f4 := PySem.F.slot_list_getattribute.bind (.ref a)
  have f5 := am_list_getattr_none
  unfold getAttrBy
  repeat (any_goals (first | assumption | exact hT _ | ((with_reducible show wpAny _ _ (call (Value.builtin "list.__getattribute__") _ _) _ _ _); refine call_meets PySem.F.slot_list_getattribute (hT _) am_entry_list_getattribute (PySem.F.args_list_getattribute_2 _ _) (meets_getattribute_miss_list a xs k #[] "keys" _ hmiss hname) ⟨hx, hA, fun h' tk' e hx' => ?_⟩) | wp_step))
  obtain ⟨t', u', he⟩ := hx'.there
  show wpAny _ _ (getattributeRaised _ _ _ _ _ _ _) _ _ _
  unfold getattributeRaised
  repeat (any_goals (first | assumption | wp_step))
  exact h _ _ _ hx'.of
theorem keys_none {A : Around} {E : Value → Shared → Prop} {s : Shared} {a : Addr} {xs : Array Value} {k : Nat} {Q : Option Value → Shared → Prop}
    (hx : s.heap.get? a = some ⟨.type "list", none, .seq xs k, #[]⟩) (hA : A.handled = none)
    (h : ∀ h' tk, (∀ b o, s.heap.get? b = some o → h'.get? b = some o) → Q none { s with heap := h', toks := tk }) :
    wpAny W.M A (getAttr? (.ref a) "keys") Q E s := by
  unfold getAttr? getAttrBy?
  refine wpAny_bind (wpAny_mkText (wpAny_bind (wpAny_attempt (getAttrBy_miss (s := { s with toks := s.toks + 1 }) hx hA fun h' tk e ne => ?_))))
  obtain ⟨ob, vs, he, hc, hd, _⟩ := ne.there
  refine wpAny_bind (wpAny_isInstance (T := "AttributeError") (b := true) ⟨ob, he, hc⟩ sub_AttributeError ?_)
  exact wpAny_pure (h h' tk ne.keeps)
theorem dul_entry : entryFor table "dict.update.loop" = some Builtin.«dict.update.loop» := entryFor_of_tree (by kernel_rfl)
theorem dul_plain : plainId "dict.update.loop" = true := by decide +kernel
theorem dul_loop {A : Around} {D J a : Addr} {ls : List (List Int × V)} {its : Array Value} {m : Nat} {sb : Shared} (hA : A.handled = none) (hu : A.in1.units < cLine) (hl : ls.length ≤ 1000)
    (hla : sb.heap.get? a = some ⟨.type "list", none, .seq its m, #[]⟩) (hr : VRs sb.heap (ls.map fun p => V.tup [tupI p.1, p.2]) its.toList) (hD : sb.heap.get? D = none) (hJ : sb.heap.get? J = none) (hDJ : D ≠ J) {R : Result → Shared → Prop}
    (hR : ∀ s', OR W s'.heap D (.tdict (amerge [] ls) none) → (∀ b o, sb.heap.get? b = some o → s'.heap.get? b = some o) → (SmH sb s') → R (.ok (.ret .none)) s') :
    ∀ (k i : Nat) (s : Shared), ls.length - i = k → i ≤ ls.length → s.heap.IsListIter J a i → OR W s.heap D (.tdict (amerge [] (ls.take i)) none) → (amerge [] (ls.take i)).length ≤ i → (∀ b o, sb.heap.get? b = some o → s.heap.get? b = some o) → (SmH sb s) →
      codeAny W.M A (.builtin "dict.update.loop" ⟨[.ref D, .ref J, rawInt i, .none], []⟩) R s := by
  have haJ : a ≠ J := by rintro rfl; rw [hla] at hJ; cases hJ
  have hsz : its.size = ls.length := hr.length.symm.trans (List.length_map _)
  intro k
  induction k with
  | zero =>
    intro i s hk hi hit hor _ keep same
    have hin : i = ls.length := Nat.le_antisymm hi (Nat.le_of_sub_eq_zero hk)
    subst hin
    refine codeAny_builtin dul_entry ?_
    rw [Around.under_plainId dul_plain _]
    show wpAny _ A.in1 (pyNext (.ref J) >>= _) _ _ s
    refine wpAny_bind ((Walks.list (prog := W.prog) (w := W.w) (A := A.in1) hA J a haJ its).done s _ _ (by rw [hsz]; exact ⟨hit, isList_of (keep _ _ hla)⟩) fun h' tk kp => ?_)
    show wpAny _ A.in1 (Builtin.Dict.addKeywords D [] >>= fun _ => ret Value.none) _ _ _
    refine wpAny_bind (wpAny_pure (wpAny_pure (hR _ ?_ (fun b o e => kp b o (by rintro hb; rw [List.mem_singleton.mp hb, hJ] at e; cases e) (keep b o e)) ?_)))
    · rw [List.take_length] at hor
      refine hor.keep (fun x o e ht => kp x o ?_ e) fun o e => kp D o (by simpa using hDJ) e
      rintro hb
      obtain ⟨o', e', hc, _⟩ := hit
      rw [List.mem_singleton.mp hb, e'] at e; cases e
      exact isTup.no hc ht (by simp) (by simp)
    · exact same.trans ⟨_, _, rfl⟩
  | succ k ih =>
    intro i s hk hi hit hor hlen keep same
    have hlt : i < ls.length := Nat.lt_of_sub_eq_succ hk
    refine codeAny_builtin dul_entry ?_
    rw [Around.under_plainId dul_plain _]
    show wpAny _ A.in1 (pyNext (.ref J) >>= _) _ _ s
    refine wpAny_bind ((Walks.list (prog := W.prog) (w := W.w) (A := A.in1) hA J a haJ its).item i s _ _ (hsz.symm ▸ hlt) ⟨hit, isList_of (keep _ _ hla)⟩ fun z h1 tk1 hz st1 kp => ?_)
    have nJ : ∀ b o, s.heap.get? b = some o → isTup o → b ∉ [J] := fun b o e ht hb => by
      obtain ⟨o', e', hc, _⟩ := hit
      rw [List.mem_singleton.mp hb, e'] at e; cases e
      exact isTup.no hc ht (by simp) (by simp)
    have keep1 : ∀ b o, sb.heap.get? b = some o → h1.get? b = some o := fun b o e => kp b o (by rintro hb; rw [List.mem_singleton.mp hb, hJ] at e; cases e) (keep b o e)
    obtain ⟨y, hy, ry⟩ := hr.get (i := i) (a := V.tup [tupI ls[i].1, ls[i].2]) (by rw [List.getElem?_map, List.getElem?_eq_getElem hlt]; rfl)
    have hy' : its[i]? = some y := by rw [← Array.getElem?_toList]; exact hy
    rw [hy'] at hz; cases hz
    obtain ⟨T, items, rfl, hT, r2⟩ := vr_tup (ry.keep (h' := h1) fun b o e _ => keep1 b o e)
    obtain ⟨x1, x2, e2, r3, r4⟩ := r2.two_inv
    obtain ⟨b, rfl, hb⟩ := vr_key (W := W) r3
    obtain ⟨oT, eT, cT, nT, dT⟩ := hT
    show wpAny _ A.in1 (holding [Value.ref T] _ >>= _) _ _ _
    refine wpAny_bind (wpAny_holding ?_)
    refine wpAny_bind (wpAny_tryCatch ?_)
    unfold Builtin.Dict.pairItems
    refine wpAny_bind (wpAny_typeOf (s := { s with heap := h1, toks := tk1 }) ⟨oT, eT, cT⟩ ?_)
    rw [if_pos (by decide)]
    refine wpAny_bind (wpAny_seqItems (s := { s with heap := h1, toks := tk1 }) eT dT (wpAny_pure ?_))
    show wpAny _ A.in1 (match items.toList with | [k, v] => _ | l => _) _ _ _
    rw [e2]
    dsimp only
    have or1 : OR W h1 D (.tdict (amerge [] (ls.take i)) none) := hor.keep (fun x o e ht => kp x o (nJ x o e ht) e) fun o e => kp D o (by simpa using hDJ) e
    obtain ⟨xs, d, p⟩ := or1.tdict_pr
    obtain ⟨oD, esD, epD, eD, xD, _⟩ := id d
    refine wpAny_holding (wpAny_dictSet_heap (knd := tupleKind (intKind W.prog W.w)) (s := { s with heap := h1, toks := tk1 }) hu hb d (fun h2 d2 sb2 => ?_) ?_)
    · obtain ⟨k1, k2⟩ := dict_kept eD xD.1 sb2
      refine wpAny_pure (a := Fin.again _) (And.intro (Code.quiet_builtin _ (by decide +kernel)) ?_)
      refine ih (i + 1) _ (sb_k hk) hlt (st1.1.extBut k1 (Ne.symm hDJ)) ?_ ?_ (fun x o e => ?_) ?_
      · rw [List.take_succ_eq_append_getElem hlt]
        unfold amerge
        rw [List.foldl_append]
        show OR W h2 D (.tdict (astore (amerge [] (ls.take i)) ls[i].1 ls[i].2) none)
        refine OR.of_tdict d2 ?_
        rw [storedH_flat]
        exact (p.store _ r4).keep k2
      · rw [List.take_succ_eq_append_getElem hlt]
        unfold amerge
        rw [List.foldl_append]
        show (astore (amerge [] (ls.take i)) ls[i].1 ls[i].2).length ≤ i + 1
        unfold astore
        split
        · rw [List.length_map]; lia
        · rw [List.length_append]; simp; lia
      · refine k1 x o ?_ (keep1 x o e)
        rintro rfl; rw [hD] at e; cases e
      · exact same.trans ⟨_, _, rfl⟩
    · have := p.length
      unfold flat at this; rw [List.length_map] at this
      rw [sizeLine_eq]; lia
theorem wv_dict_pairs {a : Addr} {ls : List (List Int × V)} {Q : V → AH → Prop} (hH : H a = some (.list (ls.map fun p => V.tup [tupI p.1, p.2]))) (hl : ls.length ≤ 1000) (h : ∀ c, H c = none → Q (.ref c) (upd H c (.tdict (amerge [] ls) none))) :
    WV W n (.type "dict") [.ref a] H Q := by
  intro s A X xs R hA hvs
  obtain ⟨x, rfl, r1⟩ := hvs.one_inv
  cases vr_ref r1
  obtain ⟨its, m, e, r, hsz⟩ := (R.objs _ _ hH).list_at
  refine callType_codes (Q₁ := fun obj s₁ => obj = .ref s.heap.objs.size ∧ s₁ = { s with heap := s.heap.push { cls := .type "dict", data := .dict #[] } }) PySem.F.kt_called_dict (PySem.F.kt_typeCall_dict_1 _) PySem.F.entry_dict_init (kt_code_dict_new _ ⟨rfl, rfl⟩) ?_
  rintro obj s₁ ⟨rfl, rfl⟩
  have k0 : ∀ b o, s.heap.get? b = some o → (s.heap.push { cls := .type "dict", data := .dict #[] }).get? b = some o := fun b o e => Heap.get?_push_of_some _ e
  have d0 : (s.heap.push { cls := .type "dict", data := .dict #[] }).get? s.heap.objs.size = some { cls := .type "dict", data := .dict #[] } := Heap.get?_push_size _ rfl
  have hT : ({ s with heap := s.heap.push { cls := .type "dict", data := .dict #[] } } : Shared).TypeIs (.ref s.heap.objs.size) "dict" := ⟨_, d0, rfl⟩
  have e1 := k0 _ _ e
  refine ⟨hT, PySem.F.args_dict_init_2 _ _, ?_⟩
  unfold Builtin.«dict.__init__»
  refine wpAny_bind ?_
  unfold Builtin.Dict.selfAndRest
  refine wpAny_bind (wpAny_notOrdered_dict hT ?_)
  show wpAny _ _ (pure (s.heap.objs.size, [Value.ref a])) _ _ _
  refine wpAny_pure ?_
  show wpAny _ _ (Builtin.Dict.updateFrom "dict.__init__" s.heap.objs.size (.ref a) [] .none) _ _ _
  unfold Builtin.Dict.updateFrom
  refine wpAny_bind (wpAny_typeOf (T := "list") ⟨_, e1, rfl⟩ ?_)
  rw [if_pos (by decide)]
  refine wpAny_bind (keys_none (W := W) (A := A.in1.in1) (s := { s with heap := s.heap.push { cls := .type "dict", data := .dict #[] } }) e1 hA.h fun h1 tk1 k1 => ?_)
  simp only [Option.isNone_none, if_true]
  refine wpAny_bind (wpAny_rule (wpAny_bind (wpAny_pyIter_list (s := { s with heap := h1, toks := tk1 }) (isList_of (k1 _ _ e1)) ?_)))
  refine wpAny_pure (a := Fin.again _) (And.intro (Code.quiet_builtin _ (by decide +kernel)) ?_)
  have k01 : ∀ b o, s.heap.get? b = some o → h1.get? b = some o := fun b o q => k1 b o (k0 b o q)
  have k2 : ∀ b o, h1.get? b = some o → (h1.push { cls := .type "list_iterator", data := .fields #[.ref a, .int 0 0] }).get? b = some o := fun b o q => Heap.get?_push_of_some _ q
  have dJ : s.heap.objs.size ≠ h1.objs.size := Nat.ne_of_lt (Heap.lt_size (k1 _ _ d0))
  have or0 : OR W (h1.push { cls := .type "list_iterator", data := .fields #[.ref a, .int 0 0] }) s.heap.objs.size (.tdict [] none) :=
    ((empty_or (W := W) (h := s.heap) (k := .t)).keep (fun x o q _ => k1 x o q) fun o q => k1 _ _ q).keep (fun x o q _ => k2 x o q) fun o q => k2 _ _ q
  have fr : s.heap.get? h1.objs.size = none := by
    cases q : s.heap.get? h1.objs.size with
    | none => rfl
    | some o => have := k01 _ _ q; rw [get_none_of_le (Nat.le_refl _)] at this; cases this
  refine dul_loop (W := W) (A := A.in1) (sb := s) (ls := ls) hA.h (by have := hA.u; rw [cLine_9900]; show A.units + 1 + 1 < 9900; lia) hl e r (get_none_of_le (Nat.le_refl _)) fr dJ (fun s' o' kp same => ?_) ls.length 0 _ rfl (Nat.zero_le _) ⟨_, Heap.get?_push_size _ rfl, rfl, rfl⟩ or0 (Nat.le_refl _) (fun b o q => k2 _ _ (k01 b o q)) ⟨_, _, rfl⟩
  obtain ⟨hp, tk, rfl⟩ := same
  exact ⟨rfl, ec (.ref _) (h _ (R.fresh (Nat.le_refl _))) (Step.make R (Nat.le_refl _) kp o')⟩
end
section
section
variable {n : Nat} {lt : Nat → Nat → Bool} {s : Shared} {cmp : Nat → Nat → (Bool → Shared → Prop) → Shared → Prop}
noncomputable def gd (p : Array Nat) (k : Nat) : Nat := p[k]?.getD 0
theorem getD_gd (p : Array Nat) (k : Nat) : p.getD k 0 = gd p k := by unfold gd; exact Array.getD_eq_getD_getElem? ..
structure Ord (n : Nat) (lt : Nat → Nat → Bool) : Prop where
  tr : ∀ i j k, lt i j = true → lt j k = true → lt i k = true
  tot : ∀ i j, i < n → j < n → i ≠ j → lt i j = false → lt j i = true
  asym : ∀ i j, lt i j = true → lt j i = false
noncomputable def Pm (n : Nat) (p : Array Nat) : Prop := p.toList.Perm (List.range n)
theorem Pm.size {p : Array Nat} (h : Pm n p) : p.size = n := by have := h.length_eq; simpa using this
theorem Pm.at {p : Array Nat} (h : Pm n p) {k : Nat} (hk : k < n) : p[k]? = some (gd p k) ∧ gd p k < n := by
  have hs := h.size
  have e : p[k]? = some p[k] := Array.getElem?_eq_getElem (hs.symm ▸ hk)
  have : gd p k = p[k] := by unfold gd; rw [e]; rfl
  rw [this]
  exact ⟨e, List.mem_range.mp (h.mem_iff.mp (by simp))⟩
theorem Pm.inj {p : Array Nat} (h : Pm n p) {a b : Nat} (ha : a < n) (hb : b < n) (e : gd p a = gd p b) : a = b := by
  have nd : p.toList.Nodup := h.nodup_iff.mpr List.nodup_range
  have hs := h.size
  have e1 := (h.at ha).1
  have e2 := (h.at hb).1
  rw [← Array.getElem?_toList] at e1 e2
  have hl : a < p.toList.length := show a < p.size from hs.symm ▸ ha
  have hl2 : b < p.toList.length := show b < p.size from hs.symm ▸ hb
  rw [List.getElem?_eq_getElem hl] at e1
  rw [List.getElem?_eq_getElem hl2] at e2
  have : p.toList[a] = p.toList[b] := by
    have q1 := Option.some.inj e1
    have q2 := Option.some.inj e2
    rw [q1, q2, e]
  have pw := List.pairwise_iff_getElem.mp nd
  rcases Nat.lt_trichotomy a b with q | q | q
  · exact absurd this (pw a b hl hl2 q)
  · exact q
  · exact absurd this.symm (pw b a hl2 hl q)
noncomputable def SU (lt : Nat → Nat → Bool) (p : Array Nat) (k : Nat) : Prop := ∀ a b, a < b → b < k → lt (gd p a) (gd p b) = true
noncomputable def SD (lt : Nat → Nat → Bool) (p : Array Nat) (k : Nat) : Prop := ∀ a b, a < b → b < k → lt (gd p b) (gd p a) = true
theorem SU.one {p : Array Nat} : SU lt p 1 := fun a b h1 h2 => absurd (Nat.lt_of_lt_of_le h1 (Nat.le_of_lt_succ h2)) (Nat.not_lt_zero a)
theorem SU.succ (O : Ord n lt) {p : Array Nat} {k : Nat} (h : SU lt p k) (hk : 1 ≤ k) (hn : lt (gd p (k - 1)) (gd p k) = true) : SU lt p (k + 1) := fun a b h1 h2 => by
  rcases Nat.lt_or_ge b k with q | q
  · exact h a b h1 q
  · have : b = k := Nat.le_antisymm (Nat.le_of_lt_succ h2) q
    subst this
    rcases Nat.lt_or_ge a (b - 1) with q | q
    · exact O.tr _ _ _ (h a (b - 1) q (pr_lt hk (Nat.le_refl _))) hn
    · have : a = b - 1 := Nat.le_antisymm (Nat.le_sub_one_of_lt h1) q
      rw [this]; exact hn
theorem SD.succ (O : Ord n lt) {p : Array Nat} {k : Nat} (h : SD lt p k) (hk : 1 ≤ k) (hn : lt (gd p k) (gd p (k - 1)) = true) : SD lt p (k + 1) := fun a b h1 h2 => by
  rcases Nat.lt_or_ge b k with q | q
  · exact h a b h1 q
  · have : b = k := Nat.le_antisymm (Nat.le_of_lt_succ h2) q
    subst this
    rcases Nat.lt_or_ge a (b - 1) with q | q
    · exact O.tr _ _ _ hn (h a (b - 1) q (pr_lt hk (Nat.le_refl _)))
    · have : a = b - 1 := Nat.le_antisymm (Nat.le_sub_one_of_lt h1) q
      rw [this]; exact hn
variable (O : Ord n lt) (hc : ∀ i j C, i < n → j < n → C (lt i j) s → cmp i j C s)
include O hc
theorem t_asc {p : Array Nat} (hp : Pm n p) {Q : Nat → Shared → Prop} : ∀ (f m : Nat), 1 ≤ m → m + f ≤ n → SU lt p m → (∀ m', m ≤ m' → m' ≤ m + f → SU lt p m' → (m' = m + f ∨ lt (gd p m') (gd p (m' - 1)) = true) → Q m' s) → (kas_asc p f m).kasWp cmp Q s
  | 0, m, h1, h2, hs, h => by unfold kas_asc; exact h m (Nat.le_refl _) (Nat.le_refl _) hs (.inl rfl)
  | f + 1, m, h1, h2, hs, h => by
    unfold kas_asc
    have z2 : m < n := Nat.lt_of_lt_of_le (Nat.lt_add_of_pos_right (Nat.succ_pos f)) h2
    have z1 := pr_lt h1 (Nat.le_of_lt z2)
    have b2 := (hp.at z2).2
    have b1 := (hp.at z1).2
    have h2' : m + 1 + f ≤ n := Nat.succ_add_eq_add_succ m f ▸ h2
    rw [getD_gd, getD_gd]
    refine hc _ _ _ b2 b1 ?_
    cases q : lt (gd p m) (gd p (m - 1)) with
    | true => exact h m (Nat.le_refl _) (Nat.le_add_right m _) hs (.inr q)
    | false =>
      have hne : gd p m ≠ gd p (m - 1) := fun e => Nat.ne_of_gt (pr_lt h1 (Nat.le_refl m)) (hp.inj z2 z1 e)
      have q' := O.tot _ _ b2 b1 hne q
      exact t_asc hp f (m + 1) (Nat.succ_pos m) h2' (SU.succ O hs h1 q') fun m' a1 a2 a3 a4 => h m' (Nat.le_of_succ_le a1) (Nat.succ_add_eq_add_succ m f ▸ a2) a3 (a4.imp (fun e => Nat.succ_add_eq_add_succ m f ▸ e) id)
theorem t_desc {p : Array Nat} (hp : Pm n p) {Q : Array Nat × Nat × Nat → Shared → Prop} : ∀ (f m : Nat), 1 ≤ m → m + f ≤ n → SD lt p m → (∀ m', m ≤ m' → m' ≤ m + f → SD lt p m' → Q (p, m', 0) s) → (kas_desc f p m 0).kasWp cmp Q s
  | 0, m, h1, h2, hs, h => by unfold kas_desc; exact h m (Nat.le_refl _) (Nat.le_refl _) hs
  | f + 1, m, h1, h2, hs, h => by
    unfold kas_desc
    have z2 : m < n := Nat.lt_of_lt_of_le (Nat.lt_add_of_pos_right (Nat.succ_pos f)) h2
    have z1 := pr_lt h1 (Nat.le_of_lt z2)
    have b2 := (hp.at z2).2
    have b1 := (hp.at z1).2
    have h2' : m + 1 + f ≤ n := Nat.succ_add_eq_add_succ m f ▸ h2
    rw [getD_gd, getD_gd]
    refine hc _ _ _ b2 b1 ?_
    cases q : lt (gd p m) (gd p (m - 1)) with
    | true => exact t_desc hp f (m + 1) (Nat.succ_pos m) h2' (SD.succ O hs h1 q) fun m' a1 a2 a3 => h m' (Nat.le_of_succ_le a1) (Nat.succ_add_eq_add_succ m f ▸ a2) a3
    | false =>
      have hne : gd p m ≠ gd p (m - 1) := fun e => Nat.ne_of_gt (pr_lt h1 (Nat.le_refl m)) (hp.inj z2 z1 e)
      have q' := O.tot _ _ b2 b1 hne q
      refine hc _ _ _ b1 b2 ?_
      rw [q']
      exact h m (Nat.le_refl _) (Nat.le_add_right m _) hs
omit O hc in
theorem rev_gd {p : Array Nat} {m k : Nat} (hm : m ≤ p.size) : gd (kas_rev p 0 m) k = if k < m then gd p (m - 1 - k) else gd p k := by
  unfold gd kas_rev
  rw [getElem?_mirror_all hm]
  by_cases q : k < m
  · rw [if_pos ⟨Nat.zero_le _, q⟩, if_pos q]
    congr 2; lia
  · rw [if_neg (fun z => q z.2), if_neg q]
omit O hc in
theorem rev_pm {p : Array Nat} {m : Nat} (hp : Pm n p) : Pm n (kas_rev p 0 m) := (Array.perm_iff_toList_perm.mp (mirror_perm p 0 m _)).trans hp
theorem t_tail3 {p : Array Nat} (hp : Pm n p) {m : Nat} (h1 : 1 ≤ m) (hm : m ≤ n) (hs : SD lt p m) {Q : Nat × Array Nat → Shared → Prop} (h : ∀ k p', 1 ≤ k → k ≤ n → Pm n p' → SU lt p' k → Q (k, p') s) : (kas_tail3 m n p).kasWp cmp Q s := by
  unfold kas_tail3
  rw [KasT.kasWp_bind]
  have hr : SU lt (kas_rev p 0 m) m := fun a b q1 q2 => by
    rw [rev_gd (by rw [hp.size]; exact hm), rev_gd (by rw [hp.size]; exact hm), if_pos (Nat.lt_trans q1 q2), if_pos q2]
    exact hs _ _ (Nat.sub_lt_sub_left (Nat.lt_of_lt_of_le q1 (Nat.le_sub_one_of_lt q2)) q1) (Nat.lt_of_le_of_lt (Nat.sub_le _ _) (pr_lt h1 (Nat.le_refl m)))
  refine t_asc O hc (rev_pm hp) (n - m) m h1 (Nat.le_of_eq (Nat.add_sub_cancel' hm)) hr fun k a1 a2 a3 _ => ?_
  exact h k _ (Nat.le_trans h1 a1) (Nat.add_sub_cancel' hm ▸ a2) (rev_pm hp) a3
theorem t_count {p : Array Nat} (hp : Pm n p) (hn : 1 ≤ n) {Q : Nat × Array Nat → Shared → Prop} (h : ∀ k p', 1 ≤ k → k ≤ n → Pm n p' → SU lt p' k → Q (k, p') s) : (kas_count n p).kasWp cmp Q s := by
  unfold kas_count
  rw [KasT.kasWp_bind]
  have hN : 1 + (n - 1) = n := Nat.add_sub_cancel' hn
  refine t_asc O hc hp (n - 1) 1 (Nat.le_refl _) (Nat.le_of_eq hN) SU.one fun m a1 a2 a3 a4 => ?_
  rw [hN] at a2 a4
  by_cases q : (m == n) = true
  · rw [if_pos q]; exact h m p a1 a2 hp a3
  · rw [if_neg q]
    have hne : m ≠ n := fun e => q (beq_iff_eq.mpr e)
    have hst : lt (gd p m) (gd p (m - 1)) = true := a4.resolve_left hne
    have hlt : m < n := Nat.lt_of_le_of_ne a2 hne
    split
    · rename_i hm
      rw [getD_gd, getD_gd]
      refine hc _ _ _ (hp.at hn).2 (hp.at (pr_lt a1 a2)).2 ?_
      rw [a3 0 (m - 1) (Nat.sub_pos_of_lt hm) (pr_lt a1 (Nat.le_refl m))]
      exact h m p a1 a2 hp a3
    · rename_i hm
      have : m = 1 := Nat.le_antisymm (Nat.not_lt.mp hm) a1
      subst this
      unfold kas_descPart
      rw [KasT.kasWp_bind]
      have hN2 : 2 + (n - 2) = n := Nat.add_sub_cancel' hlt
      have sd : SD lt p 2 := fun a b q1 q2 => by
        cases b with
        | zero => exact absurd q1 (Nat.not_lt_zero a)
        | succ b =>
          cases Nat.le_zero.mp (Nat.le_of_lt_succ (Nat.lt_of_succ_lt_succ q2))
          cases Nat.le_zero.mp (Nat.le_of_lt_succ q1)
          exact hst
      refine t_desc O hc hp (n - 2) 2 (Nat.le_succ 1) (Nat.le_of_eq hN2) sd fun m' b1 b2 b3 => ?_
      exact t_tail3 O hc hp (Nat.le_trans (Nat.le_succ 1) b1) (hN2 ▸ b2) b3 h
theorem t_place {p : Array Nat} (hp : Pm n p) {k : Nat} (hk : k < n) (hs : SU lt p k) {Q : Nat → Shared → Prop} : ∀ (f l r : Nat), l ≤ r → r ≤ k → r - l ≤ f → (∀ i, i < l → lt (gd p i) (gd p k) = true) → (∀ i, r ≤ i → i < k → lt (gd p k) (gd p i) = true) →
    (∀ l', l' ≤ k → (∀ i, i < l' → lt (gd p i) (gd p k) = true) → (∀ i, l' ≤ i → i < k → lt (gd p k) (gd p i) = true) → Q l' s) → (kas_place p k f l r).kasWp cmp Q s
  | 0, l, r, h1, h2, h3, h4, h5, h => by
    unfold kas_place
    have : l = r := Nat.le_antisymm h1 (Nat.le_of_sub_eq_zero (Nat.le_zero.mp h3))
    subst this
    exact h l h2 h4 h5
  | f + 1, l, r, h1, h2, h3, h4, h5, h => by
    unfold kas_place
    split
    · rename_i q
      have : l = r := Nat.le_antisymm h1 q
      subst this
      exact h l h2 h4 h5
    · rename_i q
      have q := Nat.lt_of_not_le q
      have hm : (l + r) / 2 < k := Nat.lt_of_lt_of_le (mid_lt q) h2
      have z1 := Nat.lt_trans hm hk
      have b1 := (hp.at hk).2
      have b2 := (hp.at z1).2
      rw [getD_gd, getD_gd]
      refine hc _ _ _ b1 b2 ?_
      cases e : lt (gd p k) (gd p ((l + r) / 2)) with
      | true =>
        refine t_place hp hk hs f l ((l + r) / 2) (mid_le h1) (Nat.le_of_lt hm) (mid_s1 q h3) h4 (fun i a b => ?_) h
        rcases Nat.lt_or_ge ((l + r) / 2) i with z | z
        · exact O.tr _ _ _ e (hs _ _ z b)
        · rw [Nat.le_antisymm z a]; exact e
      | false =>
        have hne : gd p k ≠ gd p ((l + r) / 2) := fun z => Nat.ne_of_gt hm (hp.inj hk z1 z)
        have e' := O.tot _ _ b1 b2 hne e
        refine t_place hp hk hs f ((l + r) / 2 + 1) r (mid_lt q) h2 (mid_s2 h1 h3) (fun i a => ?_) h5 h
        rcases Nat.lt_or_ge i ((l + r) / 2) with z | z
        · exact O.tr _ _ _ (hs _ _ z hm) e'
        · rw [Nat.le_antisymm (Nat.le_of_lt_succ a) z]; exact e'
omit O hc in
theorem bub_gd {p : Array Nat} {k l j : Nat} (hk : k < p.size) (hl : l ≤ k) : gd (bubble p k (k - l)) j = if j = l then gd p k else if l < j ∧ j ≤ k then gd p (j - 1) else gd p j := by
  unfold gd
  rw [getElem?_bubble hk _ (Nat.sub_le k l)]
  rw [Nat.sub_sub_self hl]
  repeat' split
  all_goals rfl
theorem t_bin {Q : Array Nat → Shared → Prop} (h : ∀ p', Pm n p' → SU lt p' n → Q p' s) : ∀ (f : Nat) (p : Array Nat) (k : Nat), k + f = n → Pm n p → SU lt p k → (kas_bin f p k).kasWp cmp Q s
  | 0, p, k, e, hp, hs => by
    unfold kas_bin
    exact h p hp (e ▸ hs)
  | f + 1, p, k, e, hp, hs => by
    unfold kas_bin
    rw [KasT.kasWp_bind]
    have hk : k < n := e ▸ Nat.lt_add_of_pos_right (Nat.succ_pos f)
    have hks : k < p.size := hp.size.symm ▸ hk
    refine t_place O hc hp hk hs k 0 k (Nat.zero_le _) (Nat.le_refl _) (Nat.le_refl _) (fun i z => absurd z (Nat.not_lt_zero i)) (fun i a b => absurd b (Nat.not_lt.mpr a)) fun l hl p1 p2 => ?_
    refine t_bin h f _ (k + 1) ((Nat.succ_add_eq_add_succ k f).trans e) ((Array.perm_iff_toList_perm.mp (bubble_perm p k _)).trans hp) fun a b q1 q2 => ?_
    have q2 := Nat.le_of_lt_succ q2
    have qb : b - 1 < b := pr_lt (Nat.succ_le_of_lt (Nat.lt_of_le_of_lt (Nat.zero_le a) q1)) (Nat.le_refl b)
    rw [bub_gd hks hl, bub_gd hks hl]
    by_cases ea : a = l
    · subst ea
      rw [if_pos rfl, if_neg (Nat.ne_of_gt q1), if_pos ⟨q1, q2⟩]
      exact p2 _ (Nat.le_sub_one_of_lt q1) (Nat.lt_of_lt_of_le qb q2)
    · rw [if_neg ea]
      by_cases eb : b = l
      · subst eb
        rw [if_pos rfl, if_neg (fun z => Nat.lt_asymm q1 z.1)]
        exact p1 _ q1
      · rw [if_neg eb]
        by_cases ca : l < a ∧ a ≤ k
        · rw [if_pos ca, if_pos ⟨Nat.lt_trans ca.1 q1, q2⟩]
          exact hs _ _ (Nat.sub_lt_sub_right (Nat.succ_le_of_lt (Nat.lt_of_le_of_lt (Nat.zero_le l) ca.1)) q1) (Nat.lt_of_lt_of_le qb q2)
        · have ca : a < l := Nat.lt_of_le_of_ne (Nat.not_lt.mp fun z => ca ⟨z, Nat.le_trans (Nat.le_of_lt q1) q2⟩) ea
          rw [if_neg (fun z => Nat.lt_asymm ca z.1)]
          by_cases cb : l < b ∧ b ≤ k
          · rw [if_pos cb]
            exact hs _ _ (Nat.lt_of_lt_of_le ca (Nat.le_sub_one_of_lt cb.1)) (Nat.lt_of_lt_of_le qb q2)
          · rw [if_neg cb]
            exact hs _ _ q1 (Nat.lt_of_lt_of_le (Nat.lt_of_le_of_ne (Nat.not_lt.mp fun z => cb ⟨z, q2⟩) eb) hl)
theorem t_sort (hn : 1 ≤ n) {Q : Array Nat → Shared → Prop} (h : ∀ p, Pm n p → SU lt p n → Q p s) : (kas_sort n).kasWp cmp Q s := by
  unfold kas_sort
  rw [KasT.kasWp_bind]
  refine t_count O hc (p := List.toArray (List.range n)) (List.Perm.refl _) hn fun k p' a1 a2 a3 a4 => ?_
  have hm : max k 1 = k := Nat.max_eq_left a1
  dsimp only
  rw [hm]
  split
  · exact t_bin O hc h (n - k) p' k (Nat.add_sub_cancel' a2) a3 a4
  · rename_i q
    exact h p' a3 (Nat.le_antisymm a2 (Nat.not_lt.mp q) ▸ a4)
end
noncomputable def lexLt : List Int → List Int → Bool
  | [], [] => false
  | [], _ :: _ => true
  | _ :: _, [] => false
  | a :: l, b :: m => if a = b then lexLt l m else decide (a < b)
theorem lex_trans : ∀ {a b c : List Int}, lexLt a b = true → lexLt b c = true → lexLt a c = true
  | [], [], _, h, _ => by simp [lexLt] at h
  | [], _ :: _, [], _, h => by simp [lexLt] at h
  | [], _ :: _, _ :: _, _, _ => rfl
  | _ :: _, [], _, h, _ => by simp [lexLt] at h
  | _ :: _, _ :: _, [], _, h => by simp [lexLt] at h
  | x :: a, y :: b, z :: c, h1, h2 => by
    unfold lexLt at h1 h2 ⊢
    split at h1
    · rename_i e; subst e
      split at h2
      · rename_i e; subst e; rw [if_pos rfl]; exact lex_trans h1 h2
      · rename_i e; rw [if_neg e]; exact h2
    · rename_i e
      simp only [decide_eq_true_eq] at h1
      split at h2
      · rename_i e2; subst e2; rw [if_neg e]; exact decide_eq_true h1
      · simp only [decide_eq_true_eq] at h2
        rw [if_neg (by lia)]
        exact decide_eq_true (by lia)
theorem lex_irrefl : ∀ (a : List Int), lexLt a a = false
  | [] => rfl
  | x :: a => by unfold lexLt; rw [if_pos rfl]; exact lex_irrefl a
theorem lex_total : ∀ {a b : List Int}, a ≠ b → lexLt a b = false → lexLt b a = true
  | [], [], h, _ => absurd rfl h
  | [], _ :: _, _, h => by simp [lexLt] at h
  | _ :: _, [], _, _ => rfl
  | x :: a, y :: b, h, h1 => by
    unfold lexLt at h1 ⊢
    split at h1
    · rename_i e; subst e; rw [if_pos rfl]
      exact lex_total (fun q => h (by rw [q])) h1
    · rename_i e
      simp only [decide_eq_false_iff_not] at h1
      rw [if_neg (Ne.symm e)]
      exact decide_eq_true (by lia)
theorem lex_asym {a b : List Int} (h : lexLt a b = true) : lexLt b a = false := by
  cases q : lexLt b a with
  | false => rfl
  | true => have := lex_trans h q; rw [lex_irrefl] at this; cases this
noncomputable def ins (x : List Int) : List (List Int) → List (List Int)
  | [] => [x]
  | y :: l => if lexLt x y then x :: y :: l else y :: ins x l
noncomputable def isort : List (List Int) → List (List Int)
  | [] => []
  | x :: l => ins x (isort l)
theorem ins_perm (x : List Int) : ∀ l, (ins x l).Perm (x :: l)
  | [] => List.Perm.refl _
  | y :: l => by
    unfold ins
    split
    · exact List.Perm.refl _
    · exact ((ins_perm x l).cons y).trans (List.Perm.swap x y l)
theorem isort_perm : ∀ l, (isort l).Perm l
  | [] => List.Perm.refl _
  | x :: l => (ins_perm x (isort l)).trans ((isort_perm l).cons x)
noncomputable abbrev Srt (l : List (List Int)) : Prop := l.Pairwise fun a b => lexLt a b = true
theorem ins_srt {x : List Int} : ∀ {l : List (List Int)}, Srt l → x ∉ l → Srt (ins x l)
  | [], _, _ => by unfold ins; exact List.pairwise_singleton _ _
  | y :: l, h, hx => by
    obtain ⟨h1, h2⟩ := List.pairwise_cons.mp h
    unfold ins
    split
    · rename_i q
      exact List.pairwise_cons.mpr ⟨fun z hz => by
        rcases List.mem_cons.mp hz with rfl | hz
        · exact q
        · exact lex_trans q (h1 z hz), h⟩
    · rename_i q
      have hxy : x ≠ y := fun e => hx (by rw [e]; exact .head _)
      have q' := lex_total hxy (by simpa using q)
      refine List.pairwise_cons.mpr ⟨fun z hz => ?_, ins_srt h2 fun q => hx (.tail _ q)⟩
      rcases List.mem_cons.mp ((ins_perm x l).mem_iff.mp hz) with rfl | hz
      · exact q'
      · exact h1 z hz
theorem isort_srt : ∀ {l : List (List Int)}, l.Nodup → Srt (isort l)
  | [], _ => List.Pairwise.nil
  | x :: l, h => by
    obtain ⟨h1, h2⟩ := List.nodup_cons.mp h
    exact ins_srt (isort_srt h2) fun q => h1 ((isort_perm l).mem_iff.mp q)
theorem srt_uniq : ∀ {a b : List (List Int)}, a.Perm b → Srt a → Srt b → a = b
  | [], b, p, _, _ => by have := p.length_eq; cases b with | nil => rfl | cons _ _ => simp at this
  | x :: a, [], p, _, _ => by have := p.length_eq; simp at this
  | x :: a, y :: b, p, ha, hb => by
    obtain ⟨a1, a2⟩ := List.pairwise_cons.mp ha
    obtain ⟨b1, b2⟩ := List.pairwise_cons.mp hb
    have e : x = y := by
      rcases List.mem_cons.mp (p.mem_iff.mp (.head a)) with e | hx
      · exact e
      · rcases List.mem_cons.mp (p.mem_iff.mpr (.head b)) with e | hy
        · exact e.symm
        · have q1 := b1 x hx
          have q2 := a1 y hy
          rw [lex_asym q1] at q2; cases q2
    subst e
    rw [srt_uniq ((List.perm_cons x).mp p) a2 b2]
theorem srt_isort {a l : List (List Int)} (p : a.Perm l) (h : Srt a) : a = isort l :=
  srt_uniq (p.trans (isort_perm l).symm) h (isort_srt (p.nodup_iff.mp (h.imp fun q e => by subst e; rw [lex_irrefl] at q; cases q)))
variable {W : Wd} {n : Nat} {cx : Cx} {ρ : Loc} {H : AH}
theorem eqBool_int {A : Around} {E : Value → Shared → Prop} {s : Shared} {i j : Int} {t u : Tok} {Q : Bool → Shared → Prop} (h : Q (decide (i = j)) s) : wpAny W.M A (eqBool (.int i t) (.int j u)) Q E s :=
  (intKind W.prog W.w).eqBool (a := i) (b := j) (int_is i t) (int_is j u) h
set_option tactic.hygienic true in
theorem lex_loop {A : Around} {b : Bool} {s : Shared} {Q : Bool → Shared → Prop} : ∀ {k1 k2 : List Int} {x1 x2 : List Value} (i : Nat), VRs s.heap (k1.map V.int) x1 → VRs s.heap (k2.map V.int) x2 → Q (lexLt k1 k2) s → KatLex W.prog W.w A b (decide (x1.length < x2.length)) Q (x1.zip x2) i s
  | [], [], _, _, i, r1, r2, h => by cases r1; cases r2; exact h
  | [], _ :: _, _, _, i, r1, r2, h => by cases r1; cases r2; exact h
  | _ :: _, [], _, _, i, r1, r2, h => by
    cases r1; cases r2
    exact h
  | a :: k1, c :: k2, _, _, i, r1, r2, h => by
    cases r1 with
    | cons a1 a2 =>
      cases r2 with
      | @cons _ y _ x2 b1 b2 =>
        rename_i x0 x1
        obtain ⟨t, rfl⟩ := vr_int a1
        obtain ⟨u, rfl⟩ := vr_int b1
        refine kat_cons (eqBool_int ?_)
        unfold lexLt at h
        refine kat_go (fun e => ?_) fun e => ?_
        · rw [if_pos (of_decide_eq_true e)] at h
          refine kat_yes ?_
          have := lex_loop (b := b) (A := A) (Q := Q) (i + 1) a2 b2 h
          have e3 : decide ((Value.int a t :: x1).length < (Value.int c u :: x2).length) = decide (x1.length < x2.length) := by simp
          rw [e3]; exact this
        · rw [if_neg (of_decide_eq_false e)] at h
          refine kat_no ?_
          cases q : (b && i == 0) with
          | true => exact oneLt_int h
          | false => exact kat_one _ _ (lt_int (A := A) (by exact h))
end
section
variable {W : Wd} {n : Nat} {cx : Cx} {ρ : Loc} {H : AH}
theorem VRs.getD {h : Heap} {ks : List (List Int)} {vs : List Value} (r : VRs h (ks.map tupI) vs) {i : Nat} (hi : i < ks.length) : VR h (tupI (ks.getD i [])) (vs.getD i .none) := by
  obtain ⟨y, hy, ry⟩ := r.get (i := i) (a := tupI ks[i]) (by rw [List.getElem?_map, List.getElem?_eq_getElem hi]; rfl)
  have e1 : ks.getD i [] = ks[i] := by simp [List.getD, List.getElem?_eq_getElem hi]
  have e2 : vs.getD i .none = y := by simp [List.getD, hy]
  rw [e1, e2]; exact ry
theorem kat_tups {h : Heap} : ∀ {ks : List (List Int)} {vs : List Value}, VRs h (ks.map tupI) vs → (∀ k ∈ ks, k ≠ []) → ∃ fs, KatTups h vs fs ∧ fs.length = ks.length ∧ ∀ v ∈ fs, ∃ i t, v = .int i t
  | [], _, r, _ => by cases r; exact ⟨[], KatTups.nil, rfl, fun _ h => by cases h⟩
  | k :: ks, _, r, hne => by
    cases r with
    | cons a b =>
      obtain ⟨fs, q1, q2, q3⟩ := kat_tups b fun k hk => hne k (.tail _ hk)
      obtain ⟨T, its, rfl, ⟨o, e, c, m, d⟩, r⟩ := vr_tup a
      cases k with
      | nil => exact absurd rfl (hne [] (.head _))
      | cons i k =>
        obtain ⟨y, hy, ry⟩ := VRs.get (i := 0) r rfl
        obtain ⟨t, rfl⟩ := vr_int ry
        refine ⟨.int i t :: fs, KatTups.cons e c d (by rw [← Array.getElem?_toList]; exact hy) q1, by simp [q2], fun v hv => ?_⟩
        rcases List.mem_cons.mp hv with rfl | hv
        · exact ⟨_, _, rfl⟩
        · exact q3 v hv
theorem ord_lex {ks : List (List Int)} (hk : ks.Nodup) : Ord ks.length fun i j => lexLt (ks.getD i []) (ks.getD j []) where
  tr := fun _ _ _ => lex_trans
  asym := fun _ _ => lex_asym
  tot := fun i j hi hj hne h => lex_total (fun e => hne (by
    have e1 : ks.getD i [] = ks[i] := by simp [List.getD, List.getElem?_eq_getElem hi]
    have e2 : ks.getD j [] = ks[j] := by simp [List.getD, List.getElem?_eq_getElem hj]
    rw [e1, e2] at e
    have pw := List.pairwise_iff_getElem.mp hk
    rcases Nat.lt_trichotomy i j with q | q | q
    · exact absurd e (pw i j hi hj q)
    · exact q
    · exact absurd e.symm (pw j i hj hi q))) h
theorem pm_sorted {ks : List (List Int)} {p : Array Nat} (hp : Pm ks.length p) (hs : SU (fun i j => lexLt (ks.getD i []) (ks.getD j [])) p ks.length) : (p.toList.map fun i => ks.getD i []) = isort ks := by
  refine srt_isort ?_ ?_
  · have h1 : (p.toList.map fun i => ks.getD i []).Perm ((List.range ks.length).map fun i => ks.getD i []) := hp.map _
    have h2 : ((List.range ks.length).map fun i => ks.getD i []) = ks := by
      apply List.ext_getElem
      · simp
      · intro i h1 h2
        simp [List.getD, List.getElem?_eq_getElem h2]
    rw [h2] at h1; exact h1
  · unfold Srt
    rw [List.pairwise_map, List.pairwise_iff_getElem]
    intro i j hi hj hij
    have hsz := hp.size
    have ei : gd p i = p.toList[i] := by unfold gd; rw [← Array.getElem?_toList, List.getElem?_eq_getElem hi]; rfl
    have ej : gd p j = p.toList[j] := by unfold gd; rw [← Array.getElem?_toList, List.getElem?_eq_getElem hj]; rfl
    have := hs i j hij (by rw [Array.length_toList] at hj; lia)
    rw [ei, ej] at this
    exact this
theorem vrs_map {h : Heap} {ks : List (List Int)} {vs : List Value} (r : VRs h (ks.map tupI) vs) : ∀ (l : List Nat), (∀ i ∈ l, i < ks.length) → VRs h ((l.map fun i => ks.getD i []).map tupI) (l.map fun i => vs.getD i .none)
  | [], _ => .nil
  | i :: l, hl => .cons (r.getD (hl i (.head _))) (vrs_map r l fun j hj => hl j (.tail _ hj))
theorem list_sort_tups {A : Around} {X : Value → Shared → Prop} {s : Shared} {a : Addr} {vs : List Value} {ks : List (List Int)} {m : Nat} {P : PySem.Fin → Shared → Prop} (ho : s.heap.get? a = some (seqObj "list" vs.toArray m)) (hr : VRs s.heap (ks.map tupI) vs) (hk : ks.Nodup) (hne : ∀ k ∈ ks, k ≠ []) (h64 : ks.length < 64)
    (h : ∀ out : List Value, VRs s.heap ((isort ks).map tupI) out → P (.done (.ret .none)) { s with heap := sortedHeap s.heap a vs out.toArray }) : wpAny W.M A (Builtin.«list.sort» ⟨[.ref a], []⟩) P X s := by
  have hlen : vs.length = ks.length := by have := hr.length; simpa using this.symm
  rw [list_sort_plain]
  have ha : a < s.heap.objs.size := Heap.lt_size ho
  have hz : vs.length ≤ sizeLine := by rw [sizeLine_eq]; lia
  refine wpAny_bind (listItems_at ho rfl ?_)
  refine wpAny_bind (listUpdate_at ho rfl ?_ (by rw [List.size_toArray]; exact hz) (Nat.zero_le _))
  obtain ⟨e1, ho1⟩ : ∃ e1, (s.heap.update a (Obj.mapSeq fun _ => #[])).get? a = some (seqObj "list" #[] e1) := ⟨_, get?_update_seq ho (fun _ => #[])⟩
  refine wpAny_bind (seqEpoch_at ho1 rfl ?_)
  refine wpAny_bind (wpAny_newTuple ?_ (by show vs.length ≤ _; exact hz))
  refine wpAny_bind (wpAny_newList ?_ (Nat.zero_le _))
  refine wpAny_holding ?_
  have ho6 : (((s.heap.update a (Obj.mapSeq fun _ => #[])).push (seqObj "tuple" vs.toArray 0)).push (seqObj "list" #[] 0)).get? a = some (seqObj "list" #[] e1) := by
    rw [Heap.get?_push_ne _ _ _ (by rw [size_push', Heap.size_update]; exact Nat.ne_of_lt (Nat.lt_succ_of_lt ha)), Heap.get?_push_ne _ _ _ (by rw [Heap.size_update]; exact Nat.ne_of_lt ha)]
    exact ho1
  have tk6 : TupKeep s.heap (((s.heap.update a (Obj.mapSeq fun _ => #[])).push (seqObj "tuple" vs.toArray 0)).push (seqObj "list" #[] 0)) := fun b o e ht => by
    refine Heap.get?_push_of_some _ (Heap.get?_push_of_some _ ((Heap.get?_update_other _ _ ?_).trans e))
    rintro rfl; rw [ho] at e; cases e; exact absurd ht.1 (by simp [seqObj])
  have hr6 := hr.keep tk6
  show wpAny W.M A _ P X { s with heap := ((s.heap.update a (Obj.mapSeq fun _ => #[])).push (seqObj "tuple" vs.toArray 0)).push (seqObj "list" #[] 0) }
  dsimp only
  by_cases h2 : vs.toArray.size < 2
  · rw [if_pos h2, if_pos h2]
    refine wpAny_bind (wpAny_pure ?_)
    rw [StateT.run_pure]
    refine wpAny_bind (wpAny_pure ?_)
    dsimp only
    refine wpAny_bind (seqEpoch_at ho6 rfl ?_)
    have ea : (arrOf (SortSt.mk' general' (vs.toArray.zip vs.toArray) #[] 7 none)).map (·.2) = vs.toArray := by
      show (vs.toArray.zip vs.toArray).map (·.2) = _
      apply Array.toList_inj.mp
      simp [Array.toList_map]
      exact List.map_snd_zip (Nat.le_refl _)
    rw [ea]
    refine wpAny_bind (listUpdate_at ho6 rfl ?_ (Nat.zero_le _) (by rw [List.size_toArray]; exact Nat.le_succ_of_le hz))
    rw [bne_self_eq_false, if_neg Bool.false_ne_true]
    have es : isort ks = ks := by
      rw [List.size_toArray, hlen] at h2
      match ks, h2 with
      | [], _ => rfl
      | [x], _ => rfl
    refine wpAny_pure (h vs ?_)
    rw [es]; exact hr
  · rw [if_neg h2, if_neg h2]
    have h2' : 2 ≤ vs.length := by rw [List.size_toArray] at h2; lia
    obtain ⟨fs, q1, q2, q3⟩ := kat_tups hr6 hne
    refine wpAny_bind (kat_kind (T := .type "int") q1 (by lia) (fun v hv => by obtain ⟨i, t, rfl⟩ := q3 v hv; exact Looks.of_pure rfl) (by decide) ?_)
    have ask := t_sort (s := { s with heap := ((s.heap.update a (Obj.mapSeq fun _ => #[])).push (seqObj "tuple" vs.toArray 0)).push (seqObj "list" #[] 0) }) (cmp := kas_ask W.prog W.w A (tuples' ((Value.type "int") != Value.type "tuple")) vs)
      (ord_lex hk) (fun i j C hi hj hC => by
        unfold kas_ask
        have r1 := hr6.getD hi
        have r2 := hr6.getD hj
        obtain ⟨T1, x1, e1, ⟨o1, g1, c1, m1, d1⟩, v1⟩ := vr_tup r1
        obtain ⟨T2, x2, e2, ⟨o2, g2, c2, m2, d2⟩, v2⟩ := vr_tup r2
        rw [e1, e2]
        refine kat_lt g1 d1 g2 d2 ?_
        have := lex_loop (W := W) (A := A) (b := (Value.type "int" != Value.type "tuple")) (Q := C) 0 v1 v2 hC
        simpa using this) (n := ks.length) (by lia) (Q := fun p s' => s' = { s with heap := ((s.heap.update a (Obj.mapSeq fun _ => #[])).push (seqObj "tuple" vs.toArray 0)).push (seqObj "list" #[] 0) } ∧ Pm ks.length p ∧ SU (fun i j => lexLt (ks.getD i []) (ks.getD j [])) p ks.length) (fun p a b => ⟨rfl, a, b⟩)
    have ask' := ask
    rw [show kas_sort ks.length = kas_sort vs.length by rw [hlen]] at ask'
    refine wpAny_bind (wpAny_mono (kat_run (E := X) (Q := fun st' s' => s' = { s with heap := ((s.heap.update a (Obj.mapSeq fun _ => #[])).push (seqObj "tuple" vs.toArray 0)).push (seqObj "list" #[] 0) } ∧ failedOf st' = none ∧ ∃ p : Array Nat, arrOf st' = p.map (kas_item (vs.toArray.zip vs.toArray)) ∧ Pm ks.length p ∧ SU (fun i j => lexLt (ks.getD i []) (ks.getD j [])) p ks.length)
      rfl h2' (by lia) (fun p st' s' a1 a2 a3 a4 => ⟨a4.1, a3, p, a2, a4.2.1, a4.2.2⟩) ask') ?_ fun _ _ e => e)
    rintro ⟨⟨⟩, st'⟩ s' ⟨rfl, hf, p, har, hp, hs⟩
    dsimp only
    have hout := kat_snds (ks := vs) (vs := vs) rfl har
    rw [hout]
    have vo := vrs_map hr p.toList fun i hi => List.mem_range.mp (hp.mem_iff.mp hi)
    rw [pm_sorted hp hs] at vo
    refine wpAny_bind (seqEpoch_at ho6 rfl ?_)
    refine wpAny_bind (listUpdate_at ho6 rfl ?_ (Nat.zero_le _) (by
      rw [List.size_toArray, List.length_map, Array.length_toList, hp.size, sizeLine_eq]; lia))
    rw [hf]
    rw [bne_self_eq_false, if_neg Bool.false_ne_true]
    exact wpAny_pure (h _ vo)
theorem kdl_raw {prog : Program} {w : World} {d : Addr} {es : Array DictEntry} {ep : Nat} (lo : (d == sysModules) = false) : KdlSrc prog w "dict" d d es.size (fun i v => ∃ e, es[i]? = some e ∧ v = e.key) (fun h => DRaw h d es ep) where
  type := fun _ hm => let ⟨o, e, c, _⟩ := hm; ⟨o, e, c⟩
  there := fun _ hm => let ⟨o, e, _⟩ := hm; ⟨Heap.lt_size e, Heap.lt_size e⟩
  keep := fun _ _ hm hk => let ⟨o, e, r⟩ := hm; ⟨o, hk d (.inl rfl) o e, r⟩
  notList := by decide
  notTuple := by decide
  hint := fun _ _ _ _ hm hq => kdl_hint_dict (let ⟨o, e, c, _⟩ := hm; ⟨o, e, c⟩) hq
  iter := fun A s hh hm => by
    have hd : d < s.heap.objs.size := let ⟨o, e, _⟩ := hm; Heap.lt_size e
    refine ⟨_, fun i h => h.IsKeyIter s.heap.objs.size d i es.size ep ∧ DRaw h d es ep, (fun _ _ hq => pyIter_dictR lo hm hq), ?_, ⟨_, Heap.get?_push_size _ rfl, rfl, rfl⟩, let ⟨o, e, r⟩ := hm; ⟨o, Heap.get?_push_of_some _ e, r⟩⟩
    have hne : d ≠ s.heap.objs.size := Nat.ne_of_lt hd
    exact {
      sub := fun b hb => by rw [List.mem_singleton.mp hb]; exact .head _
      frame := fun i h h' st hk => ⟨let ⟨o, e, r⟩ := st.1; ⟨o, hk _ (.head _) o e, r⟩, let ⟨o, e, r⟩ := st.2; ⟨o, hk d (.tail _ (.head _)) o e, r⟩⟩
      item := fun i s Q E hi st hQ => by
        refine pyNext_dictR_item st.1 st.2 (e := es[i]) (by simp [hi]) fun h' st' sb => ?_
        exact hQ _ h' s.toks ⟨_, by simp [hi], rfl⟩ ⟨st', let ⟨o, e, r⟩ := st.2; ⟨o, (sb.2 d hne).trans e, r⟩⟩ fun b o hb e => (sb.2 b (by simpa using hb)).trans e
      done := fun s Q E st hQ => pyNext_dictR_end hh st.1 st.2 (by simp) fun h' eb => hQ h' s.toks fun b o hb e => eb b o (by simpa using hb) e
      self := fun _ _ _ _ st hQ => wpAny_pyIter_keyiter st.1 hQ }
theorem items_eq {es : Array DictEntry} {acc : Array Value} (h : ItemsOf (fun i v => ∃ e, es[i]? = some e ∧ v = e.key) acc es.size) : acc.toList = es.toList.map (·.key) := by
  obtain ⟨h1, h2⟩ := h
  apply List.ext_getElem?
  intro i
  rw [List.getElem?_map]
  rcases Nat.lt_or_ge i acc.size with q | q
  · have e1 : acc[i]? = some acc[i] := Array.getElem?_eq_getElem q
    obtain ⟨e, e2, e3⟩ := h2 i _ e1
    rw [Array.getElem?_toList, e1, Array.getElem?_toList, e2, e3]; rfl
  · have q2 : es.size ≤ i := by lia
    rw [Array.getElem?_toList, Array.getElem?_eq_none q, Array.getElem?_toList, Array.getElem?_eq_none q2]; rfl
theorem collect_src {A : Around} {X : Value → Shared → Prop} {s : Shared} {T : String} {r d : Addr} {m : Nat} {P : Nat → Value → Prop} {OK : Heap → Prop} (K : KdlSrc W.prog W.w T r d m P OK) (hh : A.handled = none) (hok : OK s.heap) (hn : m ≤ sizeLine) {Q : List Value → Shared → Prop}
    (h : ∀ (acc : Array Value) h' tk, ItemsOf P acc m → (∀ b o, s.heap.get? b = some o → h'.get? b = some o) → Q acc.toList { s with heap := h', toks := tk }) : wpAny W.M A (collect (.ref r)) Q X s := by
  unfold collect
  refine wpAny_bind (wpAny_runValue (codeAny_builtin PySem.F.entry_proto_collect ?_))
  rw [Around.under_plainId PySem.F.plain_proto_collect _]
  show wpAny _ A.in1 (newList [] >>= fun l => again (.builtin "list.__iadd__" ⟨[l, .ref r], []⟩)) _ _ s
  refine wpAny_bind (wpAny_newObj_type ?_)
  refine wpAny_pure ⟨plainId_quiet PySem.F.plain_list_iadd _, codeAny_builtin PySem.F.entry_list_iadd ?_⟩
  rw [Around.under_plainId PySem.F.plain_list_iadd _]
  show wpAny _ A.in1 (Builtin.List.listExtendWith (.ref s.heap.objs.size) (.ref r) (.ref s.heap.objs.size)) _ _ _
  obtain ⟨t1, t2⟩ := K.there _ hok
  have hS : (s.heap.push { cls := .type "list", data := .seq ([] : List Value).toArray }).get? s.heap.objs.size = some { cls := .type "list", data := .seq #[] 0 } := Heap.get?_push_size _ rfl
  have go := kdl_extend (A := A) (R := fun r s' => r = .ok (.ret (.ref s.heap.objs.size)) ∧ ∃ acc' c' h' tk, s' = { s with heap := h', toks := tk } ∧ h'.get? s.heap.objs.size = some { cls := .type "list", dict := none, data := .seq acc' c', slots := #[] } ∧ ItemsOf P acc' m ∧ ∀ b o, s.heap.get? b = some o → h'.get? b = some o)
    (s := { s with heap := s.heap.push { cls := .type "list", data := .seq ([] : List Value).toArray } }) K hh (K.keep _ _ hok fun b _ o e => Heap.get?_push_of_some _ e) _ (Nat.ne_of_gt t1) (Nat.ne_of_gt t2) _ 0 hS
    (fun h' tk acc' c' kp hS' it => ⟨rfl, acc', c', h', tk, rfl, hS', it, fun b o e => kp b o (Nat.ne_of_lt (Heap.lt_size e)) (Heap.get?_push_of_some _ e)⟩) hn
  have fin' : ∀ s', (∃ acc' c' h' tk, s' = { s with heap := h', toks := tk } ∧ h'.get? s.heap.objs.size = some { cls := .type "list", dict := none, data := .seq acc' c', slots := #[] } ∧ ItemsOf P acc' m ∧ ∀ b o, s.heap.get? b = some o → h'.get? b = some o) →
      wpAny W.M A (match Value.ref s.heap.objs.size with
      | Value.ref a => do
        match (← load a).data with
          | Data.seq xs _ => pure xs.toList
          | _ => unsupported "internal:collect"
      | _ => unsupported "internal:collect") Q X s' := by
    rintro _ ⟨acc', c', h', tk, rfl, hS', it, kp⟩
    show wpAny _ A (load s.heap.objs.size >>= _) _ _ _
    refine wpAny_bind (wpAny_load hS' ?_)
    exact wpAny_pure (h acc' h' tk it kp)
  refine wpAny_mono go (fun fin s' h => ?_) (fun e s' h => absurd h.1 (by simp))
  cases fin with
  | done f =>
    obtain ⟨e, q⟩ := h
    cases e
    exact fin' s' q
  | again c' => exact ⟨h.1, codeAny_mono h.2 fun r s'' hr => by obtain ⟨rfl, q⟩ := hr; exact fin' s'' q⟩
theorem sortedHeap_at {h : Heap} {a : Addr} {vs : List Value} {out : Array Value} {m : Nat} (ho : h.get? a = some (seqObj "list" vs.toArray m)) : (∃ c, (sortedHeap h a vs out).get? a = some (seqObj "list" out c)) ∧ ∀ b o, b ≠ a → h.get? b = some o → (sortedHeap h a vs out).get? b = some o := by
  have ha : a < h.objs.size := Heap.lt_size ho
  obtain ⟨e1, ho1⟩ : ∃ e1, (h.update a (Obj.mapSeq fun _ => #[])).get? a = some (seqObj "list" #[] e1) := ⟨_, get?_update_seq ho (fun _ => #[])⟩
  have ho6 : (((h.update a (Obj.mapSeq fun _ => #[])).push (seqObj "tuple" vs.toArray 0)).push (seqObj "list" #[] 0)).get? a = some (seqObj "list" #[] e1) := by
    rw [Heap.get?_push_ne _ _ _ (by rw [size_push', Heap.size_update]; exact Nat.ne_of_lt (Nat.lt_succ_of_lt ha)), Heap.get?_push_ne _ _ _ (by rw [Heap.size_update]; exact Nat.ne_of_lt ha)]
    exact ho1
  refine ⟨⟨_, get?_update_seq ho6 fun _ => out⟩, fun b o hb e => ?_⟩
  unfold sortedHeap
  refine (Heap.get?_update_other _ _ (Ne.symm hb)).trans (Heap.get?_push_of_some _ (Heap.get?_push_of_some _ ((Heap.get?_update_other _ _ (Ne.symm hb)).trans e)))
theorem sorted_go {A : Around} {X : Value → Shared → Prop} {s : Shared} {d : Addr} {es : Array DictEntry} {ep : Nat} {Q : Value → Shared → Prop} (lo : (d == sysModules) = false) (hd : DRaw s.heap d es ep) (hh : A.handled = none) (hl : es.size < 64)
    (h : ∀ (h2 : Heap) tk (L : Addr), (∀ b o, s.heap.get? b = some o → h2.get? b = some o) → s.heap.get? L = none → h2.get? L = some (seqObj "list" (es.toList.map (·.key)).toArray 0) →
      wpAny W.M A.in1.in1 (Builtin.«list.sort» ⟨[.ref L], []⟩) (fun fin s' => fin = .done (.ret .none) ∧ Q (.ref L) s') X { s with heap := h2, toks := tk }) :
    wpAny W.M A (PySem.call (.builtin "sorted") [.ref d]) Q X s := by
  refine Calls.call_function_entry kind_sorted plain_sorted entry_sorted (args_sorted1 _) ?_
  unfold Builtin.«sorted»
  refine wpAny_bind (m := checkCount "sorted" 1 1 _) (wpAny_pure ?_)
  refine wpAny_bind (collect_src (kdl_raw lo) (A := A.in1) hh hd (by rw [sizeLine_eq]; lia) fun acc h' tk it kp => ?_)
  have ei := items_eq it
  rw [ei]
  refine wpAny_bind (wpAny_newList ?_ (by rw [List.length_map, Array.length_toList, sizeLine_eq]; lia))
  have hoL : (h'.push (seqObj "list" (es.toList.map (·.key)).toArray 0)).get? h'.objs.size = some (seqObj "list" (es.toList.map (·.key)).toArray 0) := Heap.get?_push_size _ rfl
  have hno : s.heap.get? h'.objs.size = none := by
    cases q : s.heap.get? h'.objs.size with
    | none => rfl
    | some o => have := kp _ _ q; rw [get_none_of_le (Nat.le_refl _)] at this; cases this
  have := h (h'.push (seqObj "list" (es.toList.map (·.key)).toArray 0)) tk h'.objs.size (fun b o e => Heap.get?_push_of_some _ (kp b o e)) hno hoL
  refine wpAny_bind (wpAny_holding (wpAny_call_entry slot_list_sort ⟨_, hoL, rfl⟩ entry_list_sort (wpAny_mono this (fun fin s' ⟨e, q⟩ => ⟨_, e, wpAny_pure ⟨_, rfl, q⟩⟩) fun _ _ z => z) (args_list_sort _)))
theorem Rel.none_of {h : Heap} (R : Rel W H h) {c : Addr} (e : h.get? c = none) : H c = none ∧ W.base.get? c = none := by
  constructor
  · cases q : H c with
    | none => rfl
    | some o => obtain ⟨ob, q'⟩ := (R.objs c o q).there; rw [e] at q'; cases q'
  · cases q : W.base.get? c with
    | none => rfl
    | some o => have := (R.base c o q).1; rw [e] at this; cases this
theorem Step.make' {s : Shared} {h' : Heap} {tk : Nat} {c : Addr} {o : O} (R : Rel W H s.heap) (e : s.heap.get? c = none) (k : ∀ b ob, s.heap.get? b = some ob → h'.get? b = some ob) (ho : OR W h' c o) :
    Step W H s (upd H c o) { s with heap := h', toks := tk } :=
  ⟨R.set (R.none_of e).2 (fun _ e' => by rw [e] at e'; cases e') (fun b ob _ e' => k b ob e') ho,
   fun b ob e' n => have hne : b ≠ c := (by rintro rfl; rw [e] at e'; cases e'); ⟨k b ob e', by rw [upd_ne _ _ hne]; exact n⟩, _, _, rfl⟩
theorem wv_sorted_t {a : Addr} {l : List (List Int × V)} {en : Option Nat} {Q : V → AH → Prop} (hH : H a = some (.tdict l en)) (hl : l.length < 64) (hne : ∀ p ∈ l, p.1 ≠ []) (h : ∀ c, H c = none → Q (.ref c) (upd H c (.list ((isort (l.map (·.1))).map tupI)))) :
    WV W n (.builtin "sorted") [.ref a] H Q := by
  intro s A X xs R hA hvs
  obtain ⟨x, rfl, r1⟩ := hvs.one_inv
  cases vr_ref r1
  obtain ⟨ep, x1⟩ := (R.objs _ _ hH).tdict_ep
  obtain ⟨es, d, r⟩ := x1.tdict_raw
  have hsz : es.size = l.length := by have := r.length; simp at this; lia
  have hnd : (l.map (·.1)).Nodup := by obtain ⟨xs, ⟨_, _, _, _, _, _, _, _, nd⟩, q, _⟩ := x1; rw [← q]; exact nd
  refine sorted_go (R.sys hH) d hA.h (by lia) fun h2 tk L kp hno hL => ?_
  have r' : VRs s.heap ((l.map (·.1)).map tupI) (es.toList.map (·.key)) := by rw [List.map_map]; exact r
  refine list_sort_tups (W := W) (ks := l.map (·.1)) hL (r'.keep fun b o e _ => kp b o e) hnd (fun k hk => by obtain ⟨p, hp, rfl⟩ := List.mem_map.mp hk; exact hne p hp) (by rw [List.length_map]; exact hl) fun out ro => ⟨rfl, ?_⟩
  obtain ⟨⟨c, g⟩, kk⟩ := sortedHeap_at (out := out.toArray) hL
  have k2 : ∀ b o, s.heap.get? b = some o → (sortedHeap h2 L (es.toList.map (·.key)) out.toArray).get? b = some o := fun b o e => kk b o (by rintro rfl; rw [hno] at e; cases e) (kp b o e)
  have tk2 : TupKeep h2 (sortedHeap h2 L (es.toList.map (·.key)) out.toArray) := fun b o e ht => kk b o (by rintro rfl; rw [hL] at e; cases e; exact absurd ht.1 (by simp [seqObj])) e
  exact ec (.ref L) (h L (R.none_of hno).1) (Step.make' R hno k2 ⟨out.toArray, c, g, by simpa using ro.keep tk2⟩)
theorem wv_sorted_i {a : Addr} {l : List (Int × V)} {Q : V → AH → Prop} (hH : H a = some (.idict l)) (hl : l.length < 64) (h : ∀ (c : Addr) (ns : List Int), H c = none → ns.Perm (l.map (·.1)) → ns.Pairwise (· ≤ ·) → Q (.ref c) (upd H c (.list (ns.map V.int)))) :
    WV W n (.builtin "sorted") [.ref a] H Q := by
  intro s A X xs R hA hvs
  obtain ⟨x, rfl, r1⟩ := hvs.one_inv
  cases vr_ref r1
  obtain ⟨kvs, ⟨o, es, ep, e, hx, hdat, hk, hp, hn⟩, q1, q2⟩ := R.objs _ _ hH
  have hsz : es.size = l.length := by
    have h1 := hp.length
    have h2 : kvs.length = l.length := by have := congrArg List.length q1; simpa using this
    have h3 : es.toList.length = es.size := by simp
    lia
  have hI : IntsAre (es.toList.map (·.key)) (kvs.map (·.1)) := by
    clear hsz q1 q2 hk hdat hn
    generalize es.toList = el at hp
    induction hp with
    | nil => exact .nil
    | @cons e' kv el kvs h1 h2 _ ih =>
      simp only [List.map_cons]
      cases hk : e'.key <;> simp [intKind, Value.isInt, hk] at h1
      subst h1
      exact .cons _ _ ih
  refine sorted_go (R.sys hH) ⟨o, e, hx.1, hdat⟩ hA.h (by lia) fun h2 tk L kp hno hL => ?_
  refine list_sort_tree hL hI (by rw [List.length_map, Array.length_toList]; lia) fun out ns' a1 a2 a3 => ⟨rfl, ?_⟩
  obtain ⟨⟨c, g⟩, kk⟩ := sortedHeap_at (out := out) hL
  have k2 : ∀ b o, s.heap.get? b = some o → (sortedHeap h2 L (es.toList.map (·.key)) out).get? b = some o := fun b o e => kk b o (by rintro rfl; rw [hno] at e; cases e) (kp b o e)
  rw [q1] at a2
  exact ec (.ref L) (h L ns' (R.none_of hno).1 a2 a3) (Step.make' R hno k2 ⟨out, c, g, of_ints a1⟩)
end
section
theorem lookup_zip_some {names : List Str} {xs : List Value} (hl : xs.length = names.length) : ∀ n ∈ names, ((names.zip xs).lookup n).isNone = false := by
  induction names generalizing xs with
  | nil => intro n h; cases h
  | cons a r ih =>
    intro n h
    cases xs with
    | nil => simp at hl
    | cons x xs =>
      rw [List.zip_cons_cons, List.lookup_cons]
      by_cases e : (n == a) = true
      · rw [e]; rfl
      · simp only [Bool.not_eq_true] at e
        rw [e]
        refine ih (by simpa using hl) n ?_
        rcases List.mem_cons.mp h with rfl | h
        · simp at e
        · exact h
theorem fm_congr {α β : Type} {f g : α → Option β} : ∀ {l : List α}, (∀ x ∈ l, f x = g x) → l.filterMap f = l.filterMap g
  | [], _ => rfl
  | a :: r, h => by rw [List.filterMap_cons, List.filterMap_cons, h a (.head _), fm_congr fun x hx => h x (.tail _ hx)]
theorem filterMap_zip {names : List Str} : ∀ {xs : List Value}, xs.length = names.length → names.Nodup → names.filterMap (fun n => Option.map (fun x => (n, x)) (List.lookup n (names.zip xs))) = names.zip xs := by
  induction names with
  | nil => intro xs _ _; simp
  | cons a r ih =>
    intro xs hl nd
    cases xs with
    | nil => simp at hl
    | cons x xs =>
      rw [List.zip_cons_cons, List.filterMap_cons, List.lookup_cons]
      simp only [beq_self_eq_true, Option.map_some]
      congr 1
      refine Eq.trans (fm_congr fun n hn => ?_) (ih (by simpa using hl) (List.nodup_cons.mp nd).2)
      rw [List.lookup_cons]
      have : (n == a) = false := by
        simp only [beq_eq_false_iff_ne]
        rintro rfl
        exact (List.nodup_cons.mp nd).1 hn
      rw [this]
noncomputable def bindS (names : List Str) (xs : List Value) (ds : List Value) (e1 : Sem (List (Str × Value))) (e2 : Sem (List (Str × Value))) : Sem (List (Str × Value)) :=
  if (decide (xs.length > names.length) && true) = true then e1 else
  let ds := ds.drop (ds.length - names.length)
  let k := names.length - ds.length
  let missing := (names.take k).filter fun n => ((names.zip xs).lookup n).isNone
  if (!missing.isEmpty) = true then e2 else
  forIn ((names.drop k).zip ds) (names.zip xs) (fun (x : Str × Value) (slots : List (Str × Value)) => if (slots.lookup x.1).isNone = true then pure (ForInStep.yield (slots ++ [(x.1, x.2)])) else pure (ForInStep.yield slots)) >>= fun slots => pure ((names ++ []).filterMap fun n => (slots.lookup n).map (n, ·))
theorem bind_core {fd : FuncData} {ar : List Arg} {kd : List (Option PySem.Expr)} {df : List PySem.Expr} (hp : fd.params = ⟨[], ar, none, [], kd, none, df⟩) (xs : List Value) :
    ∃ (e1 : Option (Array Value) → Sem (List (Str × Value))) (e2 : Option (Array Value) → Sem (List (Str × Value))), bindArgs fd ⟨xs, []⟩ = seqItems? fd.defaults >>= fun its => bindS (ar.map (·.arg)) xs (its.getD #[]).toList (e1 its) (e2 its) := by
  apply Exists.intro
  apply Exists.intro
  unfold bindArgs
  rw [hp]
  show (seqItems? fd.defaults >>= _) = _
  refine congrArg (seqItems? fd.defaults >>= ·) (funext fun its => ?_)
  unfold bindS
  rfl
theorem par_eq {p : Arguments} (h1 : p.posonlyargs = []) (h3 : p.vararg = none) (h4 : p.kwonlyargs = []) (h5 : p.kwarg = none) : p = ⟨[], p.args, none, [], p.kw_defaults, none, p.defaults⟩ := by
  have e : p = ⟨p.posonlyargs, p.args, p.vararg, p.kwonlyargs, p.kw_defaults, p.kwarg, p.defaults⟩ := by cases p; rfl
  rw [h1, h3, h4, h5] at e
  exact e
theorem bindS_step {names : List Str} {xs ds : List Value} {e1 e2 : Sem (List (Str × Value))} (h1 : xs.length ≤ names.length) (hd : ds.length ≤ names.length) (hm : ∀ n ∈ names.take (names.length - ds.length), ((names.zip xs).lookup n).isNone = false) :
    bindS names xs ds e1 e2 = forIn ((names.drop (names.length - ds.length)).zip ds) (names.zip xs) (fun (x : Str × Value) (slots : List (Str × Value)) => if (slots.lookup x.1).isNone = true then pure (ForInStep.yield (slots ++ [(x.1, x.2)])) else pure (ForInStep.yield slots)) >>= fun slots => pure ((names ++ []).filterMap fun n => (slots.lookup n).map (n, ·)) := by
  unfold bindS
  rw [if_neg (by rw [decide_eq_false (Nat.not_lt.mpr h1)]; exact Bool.false_ne_true)]
  dsimp only
  rw [Nat.sub_eq_zero_of_le hd, List.drop_zero, List.filter_eq_nil_iff.mpr fun n hn => by rw [hm n hn]; exact Bool.false_ne_true]
  exact if_neg Bool.false_ne_true
theorem bind_plain {fd : FuncData} {names : List Str} (h1 : fd.params.posonlyargs = []) (h2 : fd.params.args.map (·.arg) = names) (h3 : fd.params.vararg = none) (h4 : fd.params.kwonlyargs = [])
    (h5 : fd.params.kwarg = none) (h6 : fd.defaults = .none) (nd : names.Nodup) (xs : List Value) (hl : xs.length = names.length) : bindArgs fd ⟨xs, []⟩ = pure (names.zip xs) := by
  obtain ⟨e1, e2, e⟩ := bind_core (par_eq h1 h3 h4 h5) xs
  rw [e, h6, h2]
  show bindS names xs [] (e1 none) (e2 none) = _
  rw [bindS_step (Nat.le_of_eq hl) (Nat.zero_le _) fun n hn => lookup_zip_some hl n (List.mem_of_mem_take hn), List.zip_nil_right, List.append_nil]
  exact congrArg (fun l => (pure l : Sem (List (Str × Value)))) (filterMap_zip hl nd)
noncomputable def funcOf (o : Obj) : Option FuncData := match o.data with | .func fd => some fd | _ => none
noncomputable def stmtsOf : FuncBody → Option (List Stmt) | .stmts b => some b | _ => none
noncomputable def isRef (c : Addr) : Value → Bool | .ref a => c == a | _ => false
noncomputable def fnGet (K : Frag) (f : Addr) : Option FuncData := (K.lookup f).bind funcOf
noncomputable def slotChk (cx : Cx) : Bool := cx.slots.all fun p => cx.kinds.lookup p.1 == some .local || cx.kinds.lookup p.1 == some .cell
noncomputable def parChk (cx : Cx) (names : List Str) : Bool := (List.range names.length).all fun j => som names[j]? fun x => cx.slots.lookup x == some j
noncomputable def cdChk (cx : Cx) (fd : FuncData) : Bool := match cx.code with | none => true | some p => isRef p.1 fd.code && fd.qualname ++ ".<locals>." == p.2
noncomputable def fnChk (K : Frag) (gt : Str → Option G) (attr : Nat → Str) (f : Addr) (cx : Cx) (ss : Ss) (names : List Str) : Bool := som (fnGet K f) fun fd =>
  (som (stmtsOf fd.body) (fun b => sameSs gt attr cx ss b) && (kindEq fd.scope.names cx.kinds && (fd.globals == mainGlobals && (fd.builtins == builtinsNs && (codeIn K fd.code fd.qualname && fd.closure.isEmpty))))) &&
  ((!fd.scope.isCoroutine && (!fd.scope.isGenerator && (decide (fd.scope.kind = .function) && (decide (cx.slots.map (·.2)).Nodup && (slotChk cx && parChk cx names))))) &&
  (decide names.Nodup && (cdChk cx fd && ((fd.params.posonlyargs.isEmpty && (decide (fd.params.args.map (·.arg) = names) && fd.params.vararg.isNone)) && (fd.params.kwonlyargs.isEmpty && fd.params.kwarg.isNone)))))
variable {W : Wd} {n : Nat} {cx : Cx} {ρ : Loc} {H : AH}
theorem funcOf_inv {o : Obj} {fd : FuncData} (h : funcOf o = some fd) : o.data = .func fd := by
  obtain ⟨c, d, data, sl⟩ := o
  cases data <;> first | exact absurd h.symm (Option.some_ne_none _) | exact congrArg Data.func (Option.some.inj h)
theorem stmtsOf_inv {b : FuncBody} {l : List Stmt} (h : stmtsOf b = some l) : b = .stmts l := by
  cases b <;> first | exact absurd h.symm (Option.some_ne_none _) | exact congrArg FuncBody.stmts (Option.some.inj h)
theorem isRef_inv {c : Addr} {v : Value} (h : isRef c v = true) : v = .ref c := by
  cases v <;> first | exact absurd h Bool.false_ne_true | exact congrArg Value.ref (eq_of_beq h).symm
theorem cdChk_inv {fd : FuncData} (h : cdChk cx fd = true) (c : Addr) (q : Str) (hc : cx.code = some (c, q)) : fd.code = .ref c ∧ fd.qualname ++ ".<locals>." = q := by
  unfold cdChk at h
  rw [hc] at h
  exact ⟨isRef_inv (an2 h).1, eq_of_beq (an2 h).2⟩
theorem parChk_inv {names : List Str} (h : parChk cx names = true) (j : Nat) (x : Str) (hj : names[j]? = some x) : cx.slots.lookup x = some j := by
  obtain ⟨y, e, q⟩ := som_inv (List.all_eq_true.mp h j (List.mem_range.mpr (List.getElem?_eq_some_iff.mp hj).1))
  cases hj.symm.trans e
  exact eq_of_beq q
theorem slotChk_inv (h : slotChk cx = true) (x : Str) (i : Nat) (hx : (x, i) ∈ cx.slots) : cx.kinds.lookup x = some .local ∨ cx.kinds.lookup x = some .cell :=
  (Bool.or_eq_true_iff.mp (List.all_eq_true.mp h (x, i) hx)).imp eq_of_beq eq_of_beq
inductive FnA (W : Wd) (f : Addr) (cx : Cx) (ss : Ss) (names : List Str) : Prop
  | mk (fd : FuncData) (F : FnIs W f cx ss names fd) (g : fnGet W.K f = some fd) (b1 : fd.params.posonlyargs = []) (b2 : fd.params.args.map (·.arg) = names) (b3 : fd.params.vararg = none) (b4 : fd.params.kwonlyargs = []) (b5 : fd.params.kwarg = none)
theorem fn_is {f : Addr} {ss : Ss} {names : List Str} (h : fnChk W.K W.gt W.attr f cx ss names = true) : FnA W f cx ss names := by
  obtain ⟨fd, e, h⟩ := som_inv h
  obtain ⟨h1, h2, h3⟩ := an3 h
  obtain ⟨a1, a2, a3, a4, a5, a6⟩ := an6 h1
  obtain ⟨b1, b2, b3, b4, b5, b6⟩ := an6 h2
  obtain ⟨c1, c2, c3, c4, c5⟩ := an5 h3
  obtain ⟨c3, c6, c7⟩ := an3 c3
  obtain ⟨o, e1, e2⟩ := Option.bind_eq_some_iff.mp e
  obtain ⟨b, e3, a1⟩ := som_inv a1
  exact ⟨fd, ⟨⟨o, b, e1, funcOf_inv e2, stmtsOf_inv e3, a1⟩, kindEq_eq a2, eq_of_beq a3, eq_of_beq a4, a5, List.isEmpty_iff.mp a6, not_t b1, not_t b2, of_decide_eq_true b3, of_decide_eq_true b4, slotChk_inv b5, parChk_inv b6, of_decide_eq_true c1, cdChk_inv c2⟩, e,
    List.isEmpty_iff.mp c3, of_decide_eq_true c6, Option.isNone_iff_eq_none.mp c7, List.isEmpty_iff.mp c4, Option.isNone_iff_eq_none.mp c5⟩
theorem wc_fn {f : Addr} {ss : Ss} {names : List Str} (h : fnChk W.K W.gt W.attr f cx ss names = true) (hd : (fnGet W.K f).map (·.defaults) = some .none) {vs : List V} (hl : vs.length = names.length) (m : Nat) {Q : V → AH → Prop}
    (k : WSs W n cx ss (start vs m) H (RetQ Q)) : WC W (n + 1) f vs H Q := by
  obtain ⟨fd, F, g, b1, b2, b3, b4, b5⟩ := fn_is h
  rw [g] at hd
  exact wc_of F (bind_plain b1 b2 b3 b4 b5 (by simpa using hd) F.nodup) hl m k
end
section
noncomputable def cx_place_by_half : Cx := { kinds := [("firsts", .local), ("number", .local), ("low", .local), ("high", .local), ("middle", .local), ("len", .globalImplicit)], slots := [("firsts", 0), ("number", 1), ("low", 2), ("high", 3), ("middle", 4)] }
noncomputable def ss_place_by_half : Ss := (.cons (.asg (.slot 2) (.cst (.int 0))) (.cons (.asg (.slot 3) (.blt "len" (.cons (.loc 0) .nil))) (.cons (.whl (.cmp (.loc 2) .Lt (.loc 3)) (.cons (.asg (.slot 4) (.bin .FloorDiv (.bin .Add (.loc 2) (.loc 3)) (.cst (.int 2)))) (.cons (.ifs (.cmp (.idx (.loc 0) (.loc 4)) .LtE (.loc 1)) (.cons (.asg (.slot 2) (.bin .Add (.loc 4) (.cst (.int 1)))) .nil) (.cons (.asg (.slot 3) (.loc 4)) .nil)) .nil))) (.cons (.ret (.bin .Sub (.loc 2) (.cst (.int 1)))) .nil))))
noncomputable def cx_is_hangul_syllable : Cx := { kinds := [("code", .local), ("SYLLABLE_FIRST", .globalImplicit), ("SYLLABLES", .globalImplicit)], slots := [("code", 0)] }
noncomputable def ss_is_hangul_syllable : Ss := (.cons (.ret (.cmp2 (.cst (.int 0)) .LtE (.bin .Sub (.loc 0) (.glb 44032)) .Lt (.glb 11172))) .nil)
noncomputable def cx_hangul_parts : Cx := { kinds := [("code", .local), ("lead", .local), ("vowel", .local), ("tail", .local), ("is_hangul_syllable", .globalImplicit), ("hangul_numbers", .globalImplicit), ("LEAD_FIRST", .globalImplicit), ("VOWEL_FIRST", .globalImplicit), ("TAIL_NONE", .globalImplicit)], slots := [("code", 0), ("lead", 1), ("vowel", 2), ("tail", 3)] }
noncomputable def ss_hangul_parts : Ss := (.cons (.ifs (.not (.call 68 (.cons (.loc 0) .nil))) (.cons (.ret (.cst .none)) .nil) .nil) (.cons (.asg (.tup (.cons (.slot 1) (.cons (.slot 2) (.cons (.slot 3) .nil)))) (.call 75 (.cons (.loc 0) .nil))) (.cons (.ifs (.cmp (.loc 3) .Eq (.cst (.int 0))) (.cons (.ret (.tup (.cons (.bin .Add (.glb 4352) (.loc 1)) (.cons (.bin .Add (.glb 4449) (.loc 2)) .nil)))) .nil) .nil) (.cons (.ret (.tup (.cons (.bin .Add (.glb 4352) (.loc 1)) (.cons (.bin .Add (.glb 4449) (.loc 2)) (.cons (.bin .Add (.glb 4519) (.loc 3)) .nil))))) .nil))))
noncomputable def cx_form_mapping : Cx := { kinds := [("code", .local), ("data", .local), ("is_compat", .local), ("parts", .local), ("told", .local), ("hangul_parts", .globalImplicit)], slots := [("code", 0), ("data", 1), ("is_compat", 2), ("parts", 3), ("told", 4)] }
noncomputable def ss_form_mapping : Ss := (.cons (.asg (.slot 3) (.call 82 (.cons (.loc 0) .nil))) (.cons (.ifs (.cmp (.loc 3) .IsNot (.cst .none)) (.cons (.ret (.loc 3)) .nil) .nil) (.cons (.asg (.slot 4) (.meth (.loc 1) "get" (.cons (.cst (.str "dm")) (.cons (.loc 0) .nil)))) (.cons (.ifs (.bop .Or (.cons (.cmp (.loc 4) .Is (.cst .none)) (.cons (.bop .And (.cons (.cmp (.idx (.loc 4) (.cst (.int 0))) .NotEq (.cst (.str ""))) (.cons (.not (.loc 2)) .nil))) .nil))) (.cons (.ret (.cst .none)) .nil) .nil) (.cons (.ret (.idx (.loc 4) (.cst (.int 1)))) .nil)))))
noncomputable def cx_form_expanded : Cx := { kinds := [("code", .local), ("data", .local), ("is_compat", .local), ("found", .local), ("waiting", .local), ("open_codes", .local), ("here", .local), ("parts", .local), ("part", .local), ("form_mapping", .globalImplicit), ("BadTable", .globalImplicit)], slots := [("code", 0), ("data", 1), ("is_compat", 2), ("found", 3), ("waiting", 4), ("open_codes", 5), ("here", 6), ("parts", 7), ("part", 8)] }
noncomputable def ss_form_expanded : Ss := (.cons (.asg (.slot 3) (.lst .nil)) (.cons (.swp [4, 5] (.tup (.cons (.lst (.cons (.loc 0) .nil)) (.cons (.lst .nil) .nil)))) (.cons (.whl (.cmp (.loc 4) .NotEq (.lst .nil)) (.cons (.asg (.slot 6) (.meth (.loc 4) "pop" .nil)) (.cons (.ifs (.cmp (.loc 6) .Is (.cst .none)) (.cons (.exp (.meth (.loc 5) "pop" .nil)) (.cons .cnt .nil)) .nil) (.cons (.asg (.slot 7) (.call 96 (.cons (.loc 6) (.cons (.loc 1) (.cons (.loc 2) .nil))))) (.cons (.ifs (.cmp (.loc 7) .Is (.cst .none)) (.cons (.exp (.meth (.loc 3) "append" (.cons (.loc 6) .nil))) .nil) (.cons (.ifs (.cmp (.loc 6) .In (.loc 5)) (.cons .rse .nil) (.cons (.exp (.meth (.loc 5) "append" (.cons (.loc 6) .nil))) (.cons (.exp (.meth (.loc 4) "append" (.cons (.cst .none) .nil))) (.cons (.for (.slot 8) (.plain (.slRev (.loc 7))) (.cons (.exp (.meth (.loc 4) "append" (.cons (.loc 8) .nil))) .nil)) .nil)))) .nil)) .nil))))) (.cons (.ret (.loc 3)) .nil))))
noncomputable def cx_ordered : Cx := { kinds := [("text", .local), ("data", .local), ("found", .local), ("run", .local), ("code", .local), ("weight", .local), ("form_sorted", .globalImplicit)], slots := [("text", 0), ("data", 1), ("found", 2), ("run", 3), ("code", 4), ("weight", 5)] }
noncomputable def ss_ordered : Ss := (.cons (.swp [2, 3] (.tup (.cons (.lst .nil) (.cons (.lst .nil) .nil)))) (.cons (.for (.slot 4) (.plain (.loc 0)) (.cons (.asg (.slot 5) (.meth (.loc 1) "get" (.cons (.cst (.str "ccc")) (.cons (.loc 4) .nil)))) (.cons (.ifs (.cmp (.loc 5) .Gt (.cst (.int 0))) (.cons (.exp (.meth (.loc 3) "append" (.cons (.tup (.cons (.loc 5) (.cons (.loc 4) .nil))) .nil))) .nil) (.cons (.exp (.meth (.loc 2) "extend" (.cons (.call 115 (.cons (.loc 3) .nil)) .nil))) (.cons (.exp (.meth (.loc 2) "append" (.cons (.loc 4) .nil))) (.cons (.asg (.slot 3) (.lst .nil)) .nil)))) .nil))) (.cons (.exp (.meth (.loc 2) "extend" (.cons (.call 115 (.cons (.loc 3) .nil)) .nil))) (.cons (.ret (.loc 2)) .nil))))
noncomputable def cx_form_sorted : Cx := { kinds := [("run", .local), ("sorted", .globalImplicit)], slots := [("run", 0)], code := some (114, "form_sorted.<locals>.") }
noncomputable def ss_form_sorted : Ss := (.cons (.ret (.comp { kinds := [(".0", .local), ("weight", .local), ("code", .local)], slots := [("weight", 1), ("code", 2)], own := false } [1, 2] (.loc 2) (.tup (.cons (.slot 1) (.cons (.slot 2) .nil))) (.plain (.sortk (.loc 0) ⟨92, 53, 92, 73⟩)) .nil)) .nil)
noncomputable def cx_decomposed : Cx := { kinds := [("text", .local), ("data", .local), ("is_compat", .local), ("found", .local), ("code", .local), ("form_expanded", .globalImplicit), ("ordered", .globalImplicit)], slots := [("text", 0), ("data", 1), ("is_compat", 2), ("found", 3), ("code", 4)] }
noncomputable def ss_decomposed : Ss := (.cons (.asg (.slot 3) (.lst .nil)) (.cons (.for (.slot 4) (.plain (.loc 0)) (.cons (.exp (.meth (.loc 3) "extend" (.cons (.call 103 (.cons (.loc 4) (.cons (.loc 1) (.cons (.loc 2) .nil)))) .nil))) .nil)) (.cons (.ret (.call 110 (.cons (.loc 3) (.cons (.loc 1) .nil)))) .nil)))
noncomputable def cx_form_of : Cx := { kinds := [("text", .local), ("data", .local), ("word", .local), ("composer", .local), ("found", .local), ("decomposed", .globalImplicit), ("composed", .globalImplicit)], slots := [("text", 0), ("data", 1), ("word", 2), ("composer", 3), ("found", 4)] }
noncomputable def ss_form_of : Ss := (.cons (.asg (.slot 4) (.call 123 (.cons (.loc 0) (.cons (.loc 1) (.cons (.cmp (.loc 2) .In (.tup (.cons (.cst (.str "nfkd")) (.cons (.cst (.str "nfkc")) .nil)))) .nil))))) (.cons (.ret (.ife (.cmp (.loc 2) .In (.tup (.cons (.cst (.str "nfd")) (.cons (.cst (.str "nfkd")) .nil)))) (.loc 4) (.call 180 (.cons (.loc 4) (.cons (.loc 1) (.cons (.loc 3) .nil)))))) .nil))
noncomputable def cx_nfd : Cx := { kinds := [("text", .local), ("data", .local), ("form_of", .globalImplicit)], slots := [("text", 0), ("data", 1)] }
noncomputable def ss_nfd : Ss := (.cons (.ret (.call 188 (.cons (.loc 0) (.cons (.loc 1) (.cons (.cst (.str "nfd")) .nil))))) .nil)
noncomputable def cx_coll_ideographs : Cx := { kinds := [("rows", .local), ("first", .local), ("last", .local), ("COLL_CORE", .globalImplicit), ("COLL_EXTENSIONS", .globalImplicit)], slots := [("rows", 0), ("first", 1), ("last", 2)] }
noncomputable def ss_coll_ideographs : Ss := (.cons (.asg (.slot 0) (.lst (.cons (.tup (.cons (.cst (.int 19968)) (.cons (.cst (.int 40959)) (.cons (.glb 64320) .nil)))) (.cons (.tup (.cons (.cst (.int 64014)) (.cons (.cst (.int 64015)) (.cons (.glb 64320) .nil)))) (.cons (.tup (.cons (.cst (.int 64017)) (.cons (.cst (.int 64017)) (.cons (.glb 64320) .nil)))) .nil))))) (.cons (.asg (.slot 0) (.bin .Add (.loc 0) (.lst (.cons (.tup (.cons (.cst (.int 64019)) (.cons (.cst (.int 64020)) (.cons (.glb 64320) .nil)))) (.cons (.tup (.cons (.cst (.int 64031)) (.cons (.cst (.int 64031)) (.cons (.glb 64320) .nil)))) (.cons (.tup (.cons (.cst (.int 64033)) (.cons (.cst (.int 64033)) (.cons (.glb 64320) .nil)))) .nil)))))) (.cons (.asg (.slot 0) (.bin .Add (.loc 0) (.lst (.cons (.tup (.cons (.cst (.int 64035)) (.cons (.cst (.int 64036)) (.cons (.glb 64320) .nil)))) (.cons (.tup (.cons (.cst (.int 64039)) (.cons (.cst (.int 64041)) (.cons (.glb 64320) .nil)))) .nil))))) (.cons (.for (.tup (.cons (.slot 1) (.cons (.slot 2) .nil))) (.plain (.tup (.cons (.tup (.cons (.cst (.int 13312)) (.cons (.cst (.int 19903)) .nil))) (.cons (.tup (.cons (.cst (.int 131072)) (.cons (.cst (.int 173791)) .nil))) (.cons (.tup (.cons (.cst (.int 173824)) (.cons (.cst (.int 177977)) .nil))) (.cons (.tup (.cons (.cst (.int 177984)) (.cons (.cst (.int 178205)) .nil))) .nil)))))) (.cons (.exp (.meth (.loc 0) "append" (.cons (.tup (.cons (.loc 1) (.cons (.loc 2) (.cons (.glb 64384) .nil)))) .nil))) .nil)) (.cons (.for (.tup (.cons (.slot 1) (.cons (.slot 2) .nil))) (.plain (.tup (.cons (.tup (.cons (.cst (.int 178208)) (.cons (.cst (.int 183969)) .nil))) (.cons (.tup (.cons (.cst (.int 183984)) (.cons (.cst (.int 191456)) .nil))) (.cons (.tup (.cons (.cst (.int 191472)) (.cons (.cst (.int 192093)) .nil))) .nil))))) (.cons (.exp (.meth (.loc 0) "append" (.cons (.tup (.cons (.loc 1) (.cons (.loc 2) (.cons (.glb 64384) .nil)))) .nil))) .nil)) (.cons (.for (.tup (.cons (.slot 1) (.cons (.slot 2) .nil))) (.plain (.tup (.cons (.tup (.cons (.cst (.int 196608)) (.cons (.cst (.int 201546)) .nil))) (.cons (.tup (.cons (.cst (.int 201552)) (.cons (.cst (.int 205743)) .nil))) .nil)))) (.cons (.exp (.meth (.loc 0) "append" (.cons (.tup (.cons (.loc 1) (.cons (.loc 2) (.cons (.glb 64384) .nil)))) .nil))) .nil)) (.cons (.ret (.loc 0)) .nil)))))))
noncomputable def cx_CollBase__init_ : Cx := { kinds := [("self", .local), ("first", .local), ("last", .local), ("base", .local), ("origin", .local)], slots := [("self", 0), ("first", 1), ("last", 2), ("base", 3), ("origin", 4)] }
noncomputable def ss_CollBase__init_ : Ss := (.cons (.asg (.attr (.loc 0) 0) (.loc 1)) (.cons (.asg (.attr (.loc 0) 1) (.loc 2)) (.cons (.asg (.attr (.loc 0) 2) (.loc 3)) (.cons (.asg (.attr (.loc 0) 3) (.loc 4)) .nil))))
noncomputable def cx_CollBase_elements_of : Cx := { kinds := [("self", .local), ("code", .local), ("lead", .local), ("rest", .local), ("COLL_REST_SHIFT", .globalImplicit), ("COLL_REST_MASK", .globalImplicit), ("COLL_SECONDARY", .globalImplicit), ("COLL_TERTIARY", .globalImplicit), ("COLL_REST_BIT", .globalImplicit)], slots := [("self", 0), ("code", 1), ("lead", 2), ("rest", 3)] }
noncomputable def ss_CollBase_elements_of : Ss := (.cons (.ifs (.cmp (.attr (.loc 0) 3) .Is (.cst .none)) (.cons (.swp [2, 3] (.tup (.cons (.bin .Add (.attr (.loc 0) 2) (.bin .RShift (.loc 1) (.glb 15))) (.cons (.bin .BitAnd (.loc 1) (.glb 32767)) .nil)))) .nil) (.cons (.swp [2, 3] (.tup (.cons (.attr (.loc 0) 2) (.cons (.bin .Sub (.loc 1) (.attr (.loc 0) 3)) .nil)))) .nil)) (.cons (.ret (.lst (.cons (.tup (.cons (.loc 2) (.cons (.glb 32) (.cons (.glb 2) (.cons (.cst (.bool false)) .nil))))) (.cons (.tup (.cons (.bin .BitOr (.loc 3) (.glb 32768)) (.cons (.cst (.int 0)) (.cons (.cst (.int 0)) (.cons (.cst (.bool false)) .nil))))) .nil)))) .nil))
noncomputable def cx_coll_scaled : Cx := { kinds := [("elements", .local), ("factors", .local), ("first", .cell), ("second", .cell), ("third", .cell)], slots := [("elements", 0), ("factors", 1), ("first", 2), ("second", 3), ("third", 4)] }
noncomputable def ss_coll_scaled : Ss := (.cons (.asg (.tup (.cons (.slot 2) (.cons (.slot 3) (.cons (.slot 4) .nil)))) (.loc 1)) (.cons (.ret (.comp { kinds := [(".0", .local), ("one", .local), ("first", .cell), ("second", .cell), ("third", .cell)], slots := [("one", 5), ("first", 2), ("second", 3), ("third", 4)], own := false } [5] (.tup (.cons (.bin .Mult (.idx (.loc 5) (.cst (.int 0))) (.loc 2)) (.cons (.bin .Mult (.idx (.loc 5) (.cst (.int 1))) (.loc 3)) (.cons (.bin .Mult (.idx (.loc 5) (.cst (.int 2))) (.loc 4)) (.cons (.idx (.loc 5) (.cst (.int 3))) .nil))))) (.slot 5) (.plain (.loc 0)) .nil)) .nil))
noncomputable def cx_CollMatch__init_ : Cx := { kinds := [("self", .local), ("elements", .local), ("places", .local), ("onward", .local)], slots := [("self", 0), ("elements", 1), ("places", 2), ("onward", 3)] }
noncomputable def ss_CollMatch__init_ : Ss := (.cons (.asg (.attr (.loc 0) 4) (.loc 1)) (.cons (.asg (.attr (.loc 0) 5) (.loc 2)) (.cons (.asg (.attr (.loc 0) 6) (.loc 3)) .nil)))
noncomputable def cx_Elements__init_ : Cx := { kinds := [("self", .local), ("has_ideographs", .local), ("first", .local), ("last", .local), ("base", .local), ("CollBase", .globalImplicit), ("MAX_CODE", .globalImplicit), ("COLL_OTHERS", .globalImplicit), ("coll_ideographs", .globalImplicit)], slots := [("self", 0), ("has_ideographs", 1), ("first", 2), ("last", 3), ("base", 4)] }
noncomputable def ss_Elements__init_ : Ss := (.cons (.asg (.attr (.loc 0) 7) (.dict .t .nil .nil)) (.cons (.asg (.attr (.loc 0) 8) (.dict .i .nil .nil)) (.cons (.asg (.attr (.loc 0) 9) (.tup (.cons (.cst (.int 1)) (.cons (.cst (.int 1)) (.cons (.cst (.int 1)) .nil))))) (.cons (.asg (.attr (.loc 0) 10) (.lst (.cons (.new 227 (.cons (.cst (.int 0)) (.cons (.glb 1114111) (.cons (.glb 64448) .nil)))) .nil))) (.cons (.ifs (.loc 1) (.cons (.for (.tup (.cons (.slot 2) (.cons (.slot 3) (.cons (.slot 4) .nil)))) (.plain (.call 202 .nil)) (.cons (.exp (.meth (.loc 0) "put_implicit" (.cons (.loc 2) (.cons (.loc 3) (.cons (.loc 4) .nil))))) .nil)) .nil) .nil) .nil)))))
noncomputable def cx_Elements_put : Cx := { kinds := [("self", .local), ("codes", .local), ("elements", .local), ("key", .local), ("tuple", .globalImplicit), ("list", .globalImplicit), ("len", .globalImplicit)], slots := [("self", 0), ("codes", 1), ("elements", 2), ("key", 3)] }
noncomputable def ss_Elements_put : Ss := (.cons (.asg (.slot 3) (.typ "tuple" (.cons (.loc 1) .nil))) (.cons (.asg (.idx (.attr (.loc 0) 7) (.loc 3)) (.typ "list" (.cons (.loc 2) .nil))) (.cons (.ifs (.cmp (.meth (.attr (.loc 0) 8) "get" (.cons (.idx (.loc 3) (.cst (.int 0))) (.cons (.cst (.int 0)) .nil))) .Lt (.blt "len" (.cons (.loc 3) .nil))) (.cons (.asg (.idx (.attr (.loc 0) 8) (.idx (.loc 3) (.cst (.int 0)))) (.blt "len" (.cons (.loc 3) .nil))) .nil) .nil) .nil)))
noncomputable def cx_Elements_take_out : Cx := { kinds := [("self", .local), ("codes", .local), ("key", .cell), ("left", .local), ("tuple", .globalImplicit), ("max", .globalImplicit)], slots := [("self", 0), ("codes", 1), ("key", 2), ("left", 3)] }
noncomputable def ss_Elements_take_out : Ss := (.cons (.asg (.slot 2) (.typ "tuple" (.cons (.loc 1) .nil))) (.cons (.ifs (.cmp (.loc 2) .In (.attr (.loc 0) 7)) (.cons (.exp (.meth (.attr (.loc 0) 7) "pop" (.cons (.loc 2) .nil))) (.cons (.asgc 3 (.comp { kinds := [(".0", .local), ("other", .local), ("len", .globalImplicit), ("key", .cell)], slots := [("other", 4), ("key", 2)], own := false } [4] (.blt "len" (.cons (.loc 4) .nil)) (.slot 4) (.plain (.attr (.loc 0) 7)) (.cons (.cmp (.idx (.loc 4) (.cst (.int 0))) .Eq (.idx (.loc 2) (.cst (.int 0)))) .nil))) (.cons (.asg (.idx (.attr (.loc 0) 8) (.idx (.loc 2) (.cst (.int 0)))) (.blt "max" (.cons (.bin .Add (.lst (.cons (.cst (.int 0)) .nil)) (.loc 3)) .nil))) .nil))) .nil) .nil))
noncomputable def cx_Elements_get : Cx := { kinds := [("self", .local), ("codes", .local), ("tuple", .globalImplicit)], slots := [("self", 0), ("codes", 1)] }
noncomputable def ss_Elements_get : Ss := (.cons (.ret (.meth (.attr (.loc 0) 7) "get" (.cons (.typ "tuple" (.cons (.loc 1) .nil)) .nil))) .nil)
noncomputable def cx_Elements_rows : Cx := { kinds := [("self", .cell), ("sorted", .globalImplicit)], slots := [("self", 0)] }
noncomputable def ss_Elements_rows : Ss := (.cons (.ret (.comp { kinds := [(".0", .local), ("key", .local), ("self", .cell)], slots := [("key", 1), ("self", 0)], own := false } [1] (.tup (.cons (.loc 1) (.cons (.idx (.attr (.loc 0) 7) (.loc 1)) .nil))) (.slot 1) (.plain (.blt "sorted" (.cons (.attr (.loc 0) 7) .nil))) .nil)) .nil)
noncomputable def cx_Elements_copy : Cx := { kinds := [("self", .local)], slots := [("self", 0)] }
noncomputable def ss_Elements_copy : Ss := (.cons (.ret (.meth (.loc 0) "scaled" (.cons (.cst (.int 1)) (.cons (.cst (.int 1)) (.cons (.cst (.int 1)) .nil))))) .nil)
noncomputable def cx_Elements_scaled : Cx := { kinds := [("self", .local), ("first", .local), ("second", .local), ("third", .local), ("found", .local), ("key", .local), ("Elements", .globalImplicit), ("coll_scaled", .globalImplicit), ("list", .globalImplicit)], slots := [("self", 0), ("first", 1), ("second", 2), ("third", 3), ("found", 4), ("key", 5)] }
noncomputable def ss_Elements_scaled : Ss := (.cons (.asg (.slot 4) (.new 357 (.cons (.cst (.bool false)) .nil))) (.cons (.for (.slot 5) (.plain (.attr (.loc 0) 7)) (.cons (.exp (.meth (.loc 4) "put" (.cons (.loc 5) (.cons (.call 236 (.cons (.idx (.attr (.loc 0) 7) (.loc 5)) (.cons (.tup (.cons (.loc 1) (.cons (.loc 2) (.cons (.loc 3) .nil)))) .nil))) .nil)))) .nil)) (.cons (.asg (.attr (.loc 4) 10) (.typ "list" (.cons (.attr (.loc 0) 10) .nil))) (.cons (.asg (.attr (.loc 4) 9) (.tup (.cons (.bin .Mult (.idx (.attr (.loc 0) 9) (.cst (.int 0))) (.loc 1)) (.cons (.bin .Mult (.idx (.attr (.loc 0) 9) (.cst (.int 1))) (.loc 2)) (.cons (.bin .Mult (.idx (.attr (.loc 0) 9) (.cst (.int 2))) (.loc 3)) .nil))))) (.cons (.ret (.loc 4)) .nil)))))
noncomputable def cx_Elements_put_implicit : Cx := { kinds := [("self", .local), ("first", .local), ("last", .local), ("base", .local), ("origin", .local), ("CollBase", .globalImplicit)], slots := [("self", 0), ("first", 1), ("last", 2), ("base", 3), ("origin", 4)] }
noncomputable def ss_Elements_put_implicit : Ss := (.cons (.exp (.meth (.attr (.loc 0) 10) "append" (.cons (.new 227 (.cons (.loc 1) (.cons (.loc 2) (.cons (.loc 3) (.cons (.loc 4) .nil))))) .nil))) .nil)
noncomputable def cx_Elements_implicit_of : Cx := { kinds := [("self", .local), ("code", .local), ("at", .local), ("len", .globalImplicit), ("coll_scaled", .globalImplicit)], slots := [("self", 0), ("code", 1), ("at", 2)] }
noncomputable def ss_Elements_implicit_of : Ss := (.cons (.asg (.slot 2) (.bin .Sub (.blt "len" (.cons (.attr (.loc 0) 10) .nil)) (.cst (.int 1)))) (.cons (.whl (.not (.cmp2 (.attr (.idx (.attr (.loc 0) 10) (.loc 2)) 0) .LtE (.loc 1) .LtE (.attr (.idx (.attr (.loc 0) 10) (.loc 2)) 1))) (.cons (.aug 2 .Sub (.cst (.int 1))) .nil)) (.cons (.ret (.call 236 (.cons (.meth (.idx (.attr (.loc 0) 10) (.loc 2)) "elements_of" (.cons (.loc 1) .nil)) (.cons (.attr (.loc 0) 9) .nil)))) .nil)))
noncomputable def cx_Elements_match : Cx := { kinds := [("self", .local), ("codes", .cell), ("at", .local), ("gone", .local), ("data", .local), ("live", .local), ("size", .local), ("places", .local), ("key", .local), ("coll_live", .globalImplicit), ("max", .globalImplicit), ("len", .globalImplicit), ("tuple", .globalImplicit), ("CollMatch", .globalImplicit)], slots := [("self", 0), ("codes", 1), ("at", 2), ("gone", 3), ("data", 4), ("live", 5), ("size", 6), ("places", 7), ("key", 8)] }
noncomputable def ss_Elements_match : Ss := (.cons (.asg (.slot 5) (.call 368 (.cons (.loc 3) (.cons (.loc 2) (.cons (.blt "max" (.cons (.cst (.int 1)) (.cons (.meth (.attr (.loc 0) 8) "get" (.cons (.idx (.loc 1) (.loc 2)) (.cons (.cst (.int 0)) .nil))) .nil))) .nil))))) (.cons (.asg (.slot 6) (.blt "len" (.cons (.loc 5) .nil))) (.cons (.whl (.bop .And (.cons (.cmp (.loc 6) .Gt (.cst (.int 0))) (.cons (.cmp (.typ "tuple" (.cons (.comp { kinds := [(".0", .local), ("place", .local), ("codes", .cell)], slots := [("place", 9), ("codes", 1)], own := false } [9] (.idx (.loc 1) (.loc 9)) (.slot 9) (.plain (.slTo (.loc 5) (.loc 6))) .nil) .nil)) .NotIn (.attr (.loc 0) 7)) .nil))) (.cons (.aug 6 .Sub (.cst (.int 1))) .nil)) (.cons (.ifs (.cmp (.loc 6) .Eq (.cst (.int 0))) (.cons (.ret (.new 253 (.cons (.meth (.loc 0) "implicit_of" (.cons (.idx (.loc 1) (.loc 2)) .nil)) (.cons (.lst (.cons (.loc 2) .nil)) (.cons (.bin .Add (.loc 2) (.cst (.int 1))) .nil))))) .nil) .nil) (.cons (.asg (.slot 7) (.slTo (.loc 5) (.loc 6))) (.cons (.asg (.slot 8) (.meth (.loc 0) "with_marks" (.cons (.loc 1) (.cons (.loc 7) (.cons (.loc 3) (.cons (.loc 4) .nil)))))) (.cons (.ret (.new 253 (.cons (.idx (.attr (.loc 0) 7) (.loc 8)) (.cons (.loc 7) (.cons (.bin .Add (.idx (.loc 5) (.bin .Sub (.loc 6) (.cst (.int 1)))) (.cst (.int 1))) .nil))))) .nil)))))))
noncomputable def cx_Elements_with_marks : Cx := { kinds := [("self", .local), ("codes", .cell), ("places", .local), ("gone", .local), ("data", .local), ("key", .local), ("at", .local), ("stays", .local), ("rank", .local), ("tuple", .globalImplicit), ("len", .globalImplicit)], slots := [("self", 0), ("codes", 1), ("places", 2), ("gone", 3), ("data", 4), ("key", 5), ("at", 6), ("stays", 7), ("rank", 8)] }
noncomputable def ss_Elements_with_marks : Ss := (.cons (.asg (.slot 5) (.typ "tuple" (.cons (.comp { kinds := [(".0", .local), ("place", .local), ("codes", .cell)], slots := [("place", 9), ("codes", 1)], own := false } [9] (.idx (.loc 1) (.loc 9)) (.slot 9) (.plain (.loc 2)) .nil) .nil))) (.cons (.swp [6, 7] (.tup (.cons (.bin .Add (.idx (.loc 2) (.neg (.cst (.int 1)))) (.cst (.int 1))) (.cons (.cst (.int 0)) .nil)))) (.cons (.whl (.cmp (.loc 6) .Lt (.blt "len" (.cons (.loc 1) .nil))) (.cons (.asg (.slot 8) (.meth (.loc 4) "get" (.cons (.cst (.str "ccc")) (.cons (.idx (.loc 1) (.loc 6)) .nil)))) (.cons (.ifs (.cmp (.loc 8) .Eq (.cst (.int 0))) (.cons .brk .nil) .nil) (.cons (.ifs (.bop .And (.cons (.not (.idx (.loc 3) (.loc 6))) (.cons (.cmp (.loc 8) .Gt (.loc 7)) .nil))) (.cons (.ifs (.cmp (.bin .Add (.loc 5) (.tup (.cons (.idx (.loc 1) (.loc 6)) .nil))) .In (.attr (.loc 0) 7)) (.cons (.asg (.slot 5) (.bin .Add (.loc 5) (.tup (.cons (.idx (.loc 1) (.loc 6)) .nil)))) (.cons (.asg (.idx (.loc 3) (.loc 6)) (.cst (.bool true))) (.cons (.exp (.meth (.loc 2) "append" (.cons (.loc 6) .nil))) .nil))) (.cons (.asg (.slot 7) (.loc 8)) .nil)) .nil) .nil) (.cons (.aug 6 .Add (.cst (.int 1))) .nil))))) (.cons (.ret (.loc 5)) .nil))))
noncomputable def cx_Elements_located : Cx := { kinds := [("self", .local), ("text", .local), ("data", .local), ("rows", .cell), ("codes", .local), ("gone", .local), ("found", .local), ("at", .local), ("taken", .local), ("origins", .local), ("coll_decomposed", .globalImplicit), ("len", .globalImplicit), ("min", .globalImplicit), ("max", .globalImplicit)], slots := [("self", 0), ("text", 1), ("data", 2), ("rows", 3), ("codes", 4), ("gone", 5), ("found", 6), ("at", 7), ("taken", 8), ("origins", 9)] }
noncomputable def ss_Elements_located : Ss := (.cons (.asg (.slot 3) (.call 373 (.cons (.loc 1) (.cons (.loc 2) .nil)))) (.cons (.asg (.tup (.cons (.slot 4) (.cons (.slot 5) (.cons (.slot 6) (.cons (.slot 7) .nil))))) (.tup (.cons (.comp { kinds := [(".0", .local), ("row", .local)], slots := [("row", 10)], own := false } [10] (.idx (.loc 10) (.cst (.int 0))) (.slot 10) (.plain (.loc 3)) .nil) (.cons (.bin .Mult (.lst (.cons (.cst (.bool false)) .nil)) (.blt "len" (.cons (.loc 3) .nil))) (.cons (.lst .nil) (.cons (.cst (.int 0)) .nil)))))) (.cons (.whl (.cmp (.loc 7) .Lt (.blt "len" (.cons (.loc 4) .nil))) (.cons (.ifs (.idx (.loc 5) (.loc 7)) (.cons (.aug 7 .Add (.cst (.int 1))) .nil) (.cons (.asg (.slot 8) (.meth (.loc 0) "match" (.cons (.loc 4) (.cons (.loc 7) (.cons (.loc 5) (.cons (.loc 2) .nil)))))) (.cons (.asgc 9 (.comp { kinds := [(".0", .local), ("place", .local), ("rows", .cell)], slots := [("place", 11), ("rows", 3)], own := false } [11] (.idx (.idx (.loc 3) (.loc 11)) (.cst (.int 1))) (.slot 11) (.plain (.attr (.loc 8) 5)) .nil)) (.cons (.exp (.meth (.loc 6) "append" (.cons (.tup (.cons (.attr (.loc 8) 4) (.cons (.blt "min" (.cons (.loc 9) .nil)) (.cons (.bin .Add (.blt "max" (.cons (.loc 9) .nil)) (.cst (.int 1))) .nil)))) .nil))) (.cons (.asg (.slot 7) (.attr (.loc 8) 6)) .nil))))) .nil)) (.cons (.ret (.loc 6)) .nil))))
noncomputable def cx_Elements_elements_of : Cx := { kinds := [("self", .local), ("text", .local), ("data", .local), ("found", .local), ("elements", .local), ("begun", .local), ("ended", .local)], slots := [("self", 0), ("text", 1), ("data", 2), ("found", 3), ("elements", 4), ("begun", 5), ("ended", 6)] }
noncomputable def ss_Elements_elements_of : Ss := (.cons (.asg (.slot 3) (.lst .nil)) (.cons (.for (.tup (.cons (.slot 4) (.cons (.slot 5) (.cons (.slot 6) .nil)))) (.plain (.meth (.loc 0) "located" (.cons (.loc 1) (.cons (.loc 2) .nil)))) (.cons (.exp (.meth (.loc 3) "extend" (.cons (.loc 4) .nil))) .nil)) (.cons (.ret (.loc 3)) .nil)))
noncomputable def cx_coll_live : Cx := { kinds := [("gone", .local), ("at", .local), ("most", .local), ("found", .local), ("len", .globalImplicit)], slots := [("gone", 0), ("at", 1), ("most", 2), ("found", 3)] }
noncomputable def ss_coll_live : Ss := (.cons (.asg (.slot 3) (.lst .nil)) (.cons (.whl (.bop .And (.cons (.cmp (.loc 1) .Lt (.blt "len" (.cons (.loc 0) .nil))) (.cons (.cmp (.blt "len" (.cons (.loc 3) .nil)) .Lt (.loc 2)) .nil))) (.cons (.ifs (.not (.idx (.loc 0) (.loc 1))) (.cons (.exp (.meth (.loc 3) "append" (.cons (.loc 1) .nil))) .nil) .nil) (.cons (.aug 1 .Add (.cst (.int 1))) .nil))) (.cons (.ret (.loc 3)) .nil)))
noncomputable def cx_coll_decomposed : Cx := { kinds := [("text", .local), ("data", .local), ("rows", .local), ("place", .local), ("code", .local), ("part", .local), ("rank", .local), ("at", .local), ("enumerate", .globalImplicit), ("nfd", .globalImplicit), ("len", .globalImplicit)], slots := [("text", 0), ("data", 1), ("rows", 2), ("place", 3), ("code", 4), ("part", 5), ("rank", 6), ("at", 7)] }
noncomputable def ss_coll_decomposed : Ss := (.cons (.asg (.slot 2) (.lst .nil)) (.cons (.for (.tup (.cons (.slot 3) (.cons (.slot 4) .nil))) (.enum (.loc 0)) (.cons (.for (.slot 5) (.plain (.call 195 (.cons (.lst (.cons (.loc 4) .nil)) (.cons (.loc 1) .nil)))) (.cons (.asg (.slot 6) (.meth (.loc 1) "get" (.cons (.cst (.str "ccc")) (.cons (.loc 5) .nil)))) (.cons (.asg (.slot 7) (.blt "len" (.cons (.loc 2) .nil))) (.cons (.whl (.bop .And (.cons (.cmp (.loc 6) .Gt (.cst (.int 0))) (.cons (.cmp (.loc 7) .Gt (.cst (.int 0))) (.cons (.cmp (.idx (.idx (.loc 2) (.bin .Sub (.loc 7) (.cst (.int 1)))) (.cst (.int 2))) .Gt (.loc 6)) .nil)))) (.cons (.aug 7 .Sub (.cst (.int 1))) .nil)) (.cons (.exp (.meth (.loc 2) "insert" (.cons (.loc 7) (.cons (.tup (.cons (.loc 5) (.cons (.loc 3) (.cons (.loc 6) .nil)))) .nil)))) .nil))))) .nil)) (.cons (.ret (.comp { kinds := [(".0", .local), ("row", .local)], slots := [("row", 8)], own := false } [8] (.slTo (.loc 8) (.cst (.int 2))) (.slot 8) (.plain (.loc 2)) .nil)) .nil)))
noncomputable def cx_range_are_like : Cx := { kinds := [("one", .local), ("other", .local), ("isinstance", .globalImplicit), ("bool", .globalImplicit)], slots := [("one", 0), ("other", 1)] }
noncomputable def ss_range_are_like : Ss := (.cons (.ret (.bop .And (.cons (.cmp (.loc 0) .Eq (.loc 1)) (.cons (.cmp (.isb (.loc 0)) .Eq (.isb (.loc 1))) .nil)))) .nil)
noncomputable def cx_RangeMap__init_ : Cx := { kinds := [("self", .local), ("default", .local)], slots := [("self", 0), ("default", 1)] }
noncomputable def ss_RangeMap__init_ : Ss := (.cons (.asg (.attr (.loc 0) 11) (.loc 1)) (.cons (.asg (.attr (.loc 0) 12) (.lst (.cons (.cst (.int 0)) .nil))) (.cons (.asg (.attr (.loc 0) 13) (.lst (.cons (.loc 1) .nil))) .nil)))
noncomputable def cx_RangeMap_get : Cx := { kinds := [("self", .local), ("code", .local), ("place_by_half", .globalImplicit)], slots := [("self", 0), ("code", 1)] }
noncomputable def ss_RangeMap_get : Ss := (.cons (.ret (.idx (.attr (.loc 0) 13) (.call 61 (.cons (.attr (.loc 0) 12) (.cons (.loc 1) .nil))))) .nil)
noncomputable def cx_RangeMap_put : Cx := { kinds := [("self", .local), ("first", .local), ("last", .local), ("value", .local), ("low", .local), ("high", .local), ("behind", .local), ("starts", .local), ("values", .local), ("place_by_half", .globalImplicit), ("MAX_CODE", .globalImplicit), ("range_are_like", .globalImplicit)], slots := [("self", 0), ("first", 1), ("last", 2), ("value", 3), ("low", 4), ("high", 5), ("behind", 6), ("starts", 7), ("values", 8)] }
noncomputable def ss_RangeMap_put : Ss := (.cons (.ifs (.cmp (.loc 1) .Gt (.loc 2)) (.cons .rse .nil) .nil) (.cons (.asg (.slot 4) (.bin .Add (.call 61 (.cons (.attr (.loc 0) 12) (.cons (.bin .Sub (.loc 1) (.cst (.int 1))) .nil))) (.cst (.int 1)))) (.cons (.asg (.slot 5) (.bin .Add (.call 61 (.cons (.attr (.loc 0) 12) (.cons (.bin .Add (.loc 2) (.cst (.int 1))) .nil))) (.cst (.int 1)))) (.cons (.asg (.slot 6) (.idx (.attr (.loc 0) 13) (.bin .Sub (.loc 5) (.cst (.int 1))))) (.cons (.swp [7, 8] (.tup (.cons (.lst (.cons (.loc 1) .nil)) (.cons (.lst (.cons (.loc 3) .nil)) .nil)))) (.cons (.ifs (.bop .And (.cons (.cmp (.loc 2) .Lt (.glb 1114111)) (.cons (.not (.call 380 (.cons (.loc 6) (.cons (.loc 3) .nil)))) .nil))) (.cons (.exp (.meth (.loc 7) "append" (.cons (.bin .Add (.loc 2) (.cst (.int 1))) .nil))) (.cons (.exp (.meth (.loc 8) "append" (.cons (.loc 6) .nil))) .nil)) .nil) (.cons (.ifs (.bop .And (.cons (.cmp (.loc 4) .Gt (.cst (.int 0))) (.cons (.call 380 (.cons (.idx (.attr (.loc 0) 13) (.bin .Sub (.loc 4) (.cst (.int 1)))) (.cons (.loc 3) .nil))) .nil))) (.cons (.swp [7, 8] (.tup (.cons (.slFrom (.loc 7) (.cst (.int 1))) (.cons (.slFrom (.loc 8) (.cst (.int 1))) .nil)))) .nil) .nil) (.cons (.asg (.attr (.loc 0) 12) (.bin .Add (.bin .Add (.slTo (.attr (.loc 0) 12) (.loc 4)) (.loc 7)) (.slFrom (.attr (.loc 0) 12) (.loc 5)))) (.cons (.asg (.attr (.loc 0) 13) (.bin .Add (.bin .Add (.slTo (.attr (.loc 0) 13) (.loc 4)) (.loc 8)) (.slFrom (.attr (.loc 0) 13) (.loc 5)))) .nil)))))))))
noncomputable def cx_data_defaults : Cx := { kinds := [("found", .local), ("name", .local)], slots := [("found", 0), ("name", 1)] }
noncomputable def ss_data_defaults : Ss := (.cons (.asg (.slot 0) (.dict .s (.cons (.cst (.str "gc")) (.cons (.cst (.str "ccc")) (.cons (.cst (.str "bc")) (.cons (.cst (.str "lb")) (.cons (.cst (.str "ea")) (.cons (.cst (.str "sc")) (.cons (.cst (.str "jt")) (.cons (.cst (.str "incb")) .nil)))))))) (.cons (.cst (.str "Cn")) (.cons (.cst (.int 0)) (.cons (.cst (.str "L")) (.cons (.cst (.str "XX")) (.cons (.cst (.str "N")) (.cons (.cst (.str "Zzzz")) (.cons (.cst (.str "U")) (.cons (.cst (.str "None")) .nil)))))))))) (.cons (.for (.slot 1) (.plain (.tup (.cons (.cst (.str "gcb")) (.cons (.cst (.str "wb")) (.cons (.cst (.str "sb")) .nil))))) (.cons (.asg (.idx (.loc 0) (.loc 1)) (.cst (.str "Other"))) .nil)) (.cons (.for (.slot 1) (.plain (.tup (.cons (.cst (.str "ex")) (.cons (.cst (.str "sd")) (.cons (.cst (.str "cased")) (.cons (.cst (.str "ci")) (.cons (.cst (.str "ep")) (.cons (.cst (.str "di")) (.cons (.cst (.str "ids")) (.cons (.cst (.str "idc")) (.cons (.cst (.str "xids")) (.cons (.cst (.str "xidc")) (.cons (.cst (.str "pat_syn")) (.cons (.cst (.str "pat_ws")) (.cons (.cst (.str "idst")) .nil))))))))))))))) (.cons (.asg (.idx (.loc 0) (.loc 1)) (.cst (.bool false))) .nil)) (.cons (.for (.slot 1) (.plain (.tup (.cons (.cst (.str "dm")) (.cons (.cst (.str "uc")) (.cons (.cst (.str "lc")) (.cons (.cst (.str "tc")) (.cons (.cst (.str "cf")) (.cons (.cst (.str "bm")) (.cons (.cst (.str "bpb")) (.cons (.cst (.str "scx")) (.cons (.cst (.str "nt")) (.cons (.cst (.str "nv")) (.cons (.cst (.str "name")) (.cons (.cst (.str "conf")) (.cons (.cst (.str "nfkc_cf")) .nil))))))))))))))) (.cons (.asg (.idx (.loc 0) (.loc 1)) (.cst .none)) .nil)) (.cons (.for (.slot 1) (.plain (.tup (.cons (.cst (.str "suc")) (.cons (.cst (.str "slc")) (.cons (.cst (.str "stc")) (.cons (.cst (.str "alias")) .nil)))))) (.cons (.asg (.idx (.loc 0) (.loc 1)) (.tup .nil)) .nil)) (.cons (.asg (.idx (.loc 0) (.cst (.str "idna"))) (.tup (.cons (.cst (.str "disallowed")) (.cons (.tup .nil) .nil)))) (.cons (.ret (.loc 0)) .nil)))))))
noncomputable def cx_Data__init_ : Cx := { kinds := [("self", .local), ("data_defaults", .globalImplicit)], slots := [("self", 0)] }
noncomputable def ss_Data__init_ : Ss := (.cons (.asg (.attr (.loc 0) 14) (.call 441 .nil)) (.cons (.asg (.attr (.loc 0) 15) (.dict .s .nil .nil)) (.cons (.asg (.attr (.loc 0) 16) (.dict .s .nil .nil)) (.cons (.asg (.attr (.loc 0) 17) (.dict .s .nil .nil)) .nil))))
noncomputable def cx_Data_put : Cx := { kinds := [("self", .local), ("name", .local), ("first", .local), ("last", .local), ("value", .local)], slots := [("self", 0), ("name", 1), ("first", 2), ("last", 3), ("value", 4)] }
noncomputable def ss_Data_put : Ss := (.cons (.exp (.meth (.meth (.loc 0) "map_of" (.cons (.loc 1) .nil)) "put" (.cons (.loc 2) (.cons (.loc 3) (.cons (.loc 4) .nil))))) .nil)
noncomputable def cx_Data_get : Cx := { kinds := [("self", .local), ("name", .local), ("code", .local)], slots := [("self", 0), ("name", 1), ("code", 2)] }
noncomputable def ss_Data_get : Ss := (.cons (.ifs (.cmp (.loc 1) .In (.attr (.loc 0) 15)) (.cons (.ret (.meth (.idx (.attr (.loc 0) 15) (.loc 1)) "get" (.cons (.loc 2) .nil))) .nil) .nil) (.cons (.ret (.meth (.attr (.loc 0) 14) "get" (.cons (.loc 1) .nil))) .nil))
noncomputable def cx_Data_map_of : Cx := { kinds := [("self", .local), ("name", .local), ("RangeMap", .globalImplicit)], slots := [("self", 0), ("name", 1)] }
noncomputable def ss_Data_map_of : Ss := (.cons (.ifs (.cmp (.loc 1) .NotIn (.attr (.loc 0) 15)) (.cons (.asg (.idx (.attr (.loc 0) 15) (.loc 1)) (.new 423 (.cons (.meth (.attr (.loc 0) 14) "get" (.cons (.loc 1) .nil)) .nil))) .nil) .nil) (.cons (.ret (.idx (.attr (.loc 0) 15) (.loc 1))) .nil))
noncomputable def cx_law_ranks : Cx := { kinds := [], slots := [] }
noncomputable def ss_law_ranks : Ss := (.cons (.ret (.dict .i (.cons (.cst (.int 768)) (.cons (.cst (.int 769)) (.cons (.cst (.int 803)) (.cons (.cst (.int 807)) .nil)))) (.cons (.cst (.int 230)) (.cons (.cst (.int 230)) (.cons (.cst (.int 220)) (.cons (.cst (.int 202)) .nil)))))) .nil)
noncomputable def cx_law_data : Cx := { kinds := [("data", .local), ("ranks", .local), ("code", .local), ("Data", .globalImplicit), ("_law_ranks", .globalImplicit), ("sorted", .globalImplicit)], slots := [("data", 0), ("ranks", 1), ("code", 2)] }
noncomputable def ss_law_data : Ss := (.cons (.swp [0, 1] (.tup (.cons (.new 479 .nil) (.cons (.call 490 .nil) .nil)))) (.cons (.for (.slot 2) (.plain (.blt "sorted" (.cons (.loc 1) .nil))) (.cons (.exp (.meth (.loc 0) "put" (.cons (.cst (.str "ccc")) (.cons (.loc 2) (.cons (.loc 2) (.cons (.idx (.loc 1) (.loc 2)) .nil)))))) .nil)) (.cons (.exp (.meth (.loc 0) "put" (.cons (.cst (.str "dm")) (.cons (.cst (.int 224)) (.cons (.cst (.int 224)) (.cons (.tup (.cons (.cst (.str "")) (.cons (.tup (.cons (.cst (.int 97)) (.cons (.cst (.int 768)) .nil))) .nil))) .nil)))))) (.cons (.exp (.meth (.loc 0) "put" (.cons (.cst (.str "dm")) (.cons (.cst (.int 225)) (.cons (.cst (.int 225)) (.cons (.tup (.cons (.cst (.str "")) (.cons (.tup (.cons (.cst (.int 97)) (.cons (.cst (.int 769)) .nil))) .nil))) .nil)))))) (.cons (.ret (.loc 0)) .nil)))))
noncomputable def cx_law_plain : Cx := { kinds := [("text", .local), ("found", .local), ("ranks", .local), ("is_done", .local), ("code", .local), ("k", .local), ("_law_ranks", .globalImplicit), ("range", .globalImplicit), ("len", .globalImplicit)], slots := [("text", 0), ("found", 1), ("ranks", 2), ("is_done", 3), ("code", 4), ("k", 5)] }
noncomputable def ss_law_plain : Ss := (.cons (.swp [1, 2, 3] (.tup (.cons (.lst .nil) (.cons (.call 490 .nil) (.cons (.cst (.bool false)) .nil))))) (.cons (.for (.slot 4) (.plain (.loc 0)) (.cons (.asg (.slot 1) (.bin .Add (.loc 1) (.meth (.dict .i (.cons (.cst (.int 224)) (.cons (.cst (.int 225)) .nil)) (.cons (.lst (.cons (.cst (.int 97)) (.cons (.cst (.int 768)) .nil))) (.cons (.lst (.cons (.cst (.int 97)) (.cons (.cst (.int 769)) .nil))) .nil))) "get" (.cons (.loc 4) (.cons (.lst (.cons (.loc 4) .nil)) .nil))))) .nil)) (.cons (.whl (.not (.loc 3)) (.cons (.asg (.slot 3) (.cst (.bool true))) (.cons (.for (.slot 5) (.range1 (.bin .Sub (.blt "len" (.cons (.loc 1) .nil)) (.cst (.int 1)))) (.cons (.ifs (.cmp2 (.meth (.loc 2) "get" (.cons (.idx (.loc 1) (.loc 5)) (.cons (.cst (.int 0)) .nil))) .Gt (.meth (.loc 2) "get" (.cons (.idx (.loc 1) (.bin .Add (.loc 5) (.cst (.int 1)))) (.cons (.cst (.int 0)) .nil))) .Gt (.cst (.int 0))) (.cons (.asg (.tup (.cons (.idx (.loc 1) (.loc 5)) (.cons (.idx (.loc 1) (.bin .Add (.loc 5) (.cst (.int 1)))) (.cons (.slot 3) .nil)))) (.tup (.cons (.idx (.loc 1) (.bin .Add (.loc 5) (.cst (.int 1)))) (.cons (.idx (.loc 1) (.loc 5)) (.cons (.cst (.bool false)) .nil))))) .nil) .nil) .nil)) .nil))) (.cons (.ret (.loc 1)) .nil))))
noncomputable def cx_law_reckoned : Cx := { kinds := [("code", .local), ("base", .local)], slots := [("code", 0), ("base", 1)] }
noncomputable def ss_law_reckoned : Ss := (.cons (.asg (.slot 1) (.ife (.cmp2 (.cst (.int 19968)) .LtE (.loc 0) .LtE (.cst (.int 40959))) (.cst (.int 64320)) (.ife (.cmp2 (.cst (.int 13312)) .LtE (.loc 0) .LtE (.cst (.int 19903))) (.cst (.int 64384)) (.cst (.int 64448))))) (.cons (.ret (.lst (.cons (.tup (.cons (.bin .Add (.loc 1) (.bin .FloorDiv (.loc 0) (.cst (.int 32768)))) (.cons (.cst (.int 32)) (.cons (.cst (.int 2)) (.cons (.cst (.bool false)) .nil))))) (.cons (.tup (.cons (.bin .Add (.cst (.int 32768)) (.bin .Mod (.loc 0) (.cst (.int 32768)))) (.cons (.cst (.int 0)) (.cons (.cst (.int 0)) (.cons (.cst (.bool false)) .nil))))) .nil)))) .nil))
noncomputable def cx_law_elements : Cx := { kinds := [("text", .local), ("table", .cell), ("left", .cell), ("ranks", .cell), ("found", .local), ("sizes", .local), ("row", .local), ("rest", .cell), ("stayed", .local), ("at", .cell), ("is_free", .local), ("_law_plain", .globalImplicit), ("_law_ranks", .globalImplicit), ("range", .globalImplicit), ("len", .globalImplicit), ("_law_reckoned", .globalImplicit), ("tuple", .globalImplicit)], slots := [("text", 0), ("table", 1), ("left", 2), ("ranks", 3), ("found", 4), ("sizes", 5), ("row", 6), ("rest", 7), ("stayed", 8), ("at", 9), ("is_free", 10)] }
noncomputable def ss_law_elements : Ss := (.cons (.asg (.tup (.cons (.slot 2) (.cons (.slot 3) (.cons (.slot 4) .nil)))) (.tup (.cons (.call 504 (.cons (.loc 0) .nil)) (.cons (.call 490 .nil) (.cons (.lst .nil) .nil))))) (.cons (.whl (.cmp (.loc 2) .NotEq (.lst .nil)) (.cons (.asgc 5 (.comp { kinds := [(".0", .local), ("size", .local), ("tuple", .globalImplicit), ("left", .cell), ("table", .cell)], slots := [("size", 11), ("left", 2), ("table", 1)], own := false } [11] (.loc 11) (.slot 11) (.range2 (.cst (.int 1)) (.bin .Add (.blt "len" (.cons (.loc 2) .nil)) (.cst (.int 1)))) (.cons (.cmp (.typ "tuple" (.cons (.slTo (.loc 2) (.loc 11)) .nil)) .In (.loc 1)) .nil))) (.cons (.ifs (.cmp (.loc 5) .Eq (.lst .nil)) (.cons (.asg (.slot 4) (.bin .Add (.loc 4) (.call 511 (.cons (.idx (.loc 2) (.cst (.int 0))) .nil)))) (.cons (.asg (.slot 2) (.slFrom (.loc 2) (.cst (.int 1)))) .nil)) (.cons (.asg (.tup (.cons (.slot 6) (.cons (.slot 7) (.cons (.slot 8) (.cons (.slot 9) .nil))))) (.tup (.cons (.slTo (.loc 2) (.idx (.loc 5) (.neg (.cst (.int 1))))) (.cons (.slFrom (.loc 2) (.idx (.loc 5) (.neg (.cst (.int 1))))) (.cons (.lst .nil) (.cons (.cst (.int 0)) .nil)))))) (.cons (.whl (.bop .And (.cons (.cmp (.loc 9) .Lt (.blt "len" (.cons (.loc 7) .nil))) (.cons (.cmp (.idx (.loc 7) (.loc 9)) .In (.loc 3)) .nil))) (.cons (.asg (.slot 10) (.cmp (.comp { kinds := [(".0", .local), ("code", .local), ("at", .cell), ("ranks", .cell), ("rest", .cell)], slots := [("code", 12), ("at", 9), ("ranks", 3), ("rest", 7)], own := false } [12] (.loc 12) (.slot 12) (.plain (.loc 8)) (.cons (.cmp (.idx (.loc 3) (.loc 12)) .GtE (.idx (.loc 3) (.idx (.loc 7) (.loc 9)))) .nil)) .Eq (.lst .nil))) (.cons (.ifs (.bop .And (.cons (.loc 10) (.cons (.cmp (.typ "tuple" (.cons (.bin .Add (.loc 6) (.lst (.cons (.idx (.loc 7) (.loc 9)) .nil))) .nil)) .In (.loc 1)) .nil))) (.cons (.asg (.slot 6) (.bin .Add (.loc 6) (.lst (.cons (.idx (.loc 7) (.loc 9)) .nil)))) .nil) (.cons (.exp (.meth (.loc 8) "append" (.cons (.idx (.loc 7) (.loc 9)) .nil))) .nil)) (.cons (.asg (.slot 9) (.bin .Add (.loc 9) (.cst (.int 1)))) .nil)))) (.cons (.asg (.slot 4) (.bin .Add (.loc 4) (.idx (.loc 1) (.typ "tuple" (.cons (.loc 6) .nil))))) (.cons (.asg (.slot 2) (.bin .Add (.loc 8) (.slFrom (.loc 7) (.loc 9)))) .nil))))) .nil))) (.cons (.ret (.loc 4)) .nil)))
noncomputable def cx_law_rows : Cx := { kinds := [("found", .local)], slots := [("found", 0)] }
noncomputable def ss_law_rows : Ss := (.cons (.asg (.slot 0) (.lst (.cons (.tup (.cons (.cst (.int 97)) .nil)) (.cons (.tup (.cons (.cst (.int 98)) .nil)) (.cons (.tup (.cons (.cst (.int 768)) .nil)) (.cons (.tup (.cons (.cst (.int 803)) .nil)) (.cons (.tup (.cons (.cst (.int 769)) .nil)) (.cons (.tup (.cons (.cst (.int 99)) .nil)) (.cons (.tup (.cons (.cst (.int 97)) (.cons (.cst (.int 98)) .nil))) (.cons (.tup (.cons (.cst (.int 97)) (.cons (.cst (.int 768)) .nil))) (.cons (.tup (.cons (.cst (.int 97)) (.cons (.cst (.int 803)) .nil))) (.cons (.tup (.cons (.cst (.int 97)) (.cons (.cst (.int 769)) .nil))) (.cons (.tup (.cons (.cst (.int 97)) (.cons (.cst (.int 803)) (.cons (.cst (.int 768)) .nil)))) .nil))))))))))))) (.cons (.ret (.bin .Add (.loc 0) (.lst (.cons (.tup (.cons (.cst (.int 98)) (.cons (.cst (.int 768)) .nil))) (.cons (.tup (.cons (.cst (.int 97)) (.cons (.cst (.int 98)) (.cons (.cst (.int 99)) .nil)))) (.cons (.tup (.cons (.cst (.int 97)) (.cons (.cst (.int 98)) (.cons (.cst (.int 769)) .nil)))) (.cons (.tup (.cons (.cst (.int 803)) (.cons (.cst (.int 768)) .nil))) (.cons (.tup (.cons (.cst (.int 97)) (.cons (.cst (.int 807)) (.cons (.cst (.int 769)) .nil)))) (.cons (.tup (.cons (.cst (.int 807)) .nil)) (.cons (.tup (.cons (.cst (.int 98)) (.cons (.cst (.int 807)) .nil))) (.cons (.tup (.cons (.cst (.int 97)) (.cons (.cst (.int 768)) (.cons (.cst (.int 769)) .nil)))) .nil))))))))))) .nil))
noncomputable def cx_law_table : Cx := { kinds := [("mask", .local), ("found", .local), ("k", .local), ("row", .local), ("some", .local), ("enumerate", .globalImplicit), ("_law_rows", .globalImplicit)], slots := [("mask", 0), ("found", 1), ("k", 2), ("row", 3), ("some", 4)] }
noncomputable def ss_law_table : Ss := (.cons (.asg (.slot 1) (.dict .t .nil .nil)) (.cons (.for (.tup (.cons (.slot 2) (.cons (.slot 3) .nil))) (.enum (.call 523 .nil)) (.cons (.ifs (.bop .Or (.cons (.cmp (.bin .Mod (.bin .FloorDiv (.loc 0) (.bin .Pow (.cst (.int 2)) (.loc 2))) (.cst (.int 2))) .Eq (.cst (.int 1))) (.cons (.bop .And (.cons (.cmp (.loc 2) .Lt (.cst (.int 6))) (.cons (.cmp (.bin .Mod (.loc 0) (.cst (.int 5))) .Gt (.cst (.int 0))) .nil))) .nil))) (.cons (.asg (.slot 4) (.lst (.cons (.tup (.cons (.bin .Add (.cst (.int 1000)) (.bin .Mult (.cst (.int 10)) (.loc 2))) (.cons (.cst (.int 32)) (.cons (.cst (.int 2)) (.cons (.cst (.bool false)) .nil))))) (.cons (.tup (.cons (.cst (.int 0)) (.cons (.bin .Add (.cst (.int 40)) (.loc 2)) (.cons (.bin .Add (.cst (.int 2)) (.bin .Mod (.loc 2) (.cst (.int 4)))) (.cons (.cst (.bool false)) .nil))))) .nil)))) (.cons (.asg (.idx (.loc 1) (.loc 3)) (.slTo (.loc 4) (.bin .Mod (.bin .Add (.bin .FloorDiv (.loc 0) (.bin .Add (.loc 2) (.cst (.int 1)))) (.loc 2)) (.cst (.int 3))))) .nil)) .nil) .nil)) (.cons (.ret (.loc 1)) .nil)))
noncomputable def cx_law_is_kept : Cx := { kinds := [("own", .local), ("table", .cell), ("row", .local), ("sorted", .globalImplicit), ("_law_rows", .globalImplicit)], slots := [("own", 0), ("table", 1), ("row", 2)] }
noncomputable def ss_law_is_kept : Ss := (.cons (.ifs (.cmp (.meth (.loc 0) "rows" .nil) .NotEq (.comp { kinds := [(".0", .local), ("row", .local), ("table", .cell)], slots := [("row", 3), ("table", 1)], own := false } [3] (.tup (.cons (.loc 3) (.cons (.idx (.loc 1) (.loc 3)) .nil))) (.slot 3) (.plain (.blt "sorted" (.cons (.loc 1) .nil))) .nil)) (.cons (.ret (.cst (.bool false))) .nil) .nil) (.cons (.for (.slot 2) (.plain (.call 523 .nil)) (.cons (.ifs (.cmp (.meth (.loc 0) "get" (.cons (.loc 2) .nil)) .NotEq (.ife (.cmp (.loc 2) .In (.loc 1)) (.idx (.loc 1) (.loc 2)) (.cst .none))) (.cons (.ret (.cst (.bool false))) .nil) .nil) .nil)) (.cons (.ret (.cst (.bool true))) .nil)))
noncomputable def cx_law : Cx := { kinds := [("script", .local), ("cells", .local), ("some", .local), ("mask", .local), ("table", .cell), ("own", .local), ("data", .local), ("row", .local), ("text", .local), ("was", .local), ("mate", .local), ("other", .local), ("_law_table", .globalImplicit), ("Elements", .globalImplicit), ("_law_data", .globalImplicit), ("sorted", .globalImplicit), ("list", .globalImplicit), ("_law_elements", .globalImplicit), ("_law_is_kept", .globalImplicit), ("dict", .globalImplicit), ("_law_rows", .globalImplicit)], slots := [("script", 0), ("cells", 1), ("some", 2), ("mask", 3), ("table", 4), ("own", 5), ("data", 6), ("row", 7), ("text", 8), ("was", 9), ("mate", 10), ("other", 11)] }
noncomputable def ss_law : Ss := (.cons (.asgc 1 (.comp { kinds := [(".0", .local), ("cell", .local), ("int", .globalImplicit)], slots := [("cell", 12)], own := false } [12] (.typ "int" (.cons (.loc 12) .nil)) (.slot 12) (.plain (.slTo (.loc 0) (.cst (.int 14)))) .nil)) (.cons (.asg (.slot 2) (.slTo (.bin .Add (.loc 1) (.lst (.cons (.cst (.int 0)) (.cons (.cst (.int 0)) (.cons (.cst (.int 0)) .nil))))) (.cst (.int 3)))) (.cons (.asg (.slot 3) (.bin .Mod (.bin .Add (.bin .Add (.idx (.loc 2) (.cst (.int 0))) (.bin .Mult (.cst (.int 64)) (.idx (.loc 2) (.cst (.int 1))))) (.bin .Mult (.cst (.int 4096)) (.idx (.loc 2) (.cst (.int 2))))) (.cst (.int 524288)))) (.cons (.asg (.slot 4) (.call 530 (.cons (.loc 3) .nil))) (.cons (.swp [5, 6] (.tup (.cons (.new 357 .nil) (.cons (.call 497 .nil) .nil)))) (.cons (.for (.slot 7) (.plain (.blt "sorted" (.cons (.loc 4) .nil))) (.cons (.exp (.meth (.loc 5) "put" (.cons (.loc 7) (.cons (.idx (.loc 4) (.loc 7)) .nil)))) .nil)) (.cons (.asgc 8 (.comp { kinds := [(".0", .local), ("cell", .local)], slots := [("cell", 13)], own := false } [13] (.idx (.lst (.cons (.cst (.int 97)) (.cons (.cst (.int 98)) (.cons (.cst (.int 768)) (.cons (.cst (.int 769)) (.cons (.cst (.int 803)) (.cons (.cst (.int 807)) (.cons (.cst (.int 224)) (.cons (.cst (.int 99)) (.cons (.cst (.int 225)) (.cons (.cst (.int 120)) (.cons (.cst (.int 19970)) (.cons (.cst (.int 13312)) .nil))))))))))))) (.bin .Mod (.loc 13) (.cst (.int 12)))) (.slot 13) (.plain (.slFrom (.loc 1) (.cst (.int 1)))) .nil)) (.cons (.asg (.slot 9) (.typ "list" (.cons (.loc 8) .nil))) (.cons (.ifs (.bop .Or (.cons (.cmp (.meth (.loc 5) "elements_of" (.cons (.loc 8) (.cons (.loc 6) .nil))) .NotEq (.call 516 (.cons (.loc 8) (.cons (.loc 4) .nil)))) (.cons (.cmp (.loc 8) .NotEq (.loc 9)) (.cons (.not (.call 535 (.cons (.loc 5) (.cons (.loc 4) .nil)))) .nil)))) (.cons (.ret (.cst (.bool false))) .nil) .nil) (.cons (.swp [10, 11] (.tup (.cons (.meth (.loc 5) "copy" .nil) (.cons (.typ "dict" (.cons (.comp { kinds := [(".0", .local), ("row", .local), ("table", .cell)], slots := [("row", 14), ("table", 4)], own := false } [14] (.tup (.cons (.loc 14) (.cons (.idx (.loc 4) (.loc 14)) .nil))) (.slot 14) (.plain (.loc 4)) .nil) .nil)) .nil)))) (.cons (.asg (.slot 7) (.idx (.call 523 .nil) (.bin .Mod (.loc 3) (.cst (.int 19))))) (.cons (.exp (.meth (.loc 10) "put" (.cons (.loc 7) (.cons (.lst (.cons (.tup (.cons (.cst (.int 7)) (.cons (.cst (.int 33)) (.cons (.cst (.int 3)) (.cons (.cst (.bool true)) .nil))))) .nil)) .nil)))) (.cons (.asg (.idx (.loc 11) (.loc 7)) (.lst (.cons (.tup (.cons (.cst (.int 7)) (.cons (.cst (.int 33)) (.cons (.cst (.int 3)) (.cons (.cst (.bool true)) .nil))))) .nil))) (.cons (.ifs (.bop .Or (.cons (.cmp (.meth (.loc 10) "elements_of" (.cons (.loc 8) (.cons (.loc 6) .nil))) .NotEq (.call 516 (.cons (.loc 8) (.cons (.loc 11) .nil)))) (.cons (.not (.call 535 (.cons (.loc 5) (.cons (.loc 4) .nil)))) .nil))) (.cons (.ret (.cst (.bool false))) .nil) .nil) (.cons (.exp (.meth (.loc 10) "take_out" (.cons (.loc 7) .nil))) (.cons (.exp (.meth (.loc 11) "pop" (.cons (.loc 7) .nil))) (.cons (.ret (.bop .And (.cons (.cmp (.meth (.loc 10) "elements_of" (.cons (.loc 8) (.cons (.loc 6) .nil))) .Eq (.call 516 (.cons (.loc 8) (.cons (.loc 11) .nil)))) (.cons (.call 535 (.cons (.loc 10) (.cons (.loc 11) .nil))) .nil)))) .nil)))))))))))))))))
noncomputable def attrL : List Str := ["first","last","base","origin","elements","places","onward","table","longest","factors","bases","default","starts","values","defaults","maps","properties","words"]
noncomputable def attrF (k : Nat) : Str := (attrL[k]?).getD ⟨(List.replicate (k + 100) 0).toArray⟩
noncomputable def gtL1 : List (Str × G) := [("MAX_CODE", .int 1114111), ("BadTable", .cls 52), ("place_by_half", .fn 61), ("SYLLABLE_FIRST", .int 44032), ("LEAD_FIRST", .int 4352), ("VOWEL_FIRST", .int 4449), ("TAIL_NONE", .int 4519), ("LEADS", .int 19), ("VOWELS", .int 21), ("TAILS", .int 28), ("SYLLABLES", .int 11172), ("is_hangul_syllable", .fn 68), ("hangul_numbers", .fn 75), ("hangul_parts", .fn 82), ("form_mapping", .fn 96), ("form_expanded", .fn 103), ("ordered", .fn 110), ("form_sorted", .fn 115), ("decomposed", .fn 123), ("composed", .fn 180), ("form_of", .fn 188), ("nfd", .fn 195), ("COLL_SECONDARY", .int 32), ("COLL_TERTIARY", .int 2), ("COLL_OTHERS", .int 64448), ("COLL_CORE", .int 64320), ("COLL_EXTENSIONS", .int 64384), ("COLL_REST_BIT", .int 32768), ("COLL_REST_MASK", .int 32767), ("COLL_REST_SHIFT", .int 15)]
noncomputable def gtL2 : List (Str × G) := [("coll_ideographs", .fn 202), ("CollBase", .cls 227), ("coll_scaled", .fn 236), ("CollMatch", .cls 253), ("Elements", .cls 357), ("coll_live", .fn 368), ("coll_decomposed", .fn 373), ("range_are_like", .fn 380), ("RangeMap", .cls 423), ("data_defaults", .fn 441), ("Data", .cls 479), ("_law_ranks", .fn 490), ("_law_data", .fn 497), ("_law_plain", .fn 504), ("_law_reckoned", .fn 511), ("_law_elements", .fn 516), ("_law_rows", .fn 523), ("_law_table", .fn 530), ("_law_is_kept", .fn 535), ("len", .blt "len"), ("max", .blt "max"), ("min", .blt "min"), ("sorted", .blt "sorted"), ("isinstance", .blt "isinstance"), ("tuple", .typ "tuple"), ("list", .typ "list"), ("int", .typ "int"), ("dict", .typ "dict"), ("range", .typ "range"), ("enumerate", .typ "enumerate"), ("bool", .typ "bool")]
noncomputable def gtL : List (Str × G) := gtL1 ++ gtL2
noncomputable def gtF (x : Str) : Option G := gtL.lookup x
end
section
noncomputable def cattrL : List (Addr × List Nat) := [(227, [0, 1, 2, 3]), (253, [4, 5, 6]), (357, [7, 8, 9, 10]), (423, [11, 12, 13]), (479, [14, 15, 16, 17])]
noncomputable def cattrF (C : Addr) (k : Nat) : Bool := match cattrL.lookup C with | some l => l.contains k | none => false
noncomputable def cinitL : List (Addr × Addr) := [(227, 217), (253, 250), (357, 272), (423, 394), (479, 455)]
noncomputable def cinitF (C : Addr) : Option Addr := cinitL.lookup C
noncomputable def cplainF (C : Addr) : Bool := (cinitL.lookup C).isSome
noncomputable def cmethL : List (Addr × List (Str × Addr)) := [(227, [("elements_of", 224)]), (357, [("put", 279), ("take_out", 284), ("get", 291), ("rows", 296), ("copy", 303), ("scaled", 310), ("put_implicit", 318), ("implicit_of", 325), ("match", 337), ("with_marks", 342), ("located", 347), ("elements_of", 354)]), (423, [("get", 401), ("put", 408)]), (479, [("put", 462), ("get", 469), ("map_of", 476)])]
noncomputable def cmethF (C : Addr) (m : Str) : Option Addr := match cmethL.lookup C with | some l => l.lookup m | none => none
structure DefT where
  a : Addr
  cx : Cx
  ss : Ss
  ns : List Str
  df : Option (Addr × V)
noncomputable def defsL : List DefT := [
  ⟨61, cx_place_by_half, ss_place_by_half, ["firsts", "number"], none⟩,
  ⟨68, cx_is_hangul_syllable, ss_is_hangul_syllable, ["code"], none⟩,
  ⟨82, cx_hangul_parts, ss_hangul_parts, ["code"], none⟩,
  ⟨96, cx_form_mapping, ss_form_mapping, ["code", "data", "is_compat"], none⟩,
  ⟨103, cx_form_expanded, ss_form_expanded, ["code", "data", "is_compat"], none⟩,
  ⟨110, cx_ordered, ss_ordered, ["text", "data"], none⟩,
  ⟨115, cx_form_sorted, ss_form_sorted, ["run"], none⟩,
  ⟨123, cx_decomposed, ss_decomposed, ["text", "data", "is_compat"], some (116, V.bool false)⟩,
  ⟨188, cx_form_of, ss_form_of, ["text", "data", "word", "composer"], some (181, V.none)⟩,
  ⟨195, cx_nfd, ss_nfd, ["text", "data"], none⟩,
  ⟨202, cx_coll_ideographs, ss_coll_ideographs, [], none⟩,
  ⟨217, cx_CollBase__init_, ss_CollBase__init_, ["self", "first", "last", "base", "origin"], some (210, V.none)⟩,
  ⟨224, cx_CollBase_elements_of, ss_CollBase_elements_of, ["self", "code"], none⟩,
  ⟨236, cx_coll_scaled, ss_coll_scaled, ["elements", "factors"], none⟩,
  ⟨250, cx_CollMatch__init_, ss_CollMatch__init_, ["self", "elements", "places", "onward"], none⟩,
  ⟨272, cx_Elements__init_, ss_Elements__init_, ["self", "has_ideographs"], some (265, V.bool true)⟩,
  ⟨279, cx_Elements_put, ss_Elements_put, ["self", "codes", "elements"], none⟩,
  ⟨284, cx_Elements_take_out, ss_Elements_take_out, ["self", "codes"], none⟩,
  ⟨291, cx_Elements_get, ss_Elements_get, ["self", "codes"], none⟩,
  ⟨296, cx_Elements_rows, ss_Elements_rows, ["self"], none⟩,
  ⟨303, cx_Elements_copy, ss_Elements_copy, ["self"], none⟩,
  ⟨310, cx_Elements_scaled, ss_Elements_scaled, ["self", "first", "second", "third"], none⟩,
  ⟨318, cx_Elements_put_implicit, ss_Elements_put_implicit, ["self", "first", "last", "base", "origin"], some (311, V.none)⟩,
  ⟨325, cx_Elements_implicit_of, ss_Elements_implicit_of, ["self", "code"], none⟩,
  ⟨337, cx_Elements_match, ss_Elements_match, ["self", "codes", "at", "gone", "data"], none⟩,
  ⟨342, cx_Elements_with_marks, ss_Elements_with_marks, ["self", "codes", "places", "gone", "data"], none⟩,
  ⟨347, cx_Elements_located, ss_Elements_located, ["self", "text", "data"], none⟩,
  ⟨354, cx_Elements_elements_of, ss_Elements_elements_of, ["self", "text", "data"], none⟩,
  ⟨368, cx_coll_live, ss_coll_live, ["gone", "at", "most"], none⟩,
  ⟨373, cx_coll_decomposed, ss_coll_decomposed, ["text", "data"], none⟩,
  ⟨380, cx_range_are_like, ss_range_are_like, ["one", "other"], none⟩,
  ⟨394, cx_RangeMap__init_, ss_RangeMap__init_, ["self", "default"], none⟩,
  ⟨401, cx_RangeMap_get, ss_RangeMap_get, ["self", "code"], none⟩,
  ⟨408, cx_RangeMap_put, ss_RangeMap_put, ["self", "first", "last", "value"], none⟩,
  ⟨441, cx_data_defaults, ss_data_defaults, [], none⟩,
  ⟨455, cx_Data__init_, ss_Data__init_, ["self"], none⟩,
  ⟨462, cx_Data_put, ss_Data_put, ["self", "name", "first", "last", "value"], none⟩,
  ⟨469, cx_Data_get, ss_Data_get, ["self", "name", "code"], none⟩,
  ⟨476, cx_Data_map_of, ss_Data_map_of, ["self", "name"], none⟩,
  ⟨490, cx_law_ranks, ss_law_ranks, [], none⟩,
  ⟨497, cx_law_data, ss_law_data, [], none⟩,
  ⟨504, cx_law_plain, ss_law_plain, ["text"], none⟩,
  ⟨511, cx_law_reckoned, ss_law_reckoned, ["code"], none⟩,
  ⟨516, cx_law_elements, ss_law_elements, ["text", "table"], none⟩,
  ⟨523, cx_law_rows, ss_law_rows, [], none⟩,
  ⟨530, cx_law_table, ss_law_table, ["mask"], none⟩,
  ⟨535, cx_law_is_kept, ss_law_is_kept, ["own", "table"], none⟩,
  ⟨540, cx_law, ss_law, ["script"], none⟩]
noncomputable def valIs : V → Value → Bool
  | .none, .none => true
  | .bool b, .bool c => b == c
  | _, _ => false
noncomputable def noneV : Value → Bool
  | .none => true
  | _ => false
noncomputable def refV (T : Addr) : Value → Bool
  | .ref a => T == a
  | _ => false
noncomputable def seqOf (o : Obj) : List Value := match o.data with | .seq xs _ => xs.toList | _ => []
noncomputable def fieldsOf (o : Obj) : Option (Array Value) := match o.data with | .fields vs => some vs | _ => none
noncomputable def isPlain (o : Obj) : Bool := match o.data with | .plain => true | _ => false
noncomputable def dfChk (K : Frag) (f : Addr) (d : Option (Addr × V)) : Bool := som (fnGet K f) fun fd => match d with
  | none => noneV fd.defaults
  | some (T, v) => refV T fd.defaults && som (K.lookup T) fun o => one (seqOf o) fun x => valIs v x
noncomputable def glChk (K : Frag) (mg mb : Str → Option Value) (x : Str) : G → Bool
  | .fn a => mg x == some (.ref a) && keepIn K (.ref a)
  | .cls a => mg x == some (.ref a) && keepIn K (.ref a)
  | .int i => (match mg x with | some (.int j _) => j == i | _ => false)
  | .blt id => mg x == none && mb x == some (.builtin id)
  | .typ n => mg x == none && mb x == some (.type n)
noncomputable def clsChk (K : Frag) (C : Addr) : Bool := findIn K (.ref C) "__getattribute__" == some (some (.builtin "object.__getattribute__")) && findIn K (.ref C) "__getattr__" == some none && hasDictIn K C &&
  findIn K (.ref C) "__setattr__" == some (some (.builtin "object.__setattr__")) && plainOver K C && makesIn K C && keepIn K (.ref C)
noncomputable def defsChk (K : Frag) : Bool := defsL.all fun d => fnChk K gtF attrF d.a d.cx d.ss d.ns && dfChk K d.a d.df
noncomputable def restChk (K : Frag) (mg mb : Str → Option Value) : Bool :=
  gtL.all (fun p => glChk K mg mb p.1 p.2) &&
  cattrL.all (fun p => p.2.all fun k => findIn K (.ref p.1) (attrF k) == some none && takerIn K p.1 (attrF k) == some none) &&
  cinitL.all (fun p => clsChk K p.1 && findIn K (.ref p.1) "__init__" == some (some (.ref p.2)) && typeIn K (.ref p.2) == some (.type "function")) &&
  cmethL.all (fun p => p.2.all fun q => findIn K (.ref p.1) q.1 == some (some (.ref q.2)) && typeIn K (.ref q.2) == some (.type "function") && keepIn K (.ref q.2)) &&
  codeHdIn K 114 112
noncomputable def allChk (K : Frag) (mg mb : Str → Option Value) : Bool := defsChk K && restChk K mg mb
noncomputable def adL : List Nat := [51, 52, 60, 61, 67, 68, 74, 75, 81, 82, 95, 96, 102, 103, 109, 110, 114, 115, 116, 122, 123, 179, 180, 181, 187, 188, 194, 195, 201, 202, 210, 216, 217, 223, 224, 226, 227, 235, 236, 249, 250, 252, 253, 265, 271, 272, 278, 279, 283, 284, 290, 291, 295, 296, 302, 303, 309, 310, 311, 317, 318, 324, 325, 336, 337, 341, 342, 346, 347, 353, 354, 356, 357, 367, 368, 372, 373, 379, 380, 393, 394, 400, 401, 407, 408, 422, 423, 440, 441, 454, 455, 461, 462, 468, 469, 475, 476, 478, 479, 489, 490, 496, 497, 503, 504, 510, 511, 515, 516, 522, 523, 529, 530, 534, 535, 539, 540]
noncomputable def kF (h : Heap) : Frag := adL.filterMap fun a => (h.get? a).map fun o => (a, o)
noncomputable def nolimChk (h : Heap) : Bool := h.isNs cStatics && (h.nsMap cStatics "sys.recursionlimit").isNone
noncomputable def tabChk (h : Heap) : Bool := som (h.get? 112) fun o => noneV o.cls && (o.dict.isNone && (o.slots.toList.isEmpty && som (fieldsOf o) fun vs => vs.toList.isEmpty))
noncomputable def bltChk (h : Heap) (v : Option Value) : Bool := som v fun x => match x with
  | .ref bm => bm != builtinsNs && (bm != mainGlobals && (bm != 112 && som (h.get? bm) fun o => o.cls == .type "module" && (o.dict == some builtinsNs && isPlain o)))
  | _ => false
noncomputable def yA (s : Shared) : Bool := defsChk (kF s.heap)
noncomputable def yB (s : Shared) : Bool := restChk (kF s.heap) (s.heap.nsMap mainGlobals) (s.heap.nsMap builtinsNs) && (s.heap.isNs mainGlobals && (s.heap.isNs builtinsNs && (nolimChk s.heap && (tabChk s.heap && ((s.heap.get? sysModules).isSome && (bltChk s.heap (s.heap.nsMap mainGlobals "__builtins__") && s.heap.nsMap mainGlobals "law" == some (.ref 540)))))))
noncomputable def yF (s : Shared) : Bool := yA s && yB s
end
section
noncomputable abbrev pw : Program := PySem.Challenge.pw_nt0059_01
noncomputable def qv : Program := view pw [63]
noncomputable def lse : List Str := pw.boundNames.filter fun x => !(x == ("law" : Str))
noncomputable abbrev tbl := PySem.W.Fast.tw14364793385576792824
noncomputable def topRunT (tb : String → Option Builtin) (p : Program) (w : World) (n₀ : Nat) (ann : Option Value) : Nat → SharedT → Thread → Option SharedT
  | 0, _, _ => none
  | n + 1, s, t => match through t with
    | true => some s
    | false => match PySem.W.Fast.tw6613529449190102663 n₀ ann t with
      | false => none
      | true => match PySem.W.Fast.tw10156331382660048174 (PySem.W.Fast.tw11892475500146522536 tb) p w s t with
        | some (s', t') => topRunT tb p w n₀ ann n s' t'
        | none => none
noncomputable def toT : List Obj → Nat → BT → BT
  | [], _, t => t
  | o :: l, n, t => toT l (n + 1) (t.ins n o)
noncomputable def sT (s : Shared) : SharedT := ⟨toT s.heap.objs.toList 0 .nil, s.heap.objs.size, s.heap.life, s.gens, s.drawn, s.toks, s.os⟩
noncomputable def lkF {α : Type} (Yf : Shared → α) (s₀ : Shared) (s : Shared) :=
  match staticsOk (importedModules pw.main.body) s₀.heap s.heap && namesBound pw s.heap && gensDone s && laidKept s₀.heap s.heap with
  | true => some (PySem.W.Fast.tw4187177175401517315 qv lse (importedModules pw.main.body) (fun _ => true) true s, Yf s)
  | false => none
noncomputable def ev {α : Type} (Yf : Shared → α) (w : World) :=
  (fencedOpening tbl pw w 7652).bind fun s₀ => match s₀.heap.isNs mainGlobals && s₀.gens.size == 0 with
    | true => (topRunT tbl pw w s₀.heap.objs.size (s₀.heap.nsMap mainGlobals "__annotations__") 7652 (sT s₀) (topStub pw)).bind fun sT => lkF Yf s₀ sT.abs
    | false => none
theorem ev_map {α : Type} (Yf : Shared → α) (w : World) : ev Yf w = (ev id w).map fun p => (p.1, Yf p.2) := by
  unfold ev
  cases fencedOpening tbl pw w 7652 with
  | none => rfl
  | some s₀ =>
    dsimp only [Option.bind]
    cases s₀.heap.isNs mainGlobals && s₀.gens.size == 0 with
    | false => rfl
    | true =>
      dsimp only
      cases topRunT tbl pw w s₀.heap.objs.size (s₀.heap.nsMap mainGlobals "__annotations__") 7652 (sT s₀) (topStub pw) with
      | none => rfl
      | some sT =>
        dsimp only [lkF]
        cases staticsOk (importedModules pw.main.body) s₀.heap sT.abs.heap && namesBound pw sT.abs.heap && gensDone sT.abs && laidKept s₀.heap sT.abs.heap <;> rfl
theorem ev_both {a b : Shared → Bool} {w : World} {g : _} (ha : ev a w = some (g, true)) (hb : ev b w = some (g, true)) : ev (fun s => a s && b s) w = some (g, true) := by
  rw [ev_map] at ha hb
  obtain ⟨p, hp, e⟩ := Option.map_eq_some_iff.mp ha
  obtain ⟨q, hq, f⟩ := Option.map_eq_some_iff.mp hb
  cases hp.symm.trans hq
  obtain ⟨e1, e2⟩ := Prod.mk.inj e
  obtain ⟨_, f2⟩ := Prod.mk.inj f
  rw [ev_map, hp]
  exact congrArg some (Prod.ext e1 (look_both e2 f2))
theorem topRunT_of {tb : String → Option Builtin} {p : Program} {w : World} {n₀ : Nat} {ann : Option Value} : ∀ {n : Nat} {s s' : SharedT} {t : Thread}, topRunT tb p w n₀ ann n s t = some s' → topRun tb p w n₀ ann n s.abs t = some s'.abs
  | 0, _, _, _, h => by cases h
  | n + 1, s, s', t, h => by
    unfold topRunT at h
    rw [← PySem.W.Fast.te6613529449190102663, ← PySem.W.Fast.te10156331382660048174, ← PySem.W.Fast.te11892475500146522536] at h
    unfold topRun
    cases he : through t with
    | true => rw [he] at h; cases h; rfl
    | false =>
      rw [he] at h
      cases hk : stepOk n₀ ann t with
      | false => rw [hk] at h; cases h
      | true =>
        rw [hk] at h
        cases hs : stepT (denote tb) p w s t with
        | none => rw [hs] at h; cases h
        | some r => obtain ⟨s₂, t₂⟩ := r; rw [hs] at h; rw [stepT_spec hs]; exact topRunT_of h
theorem dm0 {n k : Nat} (h : n % 2 = k) : n = 2 * (n / 2) + k := h ▸ (Nat.div_add_mod n 2).symm
theorem dm1 {n i : Nat} (h : n % 2 = 1) (hi : i < n / 2) : 2 * i + 1 < n := by
  rw [dm0 h]; exact Nat.succ_lt_succ (Nat.mul_lt_mul_of_pos_left hi Nat.two_pos)
theorem dm2 {i : Nat} : (2 * i + 1) / 2 = i := (Nat.mul_add_div Nat.two_pos i 1).trans (Nat.add_zero i)
theorem dm3 {n i : Nat} (h : n % 2 = 0) (hi : i < n / 2 - 1) : 2 * i + 2 < n := by
  rw [dm0 h]; exact Nat.mul_lt_mul_of_pos_left (Nat.add_lt_of_lt_sub hi) Nat.two_pos
theorem dm4 {i : Nat} : (2 * i + 2) / 2 - 1 = i := congrArg (· - 1) (Nat.mul_add_div Nat.two_pos i 2)
theorem ins_some (o : Obj) : ∀ (t : BT) (n : Nat), (∀ i, i < n → (t.get i).isSome = true) → ((t.ins n o).get n).isSome = true
  | .nil, 0, _ => rfl
  | .nil, n + 1, h => absurd (h 0 (Nat.succ_pos n)) Bool.false_ne_true
  | .node v l r, n, h => by
    rw [BT.ins_node]
    by_cases h0 : n = 0
    · subst h0; rfl
    · rw [if_neg h0]
      by_cases h1 : n % 2 = 1
      · rw [if_pos h1, BT.get_node, if_neg h0, if_pos h1]
        refine ins_some o l (n / 2) fun i hi => ?_
        have := h (2 * i + 1) (dm1 h1 hi)
        rwa [BT.get_node, if_neg (Nat.succ_ne_zero _), if_pos (Nat.mul_add_mod 2 i 1), dm2] at this
      · rw [if_neg h1, BT.get_node, if_neg h0, if_neg h1]
        refine ins_some o r (n / 2 - 1) fun i hi => ?_
        have := h (2 * i + 2) (dm3 (Nat.mod_two_ne_one.mp h1) hi)
        rwa [BT.get_node, if_neg (Nat.succ_ne_zero _), if_neg (by rw [Nat.mul_add_mod]; decide), dm4] at this
theorem toT_abs (life : Life) : ∀ (l : List Obj) (k : Nat) (t : BT), (∀ i, i < k → (t.get i).isSome = true) → (absHeap (toT l k t) (k + l.length) life).objs.toList = (absHeap t k life).objs.toList ++ l
  | [], k, t, _ => by simp [toT]
  | o :: l, k, t, h => by
    have g := ins_some o t k h
    have ih := toT_abs life l (k + 1) (t.ins k o) fun i hi => by
      rw [BT.get_ins o t k g i]
      by_cases e : i = k
      · rw [if_pos e]; rfl
      · rw [if_neg e]; exact h i (Nat.lt_of_le_of_ne (Nat.le_of_lt_succ hi) e)
    rw [List.length_cons, show k + (l.length + 1) = k + 1 + l.length from (Nat.succ_add_eq_add_succ k _).symm]
    show (absHeap (toT l (k + 1) (t.ins k o)) (k + 1 + l.length) life).objs.toList = _
    rw [ih, absHeap_ins g]
    simp [Heap.push]
theorem sT_abs (s : Shared) : (sT s).abs = s := by
  obtain ⟨⟨objs, life⟩, gens, drawn, toks, os⟩ := s
  have := toT_abs life objs.toList 0 .nil (fun i hi => absurd hi (Nat.not_lt_zero i))
  have e : absHeap (toT objs.toList 0 .nil) objs.size life = ⟨objs, life⟩ := by
    rw [Nat.zero_add, Array.length_toList] at this
    have h2 : (absHeap (toT objs.toList 0 .nil) objs.size life).objs = objs := Array.toList_inj.mp (this.trans rfl)
    exact congrArg (Heap.mk · life) h2
  unfold sT SharedT.abs
  rw [e]
theorem left_of {α : Type} {Yf : Shared → α} {y : α} (h : ∀ w, ev Yf w = some (openGood qv lse, y)) : LeftO pw qv lse (fun _ => true) Yf (fun _ => y) 7652 := by
  intro w
  have e := h w
  unfold ev at e
  obtain ⟨s₀, h1, e⟩ := Option.bind_eq_some_iff.mp e
  unfold openEnds
  have te : treeTable = tbl := PySem.W.Fast.te14364793385576792824
  rw [te, h1]
  show Option.map _ (topFrom tbl pw w 7652 s₀) = _
  unfold topFrom
  cases hg : (s₀.heap.isNs mainGlobals && s₀.gens.size == 0) with
  | false => rw [hg] at e; cases e
  | true =>
    rw [hg] at e
    obtain ⟨s1, h2, e⟩ := Option.bind_eq_some_iff.mp e
    have h3 := topRunT_of h2
    rw [sT_abs] at h3
    show Option.map _ (Option.bind (topRun _ _ _ _ _ _ _ _) _) = _
    rw [h3]
    show Option.map _ (match staticsOk (importedModules pw.main.body) s₀.heap s1.abs.heap && namesBound pw s1.abs.heap && gensDone s1.abs && laidKept s₀.heap s1.abs.heap with
      | true => some s1.abs
      | false => none) = _
    unfold lkF at e
    cases hs : (staticsOk (importedModules pw.main.body) s₀.heap s1.abs.heap && namesBound pw s1.abs.heap && gensDone s1.abs && laidKept s₀.heap s1.abs.heap) with
    | false => rw [hs] at e; cases e
    | true =>
      rw [hs] at e
      have to : openSeen = PySem.W.Fast.tw4187177175401517315 := PySem.W.Fast.te4187177175401517315
      rw [to]
      exact e
end
section
theorem look_ok : PySem.W.Fast.tw12908688711261696721 PySem.Challenge.pw_nt0059_01 = true := by
  delta PySem.W.Fast.tw12908688711261696721
  repeat' with_reducible refine look_both ?_ ?_
  all_goals decide +kernel
theorem said : PySem.Challenge.rw_nt0059_01.wellSaid = true := by
  refine (congrFun PySem.W.Fast.te9446332074065402090 _).trans ?_
  delta PySem.W.Fast.tw9446332074065402090
  repeat' with_reducible refine look_both ?_ ?_
  delta PySem.W.Fast.tw17960256430627541270
  repeat' with_reducible refine look_both ?_ ?_
  delta PySem.W.Fast.tw2436336058641802641
  repeat' with_reducible refine look_both ?_ ?_
  exact look_ok
  all_goals decide +kernel
theorem evalA : ∀ w : World, ev yA w = some (openGood qv lse, true) := by
  intro w
  kernel_rfl
theorem evalB : ∀ w : World, ev yB w = some (openGood qv lse, true) := by
  intro w
  kernel_rfl
theorem evaled (w : World) : ev yF w = some (openGood qv lse, true) := ev_both (evalA w) (evalB w)
theorem dSome : (defOf qv (PySem.Str.ofString "law")).isSome = true := by decide +kernel
noncomputable def dk : DefRec × List (Str × PySem.Expr) := (defOf qv (PySem.Str.ofString "law")).get dSome
theorem dk_eq : defOf qv (PySem.Str.ofString "law") = some (dk.1, dk.2) := (Option.some_get dSome).symm
theorem dk_the : pw.theDef (PySem.Str.ofString "law") = some (dk.1.params, dk.1.body, dk.1.scope) := by kernel_rfl
theorem dk_kw : kwWritten? dk.1.params.kwonlyargs dk.1.params.kw_defaults = some dk.2 := by kernel_rfl
end
section
variable {W : Wd} {n : Nat} {cx : Cx} {ρ : Loc} {H : AH}
noncomputable def lamCx (q : Str) : Cx := { kinds := [(q, .local)], slots := [(q, 0)] }
theorem idx_first {k : Int} {r : List V} : IdxOk W n (.tup (.int k :: r)) (.int 0) H fun v H' => v = .int k ∧ H' = H := by
  refine idx_tup (k := 0) (j := 0) (v := .int k) ?_ rfl (by decide) ⟨rfl, rfl⟩
  unfold seqIndex?
  simp
theorem lam_body {q : Str} {k : Int} {r : List V} : WE W n (lamCx q) (.idx (.loc 0) (.cst (.int 0))) [some (.tup (.int k :: r))] H fun v H' => v = .int k ∧ H' = H :=
  we_idx (we_loc (v := .tup (.int k :: r)) rfl (we_cst idx_first))
theorem lam_call {f c' : Addr} {qual q : Str} {params : Arguments} {body : PySem.Expr} {sc : Scope} {pm ctv : Value} {s : Shared} {A : Around} {X : Value → Shared → Prop} {Q : Value → Shared → Prop} {x : Value} {k : Int} {r : List V}
    (R : Rel W H s.heap) (hA : AOk (n + 1) A) (ho : s.heap.get? f = some (kla_obj "<lambda>" qual params body sc [] pm c' ctv)) (hcd : s.heap.CodeRec (.ref c') qual)
    (hb : sameE W.gt W.attr (lamCx q) (.idx (.loc 0) (.cst (.int 0))) body = true) (hsc : sc.kind = .function) (hg : sc.isGenerator = false) (hco : sc.isCoroutine = false) (hn : sc.names = [(q, .local)])
    (hbind : bindArgs (kla_fn "<lambda>" qual params body sc [] pm (.ref c') ctv) ⟨[x], []⟩ = pure [(q, x)]) (hx : VR s.heap (.tup (.int k :: r)) x)
    (h : ∀ t s', Step W H s H s' → Q (.int k t) s') : wpAny W.M A (PySem.call (.ref f) [x]) Q X s := by
  refine wpAny_call (kla_callFunE hA.depth ho rfl hco hg rfl hcd ?_)
  rw [hbind]
  refine wpAny_pure (wpAny_newFunctionEnv (by rw [hn]; intro y hy; rw [List.mem_singleton.mp hy]; simp) (by intro y hy; rw [List.mem_singleton.mp hy, hn]; simp) (fun h₁ hns hsb => ?_) hsc)
  have hk₁ : ∀ b o, s.heap.get? b = some o → h₁.get? b = some o := fun b o e => hsb.extBut b o (Nat.ne_of_lt (Heap.lt_size e)) (Heap.get?_push_of_some _ e)
  refine ⟨(nolimit_of R).fresh _ hsb, ?_⟩
  generalize henv : newEnv sc s.heap.objs.size mainGlobals [] (qual ++ ".<locals>.") (some f) (.ref c') none builtinsNs = env
  have hL : env.locals = s.heap.objs.size := by rw [← henv]; rfl
  have R1 : Rel W H h₁ := R.grow hk₁
  have c1 : Step W H s H { s with heap := h₁, toks := s.toks + 1 } := Step.kept R _ hk₁
  have hx1 := c1.vr R hx
  have F : Frm W (lamCx q) env [some (.tup (.int k :: r))] H h₁ := by
    refine ⟨fun y => by rw [← henv]; show sc.names.lookup y = _; rw [hn]; rfl, by rw [← henv]; exact hsc, by rw [← henv]; rfl, by rw [← henv]; rfl, ⟨_, by rw [hL]; exact hns, fun y i v h1 h2 h3 => ?_⟩, by rw [hL]; exact R.fresh (Nat.le_refl _), by rw [hL]; exact R.new_none (Nat.le_refl _), fun y i h1 h2 => ?_, fun y y' c h1 h2 => ?_, fun y y' i h1 h2 => ?_, fun c q' h => by simp [lamCx] at h⟩
    · simp only [lamCx, List.lookup_cons] at h1 h2
      cases hq : (y == q) with
      | false => rw [hq] at h1; simp at h1
      | true =>
        rw [hq] at h1
        simp at h1
        subst h1
        simp at h3
        subst h3
        have : y = q := by simpa using hq
        subst this
        exact ⟨x, by simp, hx1⟩
    · simp only [lamCx, List.lookup_cons] at h2
      cases hq : (y == q) with
      | false => rw [hq] at h2; simp at h2
      | true => rw [hq] at h2; simp at h2
    · have : env.cells = [] := by rw [← henv]; rfl
      rw [this] at h1; cases h1
    · have e1 := mol h1
      have e2 := mol h2
      simp [lamCx] at e1 e2
      rw [e1.1, e2.1]
  refine kla_codeExpr (an (lam_body body hb env _ _ _ c1.rel F (hA.deeper)) fun y s2 v H2 a2 w3s2 c2 => ?_)
  obtain ⟨e1, e2⟩ := w3s2
  subst e1 e2
  obtain ⟨t, rfl⟩ := vr_int a2
  exact h t s2 (c1.trans c2)
end
section
variable {W : Wd} {n : Nat} {cx : Cx} {ρ : Loc} {H : AH}
theorem Step.freshSet {s s' : Shared} {D : Addr} {o : O} {h' : Heap} {tk : Nat} (c : Step W H s H s') (hD : s.heap.get? D = none) (hH : H D = none) (hB : W.base.get? D = none) (ht : ∀ o, s'.heap.get? D = some o → ¬ isTup o) (sb : Heap.ExtBut D s'.heap h') (ho : OR W h' D o) :
    Step W H s (upd H D o) { s' with heap := h', toks := tk } := by
  refine ⟨c.rel.set hB ht sb ho, fun b ob e hn => ?_, ?_⟩
  · have hne : b ≠ D := by rintro rfl; rw [hD] at e; cases e
    exact ⟨sb b ob hne (c.ext b ob e hn).1, by rw [upd_ne _ _ hne]; exact hn⟩
  · exact c.same.trans ⟨_, _, rfl⟩
theorem seqList_nt {xs : Array Value} {m : Nat} : ¬ isTup (seqObj "list" xs m) := fun ht => absurd ht.1 (by simp [seqObj])
theorem sorted_key1 {A : Around} {X : Value → Shared → Prop} {s : Shared} {l fa : Addr} {vs : List Value} {lv : List V} {Q : Value → Shared → Prop} (R : Rel W H s.heap) (hl : s.heap.IsList l vs.toArray) (hv : VRs s.heap lv vs) (h1 : vs.length ≤ 1)
    (turn : ∀ v ∈ vs, ∀ s1, Step W H s H s1 → (∀ b o, s.heap.get? b = some o → s1.heap.get? b = some o) → ∀ (X' : Value → Shared → Prop) (Q' : Value → Shared → Prop), (∀ k t s2, Step W H s1 H s2 → Q' (.int k t) s2) → wpAny W.M A.in1.in1 (PySem.call (.ref fa) [v]) Q' X' s1)
    (h : ∀ D s', H D = none → Step W H s (upd H D (.list lv)) s' → Q (.ref D) s') :
    wpAny W.M A (PySem.call (.builtin "sorted") [.ref l] [(Str.ofString "key", .ref fa)]) Q X s := by
  refine call_function_entry_kw kind_sorted plain_sorted entry_sorted (ksk_s1 _ _) ?_
  unfold Builtin.«sorted»
  refine wpAny_bind (m := checkCount "sorted" 1 1 _) (wpAny_pure ?_)
  refine wpAny_bind (collect_list hl ?_ (by rw [sizeLine_eq]; lia))
  refine wpAny_bind (wpAny_newList ?_ (by rw [sizeLine_eq]; lia))
  have hsz : ((s.heap.push (seqObj "list" #[] 0)).update s.heap.objs.size (Obj.mapSeq (· ++ vs.toArray))).objs.size = s.heap.objs.size + 1 := by
    rw [Heap.size_update, size_push']
  have keep : ∀ b o, s.heap.get? b = some o → (((s.heap.push (seqObj "list" #[] 0)).update s.heap.objs.size (Obj.mapSeq (· ++ vs.toArray))).push (seqObj "list" vs.toArray 0)).get? b = some o := fun b o q => by
    have hlt : b < s.heap.objs.size := Heap.lt_size q
    rw [Heap.get?_push_ne _ _ _ (by rw [hsz]; exact Nat.ne_of_lt (Nat.lt_succ_of_lt hlt)), Heap.get?_update_ne _ _ _ _ (Nat.ne_of_lt hlt), Heap.get?_push_ne _ _ _ (Nat.ne_of_lt hlt)]
    exact q
  have hoL : (((s.heap.push (seqObj "list" #[] 0)).update s.heap.objs.size (Obj.mapSeq (· ++ vs.toArray))).push (seqObj "list" vs.toArray 0)).get? (s.heap.objs.size + 1) = some (seqObj "list" vs.toArray 0) := by
    rw [← hsz]; exact Heap.get?_push_size _ rfl
  have hD0 : s.heap.get? (s.heap.objs.size + 1) = none := get_none_of_le (Nat.le_succ _)
  show wpAny _ _ _ _ _ { s with heap := ((s.heap.push (seqObj "list" #[] 0)).update s.heap.objs.size (Obj.mapSeq (· ++ vs.toArray))).push (seqObj "list" vs.toArray 0) }
  rw [hsz]
  generalize ((s.heap.push (seqObj "list" #[] 0)).update s.heap.objs.size (Obj.mapSeq (· ++ vs.toArray))).push (seqObj "list" vs.toArray 0) = h2 at keep hoL
  have hDH := R.none_of hD0
  generalize hDe : s.heap.objs.size + 1 = D at hoL hD0 hDH
  refine wpAny_bind (wpAny_holding (wpAny_call_entry_kw slot_list_sort ⟨_, hoL, rfl⟩ entry_list_sort ?body (ksk_l1 _ _)))
  case body =>
    rw [ksk_t1]
    have s1 := Heap.SameBut.update h2 D (Obj.mapSeq fun _ => (#[] : Array Value))
    obtain ⟨e1, ho1⟩ : ∃ e1, (h2.update D (Obj.mapSeq fun _ => (#[] : Array Value))).get? D = some (seqObj "list" #[] e1) := ⟨_, get?_update_seq hoL fun _ => #[]⟩
    unfold ksk_tree
    refine wpAny_bind (listItems_at hoL rfl ?_)
    refine wpAny_bind (listUpdate_at hoL rfl ?_ (by rw [List.size_toArray, sizeLine_eq]; lia) (Nat.zero_le _))
    refine wpAny_bind (seqEpoch_at ho1 rfl ?_)
    refine wpAny_bind (wpAny_newTuple ?_ (by show vs.length ≤ _; rw [sizeLine_eq]; lia))
    refine wpAny_bind (wpAny_newList ?_ (Nat.zero_le _))
    refine wpAny_holding ?_
    have keep3 : ∀ b o, s.heap.get? b = some o → (((h2.update D (Obj.mapSeq fun _ => (#[] : Array Value))).push { cls := .type "tuple", data := .seq vs.toArray.toList.toArray }).push { cls := .type "list", data := .seq ([] : List Value).toArray }).get? b = some o := fun b o e =>
      Heap.get?_push_of_some _ (Heap.get?_push_of_some _ ((s1.2 b (by rintro rfl; rw [hD0] at e; cases e)).trans (keep b o e)))
    have hoD : (((h2.update D (Obj.mapSeq fun _ => (#[] : Array Value))).push { cls := .type "tuple", data := .seq vs.toArray.toList.toArray }).push { cls := .type "list", data := .seq ([] : List Value).toArray }).get? D = some (seqObj "list" #[] e1) := Heap.get?_push_of_some _ (Heap.get?_push_of_some _ ho1)
    have hoK : (((h2.update D (Obj.mapSeq fun _ => (#[] : Array Value))).push { cls := .type "tuple", data := .seq vs.toArray.toList.toArray }).push { cls := .type "list", data := .seq ([] : List Value).toArray }).get? ((h2.update D (Obj.mapSeq fun _ => (#[] : Array Value))).push { cls := .type "tuple", data := .seq vs.toArray.toList.toArray }).objs.size = some (seqObj "list" #[] 0) := Heap.get?_push_size _ rfl
    have hKD : ((h2.update D (Obj.mapSeq fun _ => (#[] : Array Value))).push { cls := .type "tuple", data := .seq vs.toArray.toList.toArray }).objs.size ≠ D := by
      have hk := Heap.lt_size hoL
      rw [Heap.size_push, Heap.size_update]; exact Nat.ne_of_gt (Nat.lt_succ_of_lt hk)
    have hK0 : s.heap.get? ((h2.update D (Obj.mapSeq fun _ => (#[] : Array Value))).push { cls := .type "tuple", data := .seq vs.toArray.toList.toArray }).objs.size = none := by
      have hk := Heap.lt_size hoL
      rw [← hDe] at hk
      refine get_none_of_le ?_
      rw [Heap.size_push, Heap.size_update]; exact Nat.le_trans (Nat.le_succ _) (Nat.le_trans (Nat.le_of_lt hk) (Nat.le_succ _))
    have hKH := R.none_of hK0
    generalize ((h2.update D (Obj.mapSeq fun _ => (#[] : Array Value))).push { cls := .type "tuple", data := .seq vs.toArray.toList.toArray }).objs.size = kS at hoK hKD hK0 hKH ⊢
    generalize ((h2.update D (Obj.mapSeq fun _ => (#[] : Array Value))).push { cls := .type "tuple", data := .seq vs.toArray.toList.toArray }).push { cls := .type "list", data := .seq ([] : List Value).toArray } = h5 at keep3 hoD hoK ⊢
    have c5 : Step W H s H { s with heap := h5 } := Step.kept R s.toks keep3
    unfold ksk_rest
    refine wpAny_bind (wpAny_rule ?_)
    have fin : ∀ (keys : Array Value) (ek : Nat) (s6 : Shared), Step W H s H s6 → s6.heap.get? D = some (seqObj "list" #[] e1) → s6.heap.get? kS = some (seqObj "list" keys ek) → keys.size = vs.length →
        wpAny W.M A.in1.in1 (ksk_end D false vs.toArray e1 (.ref kS) keys) (fun fin s' => ∃ v, fin = .done (.ret v) ∧ wpAny W.M A.in1 (ret (.ref D)) (fun fin s' => ∃ v, fin = .done (.ret v) ∧ Q v s') X s') X s6 := by
      intro keys ek s6 c6 hd6 hk6 hks
      unfold ksk_end
      dsimp only
      simp only [Bool.false_eq_true, if_false]
      rw [if_pos (by rw [List.size_toArray]; lia), if_pos (by rw [List.size_toArray]; lia)]
      refine wpAny_bind (wpAny_pure ?_)
      rw [StateT.run_pure]
      refine wpAny_bind (wpAny_pure ?_)
      have harr : (arrOf (SortSt.mk' general' (keys.zip vs.toArray) #[] 7 none)).map (·.2) = vs.toArray := by
        show (keys.zip vs.toArray).map (·.2) = vs.toArray
        apply Array.toList_inj.mp
        rw [Array.toList_map, ksk_zip]
        have : keys.toList.length = vs.length := by rw [Array.length_toList]; exact hks
        rw [show (List.zip keys.toList vs).map (fun x => x.2) = (List.zip keys.toList vs).unzip.2 by simp [List.unzip_eq_map]]
        rw [List.unzip_zip (by lia)]
      unfold ksk_tail
      dsimp only
      rw [harr]
      have sK := Heap.SameBut.update s6.heap kS (Obj.mapSeq fun _ => (#[] : Array Value))
      have hd7 : (s6.heap.update kS (Obj.mapSeq fun _ => (#[] : Array Value))).get? D = some (seqObj "list" #[] e1) := (sK.2 D (Ne.symm hKD)).trans hd6
      have c7 : Step W H s H { s6 with heap := s6.heap.update kS (Obj.mapSeq fun _ => (#[] : Array Value)) } := c6.but hKH.1 hKH.2 (fun _ => hK0) (fun o e => by rw [hk6] at e; cases e; exact seqList_nt) fun b o hne e => (sK.2 b hne).trans e
      refine wpAny_bind (listUpdate_at hk6 rfl ?_ (by rw [hks, sizeLine_eq]; lia) (Nat.zero_le _))
      refine wpAny_bind (wpAny_letGo ?_)
      refine wpAny_bind (seqEpoch_at hd7 rfl ?_)
      refine wpAny_bind (listUpdate_at hd7 rfl ?_ (Nat.zero_le _) (by rw [if_neg Bool.false_ne_true, List.size_toArray, sizeLine_eq]; lia))
      simp only [bne_self_eq_false, Bool.false_eq_true, if_false]
      refine wpAny_pure ⟨_, rfl, wpAny_pure ⟨_, rfl, h D _ hDH.1 ?_⟩⟩
      have sD := Heap.SameBut.update (s6.heap.update kS (Obj.mapSeq fun _ => (#[] : Array Value))) D (Obj.mapSeq fun _ => vs.toArray)
      obtain ⟨e9, ho9⟩ : ∃ e9, ((s6.heap.update kS (Obj.mapSeq fun _ => (#[] : Array Value))).update D (Obj.mapSeq fun _ => vs.toArray)).get? D = some (seqObj "list" vs.toArray e9) := ⟨_, get?_update_seq hd7 fun _ => vs.toArray⟩
      have tk7 : TupKeep (s6.heap.update kS (Obj.mapSeq fun _ => (#[] : Array Value))) ((s6.heap.update kS (Obj.mapSeq fun _ => (#[] : Array Value))).update D (Obj.mapSeq fun _ => vs.toArray)) := fun b o e ht =>
        (sD.2 b (by rintro rfl; rw [hd7] at e; cases e; exact absurd ht seqList_nt)).trans e
      exact c7.freshSet (tk := s6.toks) hD0 hDH.1 hDH.2 (fun o e => by
        have e' := hd7.symm.trans e
        cases e'; exact seqList_nt) (fun b o hne e => (sD.2 b hne).trans e) ⟨vs.toArray, e9, ho9, by
        have := (c7.vrs R hv).keep tk7
        simpa using this⟩
    match vs, h1, turn, fin with
    | [], _, _, fin =>
      refine wpAny_bind ?_
      first
        | rw [List.forIn_toArray]
        | (rw [← Array.forIn_toList]; simp only [List.toList_toArray])
        | rw [← Array.forIn_toList]
      rw [List.forIn_nil]
      refine wpAny_pure ?_
      refine wpAny_bind (listItems_at hoK rfl ?_)
      exact fin #[] 0 _ c5 hoD hoK rfl
    | [v], _, turn, fin =>
      refine wpAny_bind ?_
      first
        | rw [List.forIn_toArray]
        | (rw [← Array.forIn_toList]; simp only [List.toList_toArray])
        | rw [← Array.forIn_toList]
      rw [List.forIn_cons]
      refine wpAny_bind (wpAny_bind (wpAny_attempt (turn v (.head _) _ c5 keep3 _ _ fun k t s6 c6 => ?_)))
      dsimp only
      have hk6 := (c6.ext _ _ hoK hKH.1).1
      have hd6 := (c6.ext _ _ hoD hDH.1).1
      have sK := Heap.SameBut.update s6.heap kS (Obj.mapSeq (·.push (.int k t)))
      obtain ⟨e7, ho7⟩ : ∃ e7, (s6.heap.update kS (Obj.mapSeq (·.push (.int k t)))).get? kS = some (seqObj "list" ((#[] : Array Value).push (.int k t)) e7) := ⟨_, get?_update_seq hk6 (·.push (.int k t))⟩
      have c7 : Step W H s H { s6 with heap := s6.heap.update kS (Obj.mapSeq (·.push (.int k t))) } := (c5.trans c6).but hKH.1 hKH.2 (fun _ => hK0) (fun o e => by rw [hk6] at e; cases e; exact seqList_nt) fun b o hne e => (sK.2 b hne).trans e
      refine wpAny_bind (listUpdate_at hk6 rfl ?_ (Nat.zero_le _) (by rw [sizeLine_eq]; simp))
      refine wpAny_pure ?_
      show wpAny _ _ (forIn [] _ _) _ _ _
      rw [List.forIn_nil]
      refine wpAny_pure ?_
      refine wpAny_bind (listItems_at ho7 rfl ?_)
      exact fin _ e7 _ c7 ((sK.2 D (Ne.symm hKD)).trans hd6) ho7 rfl
    | _ :: _ :: _, h1, _, _ => simp at h1
end
section
variable {W : Wd} {n : Nat} {cx : Cx} {ρ : Loc} {H : AH}
noncomputable def CodeC (h : Heap) (c' : Addr) (qual : Str) : Prop := ∃ oc vs t, h.get? c' = some oc ∧ oc.cls = .type "code" ∧ oc.data = .fields vs ∧ vs[1]? = some (.str qual t)
theorem CodeC.keep {h h' : Heap} {c' : Addr} {qual : Str} (x : CodeC h c' qual) (k : TupKeep h h') : CodeC h' c' qual :=
  let ⟨oc, vs, t, e1, e2, e3, e4⟩ := x; ⟨oc, vs, t, k _ _ e1 ⟨.inr e2, .inr ⟨vs, e3⟩⟩, e2, e3, e4⟩
theorem CodeC.rec_ {h : Heap} {c' : Addr} {qual : Str} (x : CodeC h c' qual) : h.CodeRec (.ref c') qual :=
  let ⟨oc, vs, t, e1, _, e3, e4⟩ := x; ⟨c', oc, vs, t, rfl, e1, e3, e4⟩
theorem upd_self {a : Addr} {o : O} (h : H a = some o) : upd H a o = H := by
  funext b
  unfold upd
  split
  · rename_i e; rw [e, h]
  · rfl
theorem clos_none {sc : Scope} {env : Env} {q : Str} (hn : sc.names = [(q, .local)]) : closureFor sc env = pure [] := by
  rw [closure_of (by rw [hn]; intro x hx; simp at hx), hn]; rfl
theorem tab_nt {ps : Array Value} : ¬ isTup (tabObj ps) := fun ht => by rcases ht.1 with h | h <;> simp at h
theorem mk_lam {A : Around} {X : Value → Shared → Prop} {s : Shared} {env : Env} {name qual q : Str} {params : Arguments} {body : PySem.Expr} {sc : Scope} {pos : Pos} {fl : Nat} {cd P : Addr} {Q : Value → Shared → Prop}
    (R : Rel W H s.heap) (hge : env.globals = mainGlobals) (hcode : env.code = .ref cd) (C : CodeHd W.base cd P) (hB : W.base.BuiltinsAt W.mg P) (hT : H P = some (.tab pos qual)) (hn : sc.names = [(q, .local)])
    (h : ∀ f c' pm ctv s', H f = none → Step W H s H s' → s'.heap.get? f = some (kla_obj name qual params body sc [] pm c' ctv) → CodeC s'.heap c' qual → Q (.ref f) s') :
    wpAny W.M A (makeFunction name qual params (.expr body) sc env [] [] [] pos fl) Q X s := by
  have kb : ∀ b o, W.base.get? b = some o → s.heap.get? b = some o := fun b o e => (R.base b o e).1
  have C' := C.keeps kb
  obtain ⟨bm, ob, hbm, hne0, hneG, hneP, hbo, hcls, hdict, hdata⟩ := hB
  have hg : s.heap.Ns mainGlobals W.mg := ns_of_base R W.g
  obtain ⟨ps, hP, ht, hall⟩ := R.objs _ _ hT
  have hPB := R.base_none hT
  rw [makeFunction_eq]
  simp only [List.zip_nil_right, List.filterMap_nil, List.isEmpty_nil, if_true, pure_bind]
  unfold makeTail
  rw [clos_none hn, hge]
  refine wpAny_bind (wpAny_pure ?_)
  simp only [List.isEmpty_nil, if_true]
  refine wpAny_bind (wpAny_pure ?_)
  cases hq : codeAmong pos ps.toList with
  | some cv =>
    obtain ⟨c', ob', vs, t, rfl, k1, k2, k3, k4⟩ := hall cv hq
    refine wpAny_bind (wpAny_functionCode_hit hcode (C'.code hP ht) hq ?_)
    refine wpAny_bind (wpAny_builtinsFor hg hbm hne0 (kb _ _ hbo) hcls hdict hdata ?_)
    refine wpAny_bind (wpAny_nsGet hg ?_)
    refine wpAny_bind (wpAny_pure (wpAny_newObj_type ?_ (by size_fits)))
    exact h _ c' _ _ _ (R.fresh (Nat.le_refl _)) (Step.push R _) (Heap.get?_push_size _ rfl) ⟨ob', vs, t, Heap.get?_push_of_some _ k1, k2, k3, k4⟩
  | none =>
    refine wpAny_bind (wpAny_functionCodeX hcode (C'.code hP ht) (C'.tab hP) hq fun c' h' tk hx hge' hlt _ hrec htb hnew => ?_)
    have hgP : mainGlobals ≠ P := fun e => by
      obtain ⟨o, es, ep, e1, _⟩ := W.g
      rw [e, hPB] at e1; cases e1
    have hg' := hg.extBut hx hgP
    refine wpAny_bind (wpAny_builtinsFor hg' hbm hne0 (hx _ _ hneP (kb _ _ hbo)) hcls hdict hdata ?_)
    refine wpAny_bind (wpAny_nsGet hg' ?_)
    refine wpAny_bind (wpAny_pure (wpAny_newObj_type ?_ (by size_fits)))
    obtain ⟨P', _, _, ⟨⟨oc, vc, hoc, hcc, hdc, h11c⟩, _⟩⟩ := hnew
    obtain ⟨c2, o2, vs2, t2, e2, g2, d2, v2⟩ := hrec
    cases e2
    have : oc = o2 := Option.some.inj (hoc.symm.trans g2)
    subst this
    have hcc' : CodeC h' c' qual := ⟨oc, vs2, t2, g2, hcc, d2, v2⟩
    have tk0 : TupKeep s.heap h' := fun b o e hb => hx b o (by rintro rfl; rw [hP] at e; cases e; exact tab_nt hb) e
    have hst : Step W H s (upd H P (.tab pos qual)) { s with heap := h', toks := tk } := by
      refine Step.store R hT hx ⟨_, htb.2, ?_, fun cv hcv => ?_⟩
      · have hl : (ps ++ #[rawInt pos.line, rawInt pos.col, Value.ref c']).toList = ps.toList ++ [rawInt pos.line, rawInt pos.col, .ref c'] := by simp
        rw [hl]; exact TriplesOk_snoc _ _ _ _ ht
      · have hl : (ps ++ #[rawInt pos.line, rawInt pos.col, Value.ref c']).toList = ps.toList ++ [rawInt pos.line, rawInt pos.col, .ref c'] := by simp
        rw [hl, codeAmong_snoc _ ht hq] at hcv
        cases hcv
        exact ⟨c', oc, vs2, t2, rfl, g2, hcc, d2, v2⟩
    rw [upd_self hT] at hst
    have hsz : s.heap.objs.size ≤ h'.objs.size := Nat.le_trans hge' (Nat.le_of_lt hlt)
    exact h _ c' _ _ _ (R.fresh hsz) (hst.trans (Step.push hst.rel _)) (Heap.get?_push_size _ rfl) (hcc'.keep fun b o e _ => Heap.get?_push_of_some _ e)
theorem bind_lam {p : Arg} {qual q : Str} {body : PySem.Expr} {sc : Scope} {pm cdv ctv x : Value} (hp : p.arg = q) : bindArgs (kla_fn "<lambda>" qual ⟨[], [p], none, [], [], none, []⟩ body sc [] pm cdv ctv) ⟨[x], []⟩ = pure [(q, x)] := by
  have := bind_plain (fd := kla_fn "<lambda>" qual ⟨[], [p], none, [], [], none, []⟩ body sc [] pm cdv ctv) (names := [q]) rfl (by simp [hp]) rfl rfl rfl rfl (by simp) [x] rfl
  exact this
theorem we_sortk {a : E} {pos : Pos} {cd P : Addr} {qf : Str} {Q : V → AH → Prop} (hcx : cx.code = some (cd, qf)) (C : CodeHd W.base cd P) (hB : W.base.BuiltinsAt W.mg P)
    (h : WE W (n + 3) cx a ρ H fun v H1 => ∃ ad l, v = .ref ad ∧ H1 ad = some (.list l) ∧ l.length ≤ 1 ∧ H1 P = some (.tab pos (qf ++ "<lambda>")) ∧ (∀ v ∈ l, ∃ k r, v = .tup (.int k :: r)) ∧ ∀ c, H1 c = none → Q (.ref c) (upd H1 c (.list l))) :
    WE W (n + 3) cx (.sortk a pos) ρ H Q := by
  intro x hx env s A X R F hA
  apply e_sortk hx
  intro fn np y p q qp kk cp sp sc kpos pos' h0 h1 h2 h3 h5 h5a h5b h6 h7 h8 h9 h10
  have hn := kindEq_eq h9
  refine wpAny_Call_Name_kw (eval_glob R F h1 h0 (.inr (W.gok _ _ h2)) ?_)
  refine callWith_kw ?_ (by obtain ⟨z, _⟩ := star_cons (env := env) h3; rw [z]; rfl) (star_plain h3)
  refine anL (wes_one h [y] pos' (same_one h10) h3 env s A X R F hA) fun ys s1 vs H1 a1 w3s1 c1 => ?_
  obtain ⟨v, ev, ad, l, e2, q1, q2, q3, q4, q5⟩ := w3s1
  subst ev e2
  obtain ⟨yv, rfl, a2⟩ := a1.one_inv
  cases vr_ref a2
  have F1 := c1.frm R F
  obtain ⟨f1, f2⟩ := F1.code _ _ hcx
  refine kws_cons ?_
  refine kla_eval rfl ?_
  rw [f2]
  refine mk_lam c1.rel F1.gl f1 C hB q3 hn fun f c' pm ctv s2 hf c2 ho hcc => ?_
  refine kws_nil ?_
  show wpAny W.M A (PySem.call (.builtin "sorted") [.ref ad] [(Str.ofString "key", .ref f)]) _ X s2
  obtain ⟨its, m, e, r, hsz⟩ := (c2.rel.objs _ _ q1).list_at
  have c12 := c1.trans c2
  refine sorted_key1 (lv := l) (vs := its.toList) c2.rel (by simpa using isList_of e) r (by rw [Array.length_toList]; lia) (fun v hv s3 c3 kp X' Q' hQ => ?_) fun D s3 hD c3 => ?_
  · obtain ⟨i, hi⟩ := List.getElem?_of_mem hv
    obtain ⟨u, hu, ru⟩ := r.get' hi
    obtain ⟨k, rr, rfl⟩ := q4 u (List.mem_of_getElem? hu)
    refine lam_call (n := n) (k := k) (r := rr) (q := q) c3.rel hA.in1.in1 (kp _ _ ho) (hcc.keep fun b o e _ => kp b o e).rec_ ?_ h6 h7 h8 hn (bind_lam h5) (c3.vr c2.rel ru) (hQ k)
    show (true && (true && ((true && (!(q == ("__debug__" : Str)) && (!(q == ("__classdict__" : Str)) && ((lamCx q).slots.lookup q == some 0 && localish ((lamCx q).kinds.lookup q))))) && (true && true)))) = true
    rw [h5a, h5b]
    simp [lamCx, localish]
  · exact ⟨_, _, .ref D, q5 D (by simpa using hD), c12.trans c3⟩
end
section
variable {W : Wd} {n : Nat} {cx : Cx} {ρ : Loc} {H : AH}
theorem look_none {last : Str} : ∀ {init : List Str} {xs : List Value}, last ∉ init → ((init ++ [last]).zip xs).length ≤ init.length → ((init ++ [last]).zip xs).lookup last = none
  | [], [], _, _ => rfl
  | [], _ :: _, _, h => by simp at h
  | a :: r, [], _, _ => by simp
  | a :: r, x :: xs, hn, h => by
    rw [List.cons_append, List.zip_cons_cons, List.lookup_cons]
    have : (last == a) = false := by
      simp only [beq_eq_false_iff_ne]; rintro rfl; exact hn (.head _)
    rw [this]
    exact look_none (fun q => hn (.tail _ q)) (by simpa using h)
theorem zip_append1 {last : Str} {d : Value} : ∀ {init : List Str} {xs : List Value}, xs.length = init.length → (init ++ [last]).zip (xs ++ [d]) = (init ++ [last]).zip xs ++ [(last, d)]
  | [], [], _ => rfl
  | [], _ :: _, h => nomatch h
  | _ :: _, [], h => nomatch h
  | a :: r, x :: xs, h => congrArg ((a, x) :: ·) (zip_append1 (init := r) (xs := xs) (Nat.succ.inj h))
theorem zip_first {last : Str} : ∀ {init : List Str} {xs : List Value}, xs.length = init.length → (init ++ [last]).zip xs = init.zip xs
  | [], [], _ => rfl
  | [], _ :: _, h => nomatch h
  | _ :: _, [], h => nomatch h
  | a :: r, x :: xs, h => congrArg ((a, x) :: ·) (zip_first (init := r) (xs := xs) (Nat.succ.inj h))
theorem last_of {names init : List Str} {last : Str} (hn : names = init ++ [last]) : names.length = init.length + 1 ∧ names.take (names.length - 1) = init ∧ names.drop (names.length - 1) = [last] := by
  subst hn
  rw [List.length_append, List.length_singleton, Nat.add_sub_cancel, List.take_left, List.drop_left]
  exact ⟨rfl, rfl, rfl⟩
theorem bindS_one {names init : List Str} {last : Str} {dx : Value} {e1 e2 : Sem (List (Str × Value))} (hn : names = init ++ [last]) (xs : List Value) (h1 : xs.length ≤ names.length) (hm : ∀ n ∈ init, ((names.zip xs).lookup n).isNone = false) :
    bindS names xs [dx] e1 e2 = pure (names.filterMap fun n => ((if ((names.zip xs).lookup last).isNone = true then names.zip xs ++ [(last, dx)] else names.zip xs).lookup n).map (n, ·)) := by
  obtain ⟨a, b, c⟩ := last_of hn
  have hd : [dx].length ≤ names.length := by rw [a]; exact Nat.succ_le_succ (Nat.zero_le _)
  rw [bindS_step h1 hd (b.symm ▸ hm), show names.drop (names.length - [dx].length) = [last] from c, List.append_nil]
  show forIn [(last, dx)] _ _ >>= _ = _
  by_cases q : ((names.zip xs).lookup last).isNone = true
  · simp only [List.forIn_cons, List.forIn_nil, if_pos q, pure_bind]
  · simp only [List.forIn_cons, List.forIn_nil, if_neg q, pure_bind]
theorem bind_dflt {fd : FuncData} {names init : List Str} {last : Str} {T : Addr} {o : Obj} {dx : Value} {m : Nat} {s : Shared} (h1 : fd.params.posonlyargs = []) (h2 : fd.params.args.map (·.arg) = names) (h3 : fd.params.vararg = none) (h4 : fd.params.kwonlyargs = [])
    (h5 : fd.params.kwarg = none) (h6 : fd.defaults = .ref T) (ho : s.heap.get? T = some o) (hd : o.data = .seq #[dx] m) (nd : names.Nodup) (hn : names = init ++ [last]) (xs : List Value) (hl : xs.length = init.length) : BindsTo s fd ⟨xs, []⟩ (names.zip (xs ++ [dx])) := by
  obtain ⟨e1, e2, e⟩ := bind_core (par_eq h1 h3 h4 h5) xs
  intro M A E Q hq
  rw [e, h6, h2]
  refine wpAny_bind (wpAny_seqItems ho hd ?_)
  have hni : last ∉ init := fun q => by
    rw [hn] at nd
    exact (List.nodup_append.mp nd).2.2 _ q _ (.head _) rfl
  have hle : xs.length ≤ names.length := by rw [(last_of hn).1, hl]; exact Nat.le_succ _
  have hlast : (names.zip xs).lookup last = none := by
    rw [hn]; exact look_none hni (by rw [List.length_zip, ← hl]; exact Nat.min_le_right _ _)
  show wpAny M A (bindS names xs [dx] _ _) Q E s
  rw [bindS_one hn xs hle fun n h => by rw [hn, zip_first hl]; exact lookup_zip_some hl n h, hlast, if_pos (show (none : Option Value).isNone = true from rfl), hn, ← zip_append1 hl, ← hn, filterMap_zip (by rw [(last_of hn).1, List.length_append, hl]; rfl) nd]
  exact wpAny_pure hq
theorem bind_full {fd : FuncData} {names init : List Str} {last : Str} {T : Addr} {o : Obj} {dx : Value} {m : Nat} {s : Shared} (h1 : fd.params.posonlyargs = []) (h2 : fd.params.args.map (·.arg) = names) (h3 : fd.params.vararg = none) (h4 : fd.params.kwonlyargs = [])
    (h5 : fd.params.kwarg = none) (h6 : fd.defaults = .ref T) (ho : s.heap.get? T = some o) (hd : o.data = .seq #[dx] m) (nd : names.Nodup) (hn : names = init ++ [last]) (xs : List Value) (hl : xs.length = names.length) : BindsTo s fd ⟨xs, []⟩ (names.zip (xs ++ [])) := by
  obtain ⟨e1, e2, e⟩ := bind_core (par_eq h1 h3 h4 h5) xs
  intro M A E Q hq
  rw [e, h6, h2]
  refine wpAny_bind (wpAny_seqItems ho hd ?_)
  have hall := lookup_zip_some hl
  show wpAny M A (bindS names xs [dx] _ _) Q E s
  rw [bindS_one hn xs (Nat.le_of_eq hl) fun n h => hall n (by rw [hn]; exact List.mem_append_left _ h), hall last (by rw [hn]; exact List.mem_append_right _ (.head _)), if_neg Bool.false_ne_true, filterMap_zip hl nd]
  rw [List.append_nil] at hq
  exact wpAny_pure hq
theorem no_cell {names : List (Str × NameKind)} (h : names.all (fun p => p.2 != .cell) = true) : ∀ x ∈ names, x.2 ≠ .cell := fun x hx => by
  have := List.all_eq_true.mp h x hx
  simpa using this
theorem wc_fn1 {f : Addr} {ss : Ss} {names init : List Str} {last : Str} {T : Addr} {d : V} {dx : Value} (h : fnChk W.K W.gt W.attr f cx ss names = true) (hn : names = init ++ [last]) (hd : (fnGet W.K f).map (·.defaults) = some (.ref T))
    (hT : ∃ o m, W.K.lookup T = some o ∧ o.data = .seq #[dx] m) (hv : ∀ h, VR h d dx) (hc : cx.kinds.all (fun p => p.2 != .cell) = true) {vs : List V} (hl : vs.length = init.length) (m : Nat) {Q : V → AH → Prop}
    (k : WSs W n cx ss (start (vs ++ [d]) m) H (RetQ Q)) : WC W (n + 1) f vs H Q := by
  obtain ⟨fd, F, g, b1, b2, b3, b4, b5⟩ := fn_is h
  rw [g] at hd
  obtain ⟨o, mm, t1, t2⟩ := hT
  exact wc_dflt F (dvs := [d]) (dxs := [dx]) (fun h => .one (hv h)) (by rw [F.kinds]; exact no_cell hc) (fun s xs hX hx => bind_dflt b1 b2 b3 b4 b5 (by simpa using hd) (hX _ _ t1) t2 F.nodup hn xs (by lia)) (by rw [hn]; simp [hl]) m k
theorem wc_fn0 {f : Addr} {ss : Ss} {names init : List Str} {last : Str} {T : Addr} {dx : Value} (h : fnChk W.K W.gt W.attr f cx ss names = true) (hn : names = init ++ [last]) (hd : (fnGet W.K f).map (·.defaults) = some (.ref T))
    (hT : ∃ o m, W.K.lookup T = some o ∧ o.data = .seq #[dx] m) (hc : cx.kinds.all (fun p => p.2 != .cell) = true) {vs : List V} (hl : vs.length = names.length) (m : Nat) {Q : V → AH → Prop}
    (k : WSs W n cx ss (start vs m) H (RetQ Q)) : WC W (n + 1) f vs H Q := by
  obtain ⟨fd, F, g, b1, b2, b3, b4, b5⟩ := fn_is h
  rw [g] at hd
  obtain ⟨o, mm, t1, t2⟩ := hT
  refine wc_dflt F (dvs := []) (dxs := []) (fun h => .nil) (by rw [F.kinds]; exact no_cell hc) (fun s xs hX hx => bind_full b1 b2 b3 b4 b5 (by simpa using hd) (hX _ _ t1) t2 F.nodup hn xs (by lia)) (by simpa using hl) m ?_
  rw [List.append_nil]; exact k
end
section
@[reducible] noncomputable def lget : Loc → Nat → Option V
  | [], _ => none
  | x :: _, 0 => x
  | _ :: r, i + 1 => lget r i
@[reducible] noncomputable def lset : Loc → Nat → V → Loc
  | [], _, _ => []
  | _ :: r, 0, v => some v :: r
  | x :: r, i + 1, v => x :: lset r i v
theorem lget_eq : ∀ {ρ : Loc} {i : Nat} {v : V}, lget ρ i = some v → ρ[i]? = some (some v)
  | x :: r, 0, v, h => by simpa [lget] using h
  | x :: r, i + 1, v, h => by simpa using lget_eq (ρ := r) h
theorem lset_eq : ∀ (ρ : Loc) (i : Nat) (v : V), lset ρ i v = ρ.set i (some v)
  | [], _, _ => rfl
  | x :: r, 0, v => rfl
  | x :: r, i + 1, v => congrArg (x :: ·) (lset_eq r i v)
@[reducible] noncomputable def vOp (W : Wd) (n : Nat) : Operator → V → V → AH → (V → AH → Prop) → Prop
  | .Add, .int i, .int j, H, Q => Q (.int (i + j)) H
  | .Sub, .int i, .int j, H, Q => Q (.int (i - j)) H
  | op, x, y, H, Q => OpOk W n op x y H Q
inductive CmpA (W : Wd) (n : Nat) (op : CmpOp) (x y : V) (H : AH) (Q : Bool → AH → Prop) : Prop
  | mk (r : Bool) (h : CmpOk W n op x y H r) (q : Q r H)
inductive SetA (W : Wd) (n : Nat) (x y v : V) (H : AH) (Q : AH → Prop) : Prop
  | mk (H3 : AH) (h : SetOk W n x y v H H3) (q : Q H3)
@[reducible] noncomputable def vCmp (W : Wd) (n : Nat) : CmpOp → V → V → AH → (Bool → AH → Prop) → Prop
  | .Eq, .int i, .int j, H, Q => Q (i == j) H
  | .NotEq, .int i, .int j, H, Q => Q (i != j) H
  | .Lt, .int i, .int j, H, Q => Q (decide (i < j)) H
  | .LtE, .int i, .int j, H, Q => Q (decide (i ≤ j)) H
  | .Gt, .int i, .int j, H, Q => Q (decide (j < i)) H
  | .GtE, .int i, .int j, H, Q => Q (decide (j ≤ i)) H
  | .Is, v, .none, H, Q => Q v.isNone H
  | .IsNot, v, .none, H, Q => Q (!v.isNone) H
  | op, x, y, H, Q => CmpA W n op x y H Q
@[reducible] noncomputable def seqK (P : Loc → AH → Prop) (Q : AF → Loc → AH → Prop) : AF → Loc → AH → Prop
  | .next, ρ, H => P ρ H
  | a, ρ, H => Q a ρ H
@[reducible] noncomputable def vInt : V → (Int → Prop) → Prop
  | .int k, P => P k
  | _, _ => False
@[reducible] noncomputable def vBool : V → (Bool → Prop) → Prop
  | .bool b, P => P b
  | _, _ => False
@[reducible] noncomputable def vLoc : Option V → (V → Prop) → Prop
  | some v, P => P v
  | none, _ => False
@[reducible] noncomputable def vTup2 : V → (V → V → Prop) → Prop
  | .tup [a, b], P => P a b
  | _, _ => False
@[reducible] noncomputable def vTup3 : V → (V → V → V → Prop) → Prop
  | .tup [a, b, c], P => P a b c
  | _, _ => False
mutual
@[reducible] noncomputable def vE (W : Wd) (n : Nat) (cx : Cx) : E → Loc → AH → (V → AH → Prop) → Prop
  | .cst v, _, H, Q => Q v H
  | .glb i, _, H, Q => Q (.int i) H
  | .loc i, ρ, H, Q => vLoc (lget ρ i) fun v => Q v H
  | .bin op a b, ρ, H, Q => vE W n cx a ρ H fun x H1 => vE W n cx b ρ H1 fun y H2 => vOp W n op x y H2 Q
  | .neg a, ρ, H, Q => vE W n cx a ρ H fun x H1 => vInt x fun i => Q (.int (-i)) H1
  | .cmp a op b, ρ, H, Q => vE W n cx a ρ H fun x H1 => vE W n cx b ρ H1 fun y H2 => vCmp W n op x y H2 fun r H3 => Q (.bool r) H3
  | .ife t a b, ρ, H, Q => vT W n cx t ρ H fun r H1 => (r = true → vE W n cx a ρ H1 Q) ∧ (r = false → vE W n cx b ρ H1 Q)
  | .tup es, ρ, H, Q => vEs W n cx es ρ H fun vs H1 => vs.length ≤ 1000 ∧ Q (.tup vs) H1
  | .lst es, ρ, H, Q => vEs W n cx es ρ H fun vs H1 => vs.length ≤ 1000 ∧ ∀ a, H1 a = none → Q (.ref a) (upd H1 a (.list vs))
  | .idx a i, ρ, H, Q => vE W n cx a ρ H fun x H1 => vE W n cx i ρ H1 fun y H2 => IdxOk W n x y H2 Q
  | .slTo a hi, ρ, H, Q => vE W n cx a ρ H fun x H1 => vE W n cx hi ρ H1 fun y H2 => vInt y fun k => SlOk W n none (some k) none x H2 Q
  | .slFrom a lo, ρ, H, Q => vE W n cx a ρ H fun x H1 => vE W n cx lo ρ H1 fun y H2 => vInt y fun k => SlOk W n (some k) none none x H2 Q
  | .slRev a, ρ, H, Q => vE W n cx a ρ H fun x H1 => SlOk W n none none (some (-1)) x H1 Q
  | .attr a k, ρ, H, Q => vE W n cx a ρ H fun x H1 => ∃ o C dx l v, x = .ref o ∧ H1 o = some (.inst C dx) ∧ H1 dx = some (.ns l) ∧ W.cplain C = true ∧ W.cattr C k = true ∧ alook l k = some v ∧ Q v H1
  | .call f args, ρ, H, Q => vEs W n cx args ρ H fun vs H1 => WC W n f vs H1 Q
  | .new C args, ρ, H, Q => vEs W n cx args ρ H fun vs H1 => WV W n (.ref C) vs H1 Q
  | .meth o m args, ρ, H, Q => vE W n cx o ρ H fun x H1 => ∃ f, Bound W x m H1 f ∧ vEs W n cx args ρ H1 fun vs H2 => WV W n f (x :: vs) H2 Q
  | .blt id args, ρ, H, Q => vEs W n cx args ρ H fun vs H1 => WV W n (.builtin id) vs H1 Q
  | .typ id args, ρ, H, Q => vEs W n cx args ρ H fun vs H1 => WV W n (.type id) vs H1 Q
  | .cmp2 a op b op' c, ρ, H, Q => vE W n cx a ρ H fun x H1 => vE W n cx b ρ H1 fun y H2 => vCmp W n op x y H2 fun r H3 => (r = true → vE W n cx c ρ H3 fun z H4 => vCmp W n op' y z H4 fun r H5 => Q (.bool r) H5) ∧ (r = false → Q (.bool false) H3)
  | .dict k .nil .nil, ρ, H, Q => ∀ c, H c = none → Q (.ref c) (upd H c (emptyOf k))
  | .isb a, ρ, H, Q => vE W n cx a ρ H fun v H1 => ∃ r, isBoolV v = some r ∧ Q (.bool r) H1
  | e, ρ, H, Q => WE W n cx e ρ H Q
termination_by structural e => e
@[reducible] noncomputable def vT (W : Wd) (n : Nat) (cx : Cx) : E → Loc → AH → (Bool → AH → Prop) → Prop
  | .cmp a op b, ρ, H, Q => vE W n cx a ρ H fun x H1 => vE W n cx b ρ H1 fun y H2 => vCmp W n op x y H2 Q
  | .cmp2 a op b op' c, ρ, H, Q => vE W n cx a ρ H fun x H1 => vE W n cx b ρ H1 fun y H2 => vCmp W n op x y H2 fun r H3 => (r = true → vE W n cx c ρ H3 fun z H4 => vCmp W n op' y z H4 Q) ∧ (r = false → Q false H3)
  | .bop op es, ρ, H, Q => vBop W n cx op es ρ H Q
  | .not e, ρ, H, Q => vT W n cx e ρ H fun b H1 => Q (!b) H1
  | .ife t a b, ρ, H, Q => vT W n cx t ρ H fun r H1 => (r = true → vT W n cx a ρ H1 Q) ∧ (r = false → vT W n cx b ρ H1 Q)
  | .loc i, ρ, H, Q => vLoc (lget ρ i) fun v => vBool v fun b => Q b H
  | .idx a i, ρ, H, Q => vE W n cx a ρ H fun x H1 => vE W n cx i ρ H1 fun y H2 => IdxOk W n x y H2 fun v H3 => vBool v fun b => Q b H3
  | .call f args, ρ, H, Q => vEs W n cx args ρ H fun vs H1 => WC W n f vs H1 fun v H2 => vBool v fun b => Q b H2
  | e, ρ, H, Q => WT W n cx e ρ H Q
termination_by structural e => e
@[reducible] noncomputable def vBop (W : Wd) (n : Nat) (cx : Cx) : BoolOp → Es → Loc → AH → (Bool → AH → Prop) → Prop
  | .And, .nil, _, H, Q => Q true H
  | .Or, .nil, _, H, Q => Q false H
  | .And, .cons e es, ρ, H, Q => vT W n cx e ρ H fun r H1 => (r = true → vBop W n cx .And es ρ H1 Q) ∧ (r = false → Q false H1)
  | .Or, .cons e es, ρ, H, Q => vT W n cx e ρ H fun r H1 => (r = true → Q true H1) ∧ (r = false → vBop W n cx .Or es ρ H1 Q)
termination_by structural _ es => es
@[reducible] noncomputable def vEs (W : Wd) (n : Nat) (cx : Cx) : Es → Loc → AH → (List V → AH → Prop) → Prop
  | .nil, _, H, Q => Q [] H
  | .cons e es, ρ, H, Q => vE W n cx e ρ H fun v H1 => vEs W n cx es ρ H1 fun vs H2 => Q (v :: vs) H2
termination_by structural es => es
end
@[reducible] noncomputable def tsLen : Ts → List V → Prop → Prop
  | .nil, [], P => P
  | .cons _ ts, _ :: l, P => tsLen ts l P
  | _, _, _ => False
mutual
@[reducible] noncomputable def vG (W : Wd) (n : Nat) (cx : Cx) : T → V → Loc → AH → (Loc → AH → Prop) → Prop
  | .slot i, v, ρ, H, Q => Q (lset ρ i v) H
  | .attr o k, v, ρ, H, Q => vE W n cx o ρ H fun x H1 => ∃ oa C dx l, x = .ref oa ∧ H1 oa = some (.inst C dx) ∧ H1 dx = some (.ns l) ∧ W.cplain C = true ∧ W.cattr C k = true ∧ l.length ≤ 500 ∧ Q ρ (upd H1 dx (.ns (nput l k v)))
  | .idx o i, v, ρ, H, Q => vE W n cx o ρ H fun x H1 => vE W n cx i ρ H1 fun y H2 => SetA W n x y v H2 fun H3 => Q ρ H3
  | .tup ts, .tup l, ρ, H, Q => tsLen ts l (vGs W n cx ts l ρ H Q)
  | _, _, _, _, _ => False
termination_by structural t => t
@[reducible] noncomputable def vGs (W : Wd) (n : Nat) (cx : Cx) : Ts → List V → Loc → AH → (Loc → AH → Prop) → Prop
  | .nil, [], ρ, H, Q => Q ρ H
  | .cons t ts, v :: l, ρ, H, Q => vG W n cx t v ρ H fun ρ1 H1 => vGs W n cx ts l ρ1 H1 Q
  | _, _, _, _, _ => False
termination_by structural t => t
end
@[reducible] noncomputable def vAug : Operator → V → V → (V → Prop) → Prop
  | .Add, .int a, .int b, P => P (.int (a + b))
  | .Sub, .int a, .int b, P => P (.int (a - b))
  | _, _, _, _ => False
mutual
@[reducible] noncomputable def vS (W : Wd) (n : Nat) (cx : Cx) : S → Loc → AH → (AF → Loc → AH → Prop) → Prop
  | .asg t e, ρ, H, Q => vE W n cx e ρ H fun v H1 => vG W n cx t v ρ H1 fun ρ2 H2 => Q .next ρ2 H2
  | .swp [i, j] e, ρ, H, Q => vE W n cx e ρ H fun v H1 => vTup2 v fun a b => Q .next (lset (lset ρ j b) i a) H1
  | .swp [i, j, k] e, ρ, H, Q => vE W n cx e ρ H fun v H1 => vTup3 v fun a b c => Q .next (lset (lset (lset ρ k c) j b) i a) H1
  | .aug i op e, ρ, H, Q => vLoc (lget ρ i) fun u => vE W n cx e ρ H fun v H1 => vAug op u v fun w => Q .next (lset ρ i w) H1
  | .ifs t a b, ρ, H, Q => vT W n cx t ρ H fun r H1 => (r = true → vSs W n cx a ρ H1 Q) ∧ (r = false → vSs W n cx b ρ H1 Q)
  | .ret e, ρ, H, Q => vE W n cx e ρ H fun v H1 => Q (.ret v) ρ H1
  | .brk, ρ, H, Q => Q .brk ρ H
  | .cnt, ρ, H, Q => Q .cnt ρ H
  | .exp e, ρ, H, Q => vE W n cx e ρ H fun v H1 => Q .next ρ H1
  | c, ρ, H, Q => WS W n cx c ρ H Q
termination_by structural c => c
@[reducible] noncomputable def vSs (W : Wd) (n : Nat) (cx : Cx) : Ss → Loc → AH → (AF → Loc → AH → Prop) → Prop
  | .nil, ρ, H, Q => Q .next ρ H
  | .cons c cs, ρ, H, Q => vS W n cx c ρ H (seqK (fun ρ1 H1 => vSs W n cx cs ρ1 H1 Q) Q)
termination_by structural c => c
end
variable {W : Wd} {n : Nat} {cx : Cx}
theorem vOp_sound {op : Operator} {x y : V} {H : AH} {Q : V → AH → Prop} (h : vOp W n op x y H Q) : OpOk W n op x y H Q := by
  cases op <;> first | exact h | (cases x <;> first | exact h | (cases y <;> first | exact h | exact op_add h | exact op_sub h))
theorem vCmp_sound {op : CmpOp} {x y : V} {H : AH} {Q : Bool → AH → Prop} (h : vCmp W n op x y H Q) : CmpA W n op x y H Q := by
  cases op with
  | Eq => cases x with | int i => (cases y with | int j => exact ⟨_, cmp_eqi, h⟩ | _ => exact h) | _ => exact h
  | NotEq => cases x with | int i => (cases y with | int j => exact ⟨_, cmp_nei, h⟩ | _ => exact h) | _ => exact h
  | Lt => cases x with | int i => (cases y with | int j => exact ⟨_, cmp_lt, h⟩ | _ => exact h) | _ => exact h
  | LtE => cases x with | int i => (cases y with | int j => exact ⟨_, cmp_le, h⟩ | _ => exact h) | _ => exact h
  | Gt => cases x with | int i => (cases y with | int j => exact ⟨_, cmp_gt, h⟩ | _ => exact h) | _ => exact h
  | GtE => cases x with | int i => (cases y with | int j => exact ⟨_, cmp_ge, h⟩ | _ => exact h) | _ => exact h
  | Is => cases y with | none => exact ⟨_, cmp_is, h⟩ | _ => exact h
  | IsNot => cases y with | none => exact ⟨_, cmp_isNot, h⟩ | _ => exact h
  | _ => exact h
theorem CmpA.ex {op : CmpOp} {x y : V} {H : AH} {Q Q' : Bool → AH → Prop} (h : CmpA W n op x y H Q) (k : ∀ r H', Q r H' → Q' r H') : ∃ r, CmpOk W n op x y H r ∧ Q' r H :=
  h.casesOn fun r a b => ⟨r, a, k _ _ b⟩
theorem vInt_inv {v : V} {P : Int → Prop} (h : vInt v P) : ∃ k, v = .int k ∧ P k := by
  cases v <;> first | exact ⟨_, rfl, h⟩ | exact h.elim
theorem vBool_inv {v : V} {P : Bool → Prop} (h : vBool v P) : ∃ k, v = .bool k ∧ P k := by
  cases v <;> first | exact ⟨_, rfl, h⟩ | exact h.elim
theorem vLoc_c {o : Option V} {P : V → Prop} {R : Prop} (h : vLoc o P) (k : ∀ v, o = some v → P v → R) : R := by
  cases o with
  | none => exact h.elim
  | some v => exact k v rfl h
theorem vTup2_inv {v : V} {P : V → V → Prop} (h : vTup2 v P) : ∃ a b, v = .tup [a, b] ∧ P a b := by
  cases v with
  | tup l => rcases l with _ | ⟨a, _ | ⟨b, _ | _⟩⟩ <;> first | exact h.elim | exact ⟨a, b, rfl, h⟩
  | _ => exact h.elim
theorem vTup3_inv {v : V} {P : V → V → V → Prop} (h : vTup3 v P) : ∃ a b c, v = .tup [a, b, c] ∧ P a b c := by
  cases v with
  | tup l => rcases l with _ | ⟨a, _ | ⟨b, _ | ⟨c, _ | _⟩⟩⟩ <;> first | exact h.elim | exact ⟨a, b, c, rfl, h⟩
  | _ => exact h.elim
theorem WG.mono {t : T} {v : V} {ρ : Loc} {H : AH} {Q Q' : Loc → AH → Prop} (h : WG W n cx t v ρ H Q) (k : ∀ ρ' H', Q ρ' H' → Q' ρ' H') : WG W n cx t v ρ H Q' := by
  intro x hx env s A X y R F hA hy
  exact anW (h x hx env s A X y R F hA hy) fun _ _ ρ' H' a b c d => ⟨ρ', H', k _ _ a, b, c, d⟩
theorem wb_and {e : E} {es : Es} {ρ : Loc} {H : AH} {Q : Bool → AH → Prop} (h : WT W n cx e ρ H fun r H1 => (r = true → WBop W n cx .And es ρ H1 Q) ∧ (r = false → Q false H1)) : WBop W n cx .And (.cons e es) ρ H Q := by
  refine WT.mono h fun r H1 q => ?_
  cases r with
  | true => exact q.1 rfl
  | false => exact q.2 rfl
theorem wb_and0 {ρ : Loc} {H : AH} {Q : Bool → AH → Prop} (h : Q true H) : WBop W n cx .And .nil ρ H Q := h
theorem wb_or {e : E} {es : Es} {ρ : Loc} {H : AH} {Q : Bool → AH → Prop} (h : WT W n cx e ρ H fun r H1 => (r = true → Q true H1) ∧ (r = false → WBop W n cx .Or es ρ H1 Q)) : WBop W n cx .Or (.cons e es) ρ H Q := by
  refine WT.mono h fun r H1 q => ?_
  cases r with
  | true => exact q.1 rfl
  | false => exact q.2 rfl
theorem wb_or0 {ρ : Loc} {H : AH} {Q : Bool → AH → Prop} (h : Q false H) : WBop W n cx .Or .nil ρ H Q := h
theorem idx_mono {x y : V} {H : AH} {Q Q' : V → AH → Prop} (h : IdxOk W n x y H Q) (k : ∀ v H', Q v H' → Q' v H') : IdxOk W n x y H Q' :=
  fun s A X a b R hA ha hb => ⟨(h s A X a b R hA ha hb).1, an (h s A X a b R hA ha hb).2 fun _ _ v H' p q r => ⟨v, H', p, k _ _ q, r⟩⟩
theorem tsLen_inv : ∀ {ts : Ts} {l : List V} {P : Prop}, tsLen ts l P → ts.len = l.length ∧ P
  | .nil, [], _, h => ⟨rfl, h⟩
  | .cons _ ts, _ :: l, _, h => ⟨congrArg (· + 1) (tsLen_inv (ts := ts) (l := l) h).1, (tsLen_inv (ts := ts) (l := l) h).2⟩
  | .nil, _ :: _, _, h => h.elim
  | .cons .., [], _, h => h.elim
mutual
theorem vE_sound : ∀ (e : E) {ρ : Loc} {H : AH} {Q : V → AH → Prop}, vE W n cx e ρ H Q → WE W n cx e ρ H Q
  | .cst v, _, _, _, h => we_cst h
  | .glb i, _, _, _, h => we_glb h
  | .loc i, _, _, _, h => vLoc_c h fun _ e q => we_loc (lget_eq e) q
  | .bin op a b, _, _, _, h => we_bin ((vE_sound a h).mono fun _ _ h => (vE_sound b h).mono fun _ _ h => vOp_sound h)
  | .neg a, _, _, _, h => we_neg ((vE_sound a h).mono fun _ _ h => vInt_inv h)
  | .cmp a op b, _, _, _, h => we_cmp ((vE_sound a h).mono fun _ _ h => (vE_sound b h).mono fun _ _ h => (vCmp_sound h).ex fun _ _ h => h)
  | .ife t a b, _, _, _, h => we_ife ((vT_sound t h).mono fun _ _ h => ⟨fun q => vE_sound a (h.1 q), fun q => vE_sound b (h.2 q)⟩)
  | .tup es, _, _, _, h => we_tup (vEs_sound es h)
  | .lst es, _, _, _, h => we_lst (vEs_sound es h)
  | .idx a i, _, _, _, h => we_idx ((vE_sound a h).mono fun _ _ h => vE_sound i h)
  | .slTo a i, _, _, _, h => we_slTo ((vE_sound a h).mono fun _ _ h => (vE_sound i h).mono fun _ _ h => vInt_inv h)
  | .slFrom a i, _, _, _, h => we_slFrom ((vE_sound a h).mono fun _ _ h => (vE_sound i h).mono fun _ _ h => vInt_inv h)
  | .slRev a, _, _, _, h => we_slRev (vE_sound a h)
  | .attr a k, _, _, _, h => we_attr (vE_sound a h)
  | .call f args, _, _, _, h => we_call (vEs_sound args h)
  | .new f args, _, _, _, h => we_new (vEs_sound args h)
  | .meth o m args, _, _, _, h => we_meth ((vE_sound o h).mono fun _ _ h => h.imp fun f h => ⟨h.1, vEs_sound args h.2⟩)
  | .blt id args, _, _, _, h => we_blt (vEs_sound args h)
  | .typ id args, _, _, _, h => we_typ (vEs_sound args h)
  | .not _, _, _, _, h => h
  | .cmp2 a op b op' c, _, _, _, h => we_cmp2 ((vE_sound a h).mono fun _ _ h => (vE_sound b h).mono fun _ _ h => (vCmp_sound h).casesOn fun r q h => ⟨r, q, h.2, fun q => (vE_sound c (h.1 q)).mono fun _ _ h => (vCmp_sound h).ex fun _ _ h => h⟩)
  | .bop .., _, _, _, h => h
  | .dict _ .nil .nil, _, _, _, h => we_dict_nil h
  | .dict _ .nil (.cons ..), _, _, _, h => h
  | .dict _ (.cons ..) _, _, _, _, h => h
  | .comp .., _, _, _, h => h
  | .sortk .., _, _, _, h => h
  | .isb a, _, _, _, h => we_isb (vE_sound a h)
termination_by structural e => e
theorem vT_sound : ∀ (e : E) {ρ : Loc} {H : AH} {Q : Bool → AH → Prop}, vT W n cx e ρ H Q → WT W n cx e ρ H Q
  | .cmp a op b, _, _, _, h => wt_cmp ((vE_sound a h).mono fun _ _ h => (vE_sound b h).mono fun _ _ h => (vCmp_sound h).ex fun _ _ h => h)
  | .cmp2 a op b op' c, _, _, _, h => wt_cmp2 ((vE_sound a h).mono fun _ _ h => (vE_sound b h).mono fun _ _ h => (vCmp_sound h).casesOn fun r q h => ⟨r, q, h.2, fun q => (vE_sound c (h.1 q)).mono fun _ _ h => (vCmp_sound h).ex fun _ _ h => h⟩)
  | .bop op es, _, _, _, h => wt_bop (vBop_sound op es h)
  | .not e, _, _, _, h => wt_not (vT_sound e h)
  | .ife t a b, _, _, _, h => wt_ife ((vT_sound t h).mono fun _ _ h => ⟨fun q => vT_sound a (h.1 q), fun q => vT_sound b (h.2 q)⟩)
  | .loc i, _, _, _, h => wt_val pt_loc (vLoc_c h fun _ e q => we_loc (lget_eq e) (vBool_inv q))
  | .idx a i, _, _, _, h => wt_val pt_idx (we_idx ((vE_sound a h).mono fun _ _ h => (vE_sound i h).mono fun _ _ h => idx_mono h fun _ _ h => vBool_inv h))
  | .call f args, _, _, _, h => wt_val pt_call (we_call ((vEs_sound args h).mono fun _ _ h => h.mono (Nat.le_refl _) fun _ _ h => vBool_inv h))
  | .cst _, _, _, _, h => h
  | .glb _, _, _, _, h => h
  | .bin .., _, _, _, h => h
  | .neg _, _, _, _, h => h
  | .tup _, _, _, _, h => h
  | .lst _, _, _, _, h => h
  | .slTo .., _, _, _, h => h
  | .slFrom .., _, _, _, h => h
  | .slRev _, _, _, _, h => h
  | .attr .., _, _, _, h => h
  | .new .., _, _, _, h => h
  | .meth .., _, _, _, h => h
  | .blt .., _, _, _, h => h
  | .typ .., _, _, _, h => h
  | .dict .., _, _, _, h => h
  | .comp .., _, _, _, h => h
  | .sortk .., _, _, _, h => h
  | .isb .., _, _, _, h => h
termination_by structural e => e
theorem vBop_sound : ∀ (op : BoolOp) (es : Es) {ρ : Loc} {H : AH} {Q : Bool → AH → Prop}, vBop W n cx op es ρ H Q → WBop W n cx op es ρ H Q
  | .And, .nil, _, _, _, h => wb_and0 h
  | .Or, .nil, _, _, _, h => wb_or0 h
  | .And, .cons e es, _, _, _, h => wb_and ((vT_sound e h).mono fun _ _ h => ⟨fun q => vBop_sound .And es (h.1 q), h.2⟩)
  | .Or, .cons e es, _, _, _, h => wb_or ((vT_sound e h).mono fun _ _ h => ⟨h.1, fun q => vBop_sound .Or es (h.2 q)⟩)
termination_by structural _ es => es
theorem vEs_sound : ∀ (es : Es) {ρ : Loc} {H : AH} {Q : List V → AH → Prop}, vEs W n cx es ρ H Q → WEs W n cx es ρ H Q
  | .nil, _, _, _, h => wes_nil h
  | .cons e es, _, _, _, h => wes_cons ((vE_sound e h).mono fun _ _ h => vEs_sound es h)
termination_by structural es => es
end
mutual
theorem vG_sound : ∀ (t : T) {v : V} {ρ : Loc} {H : AH} {Q : Loc → AH → Prop}, vG W n cx t v ρ H Q → WG W n cx t v ρ H Q
  | .slot i, v, ρ, _, Q, h => wg_slot (lset_eq ρ i v ▸ h)
  | .attr o k, v, _, _, _, h => wg_attr (vE_sound o h)
  | .idx o i, v, _, _, _, h => wg_idx ((vE_sound o h).mono fun _ _ h => (vE_sound i h).mono fun _ _ h => h.casesOn fun H3 a b => ⟨H3, a, b⟩)
  | .tup ts, .tup l, _, _, _, h => wg_tup (tsLen_inv h).1 (vGs_sound ts (tsLen_inv h).2)
  | .tup _, .none, _, _, _, h => h.elim
  | .tup _, .bool _, _, _, _, h => h.elim
  | .tup _, .int _, _, _, _, h => h.elim
  | .tup _, .str _, _, _, _, h => h.elim
  | .tup _, .ref _, _, _, _, h => h.elim
termination_by structural t => t
theorem vGs_sound : ∀ (ts : Ts) {l : List V} {ρ : Loc} {H : AH} {Q : Loc → AH → Prop}, vGs W n cx ts l ρ H Q → WGs W n cx ts l ρ H Q
  | .nil, [], _, _, _, h => wgs_nil h
  | .cons t ts, v :: l, _, _, _, h => wgs_cons ((vG_sound t h).mono fun _ _ h => vGs_sound ts h)
  | .nil, _ :: _, _, _, _, h => h.elim
  | .cons .., [], _, _, _, h => h.elim
termination_by structural t => t
end
theorem vAug_sound {op : Operator} {x y : V} {H : AH} {P : V → Prop} (h : vAug op x y P) : InOk W n op x y H fun w H2 => P w ∧ H2 = H := by
  cases op <;> first | exact h.elim | (cases x <;> first | exact h.elim | (cases y <;> first | exact h.elim | exact in_add ⟨h, rfl⟩ | exact in_sub ⟨h, rfl⟩))
theorem in_mono {op : Operator} {x y : V} {H : AH} {Q Q' : V → AH → Prop} (h : InOk W n op x y H Q) (k : ∀ v H', Q v H' → Q' v H') : InOk W n op x y H Q' :=
  fun s A X a b R hA ha hb => an (h s A X a b R hA ha hb) fun _ _ v H' p q r => ⟨v, H', p, k _ _ q, r⟩
mutual
theorem vS_sound : ∀ (c : S) {ρ : Loc} {H : AH} {Q : AF → Loc → AH → Prop}, vS W n cx c ρ H Q → WS W n cx c ρ H Q
  | .asg t e, _, _, _, h => ws_asg ((vE_sound e h).mono fun _ _ h => vG_sound t h)
  | .swp [i, j] e, ρ, _, Q, h => ws_swp2 ((vE_sound e h).mono fun _ _ h => (vTup2_inv h).imp fun a h => h.imp fun b h => ⟨h.1, by have h := h.2; rw [lset_eq, lset_eq] at h; exact h⟩)
  | .swp [i, j, k] e, ρ, _, Q, h => ws_swp3 ((vE_sound e h).mono fun _ _ h => (vTup3_inv h).imp fun a h => h.imp fun b h => h.imp fun c h => ⟨h.1, by have h := h.2; rw [lset_eq, lset_eq, lset_eq] at h; exact h⟩)
  | .swp [] e, _, _, _, h => h
  | .swp [_] e, _, _, _, h => h
  | .swp (_ :: _ :: _ :: _ :: _) e, _, _, _, h => h
  | .aug i op e, ρ, H, Q, h => vLoc_c h fun _ q h => ws_aug (lget_eq q) ((vE_sound e h).mono fun _ _ h => in_mono (vAug_sound h) fun w H2 h => by rw [h.2, ← lset_eq]; exact h.1)
  | .ifs t a b, _, _, _, h => ws_if ((vT_sound t h).mono fun _ _ h => ⟨fun q => vSs_sound a (h.1 q), fun q => vSs_sound b (h.2 q)⟩)
  | .ret e, _, _, _, h => ws_ret (vE_sound e h)
  | .brk, _, _, _, h => ws_brk h
  | .cnt, _, _, _, h => ws_cnt h
  | .exp e, _, _, _, h => ws_exp (vE_sound e h)
  | .asgc .., _, _, _, h => h
  | .whl .., _, _, _, h => h
  | .for .., _, _, _, h => h
  | .rse, _, _, _, h => h
termination_by structural c => c
theorem vSs_sound : ∀ (c : Ss) {ρ : Loc} {H : AH} {Q : AF → Loc → AH → Prop}, vSs W n cx c ρ H Q → WSs W n cx c ρ H Q
  | .nil, _, _, _, h => wss_nil h
  | .cons c cs, _, _, _, h => wss_cons ((vS_sound c h).mono fun a ρ' H' h => match a, h with
    | .next, h => vSs_sound cs h
    | .brk, h => h
    | .cnt, h => h
    | .ret _, h => h)
termination_by structural c => c
end
end
section
structure IsL (W : Wd) : Prop where
  gt : W.gt = gtF
  attr : W.attr = attrF
  cattr : W.cattr = cattrF
  cplain : W.cplain = cplainF
  cinit : W.cinit = cinitF
  cmeth : W.cmeth = cmethF
  bat : W.base.BuiltinsAt W.mg 112
  chd : CodeHd W.base 114 112
  chk : defsL.all (fun d => fnChk W.K gtF attrF d.a d.cx d.ss d.ns && dfChk W.K d.a d.df) = true
noncomputable def fsPos : Pos := ⟨92, 53, 92, 73⟩
noncomputable def fsQual : Str := ("form_sorted.<locals>." : Str) ++ ("<lambda>" : Str)
@[reducible] noncomputable def rK (Q : V → AH → Prop) : AF → Loc → AH → Prop
  | .ret v, _, H => Q v H
  | .next, _, H => Q .none H
  | _, _, _ => False
theorem rK_eq (Q : V → AH → Prop) : rK Q = RetQ Q := by
  funext a ρ H
  cases a <;> rfl
variable {W : Wd} {n : Nat} {H : AH} {Q : V → AH → Prop}
theorem IsL.at (L : IsL W) {i : Nat} {d : DefT} (hd : defsL[i]? = some d) : fnChk W.K W.gt W.attr d.a d.cx d.ss d.ns = true ∧ dfChk W.K d.a d.df = true := by
  rw [L.gt, L.attr]
  exact Bool.and_eq_true_iff.mp (List.all_eq_true.mp L.chk d (List.mem_of_getElem? hd))
theorem noneV_inv {v : Value} (h : noneV v = true) : v = .none := by
  cases v <;> first | rfl | exact absurd h Bool.false_ne_true
theorem refV_inv {T : Addr} {v : Value} (h : refV T v = true) : v = .ref T := by
  cases v <;> first | exact absurd h Bool.false_ne_true | exact congrArg Value.ref (eq_of_beq h).symm
theorem seqOf_inv {o : Obj} {x : Value} (h : seqOf o = [x]) : ∃ m, o.data = .seq #[x] m := by
  obtain ⟨c, d, data, sl⟩ := o
  cases data <;> first | exact absurd h.symm (List.cons_ne_nil _ _) | exact ⟨_, congrArg (Data.seq · _) (Array.toList_inj.mp h)⟩
theorem df_none {K : Frag} {f : Addr} (h : dfChk K f none = true) : (fnGet K f).map (·.defaults) = some .none := by
  obtain ⟨fd, e, h⟩ := som_inv h
  rw [e]; exact congrArg some (noneV_inv h)
theorem valIs_vr {v : V} {x : Value} (h : valIs v x = true) (hp : Heap) : VR hp v x := by
  cases v <;> cases x <;> first | exact absurd h Bool.false_ne_true | exact .none | (cases eq_of_beq h; exact .bool _)
theorem df_some {K : Frag} {f T : Addr} {v : V} (h : dfChk K f (some (T, v)) = true) : (fnGet K f).map (·.defaults) = some (.ref T) ∧ ∃ dx, (∃ o m, K.lookup T = some o ∧ o.data = .seq #[dx] m) ∧ ∀ hp, VR hp v dx := by
  obtain ⟨fd, e, h⟩ := som_inv h
  obtain ⟨h1, h2⟩ := an2 h
  obtain ⟨o, e2, h2⟩ := som_inv h2
  obtain ⟨x, e3, h2⟩ := one_inv h2
  obtain ⟨m, e4⟩ := seqOf_inv e3
  rw [e]
  exact ⟨congrArg some (refV_inv h1), x, ⟨o, m, e2, e4⟩, valIs_vr h2⟩
theorem fcG (L : IsL W) (i : Nat) {d : DefT} (hd : defsL[i]? = some d) (hn : d.df = none) {vs : List V} (hl : vs.length = d.ns.length) (m : Nat) (k : vSs W n d.cx d.ss (start vs m) H (rK Q)) : WC W (n + 1) d.a vs H Q :=
  wc_fn (L.at hd).1 (df_none (hn ▸ (L.at hd).2)) hl m (rK_eq Q ▸ vSs_sound _ k)
theorem init_last {l : List Str} {k : Nat} (h : l.length = k + 1) : l = l.take k ++ [l.getD k default] := by
  have hk : k < l.length := by lia
  have e : l[k]? = some l[k] := List.getElem?_eq_getElem hk
  rw [List.getD_eq_getElem?_getD, e, Option.getD_some, List.take_append_getElem hk, List.take_of_length_le (by lia)]
theorem fcG0 (L : IsL W) (i : Nat) {d : DefT} {T : Addr} {v : V} (hd : defsL[i]? = some d) (hn : d.df = some (T, v)) (hc : d.cx.kinds.all (fun p => p.2 != .cell) = true) {vs : List V} {k0 : Nat} (hl : vs.length = d.ns.length) (hk : d.ns.length = k0 + 1) (m : Nat) (k : vSs W n d.cx d.ss (start vs m) H (rK Q)) : WC W (n + 1) d.a vs H Q :=
  let ⟨a, dx, b, c⟩ := df_some (hn ▸ (L.at hd).2)
  wc_fn0 (L.at hd).1 (init_last hk) a b hc hl m (rK_eq Q ▸ vSs_sound _ k)
theorem fcG1 (L : IsL W) (i : Nat) {d : DefT} {T : Addr} {v : V} (hd : defsL[i]? = some d) (hn : d.df = some (T, v)) (hc : d.cx.kinds.all (fun p => p.2 != .cell) = true) {vs : List V} (hk : d.ns.length = vs.length + 1) (m : Nat) (k : vSs W n d.cx d.ss (start (vs ++ [v]) m) H (rK Q)) : WC W (n + 1) d.a vs H Q :=
  let ⟨a, dx, b, c⟩ := df_some (hn ▸ (L.at hd).2)
  wc_fn1 (L.at hd).1 (init_last hk) a b c hc (by rw [List.length_take]; lia) m (rK_eq Q ▸ vSs_sound _ k)
theorem fc_place_by_half (L : IsL W) {a0 a1 : V} (k : vSs W n cx_place_by_half ss_place_by_half [some a0, some a1, none, none, none] H (rK Q)) : WC W (n + 1) 61 [a0, a1] H Q := fcG (vs := [a0, a1]) L 0 rfl rfl rfl 3 k
theorem fc_is_hangul_syllable (L : IsL W) {a0 : V} (k : vSs W n cx_is_hangul_syllable ss_is_hangul_syllable [some a0] H (rK Q)) : WC W (n + 1) 68 [a0] H Q := fcG (vs := [a0]) L 1 rfl rfl rfl 0 k
theorem fc_hangul_parts (L : IsL W) {a0 : V} (k : vSs W n cx_hangul_parts ss_hangul_parts [some a0, none, none, none] H (rK Q)) : WC W (n + 1) 82 [a0] H Q := fcG (vs := [a0]) L 2 rfl rfl rfl 3 k
theorem fc_form_mapping (L : IsL W) {a0 a1 a2 : V} (k : vSs W n cx_form_mapping ss_form_mapping [some a0, some a1, some a2, none, none] H (rK Q)) : WC W (n + 1) 96 [a0, a1, a2] H Q := fcG (vs := [a0, a1, a2]) L 3 rfl rfl rfl 2 k
theorem fc_form_expanded (L : IsL W) {a0 a1 a2 : V} (k : vSs W n cx_form_expanded ss_form_expanded [some a0, some a1, some a2, none, none, none, none, none, none] H (rK Q)) : WC W (n + 1) 103 [a0, a1, a2] H Q := fcG (vs := [a0, a1, a2]) L 4 rfl rfl rfl 6 k
theorem fc_ordered (L : IsL W) {a0 a1 : V} (k : vSs W n cx_ordered ss_ordered [some a0, some a1, none, none, none, none] H (rK Q)) : WC W (n + 1) 110 [a0, a1] H Q := fcG (vs := [a0, a1]) L 5 rfl rfl rfl 4 k
theorem fc_form_sorted (L : IsL W) {a0 : V} (k : vSs W n cx_form_sorted ss_form_sorted [some a0, none, none] H (rK Q)) : WC W (n + 1) 115 [a0] H Q := fcG (vs := [a0]) L 6 rfl rfl rfl 2 k
theorem fc0_decomposed (L : IsL W) {a0 a1 a2 : V} (k : vSs W n cx_decomposed ss_decomposed [some a0, some a1, some a2, none, none] H (rK Q)) : WC W (n + 1) 123 [a0, a1, a2] H Q := fcG0 (vs := [a0, a1, a2]) L 7 rfl rfl rfl rfl rfl 2 k
theorem fc1_form_of (L : IsL W) {a0 a1 a2 : V} (k : vSs W n cx_form_of ss_form_of [some a0, some a1, some a2, some (V.none), none] H (rK Q)) : WC W (n + 1) 188 [a0, a1, a2] H Q := fcG1 (vs := [a0, a1, a2]) L 8 rfl rfl rfl rfl 1 k
theorem fc_nfd (L : IsL W) {a0 a1 : V} (k : vSs W n cx_nfd ss_nfd [some a0, some a1] H (rK Q)) : WC W (n + 1) 195 [a0, a1] H Q := fcG (vs := [a0, a1]) L 9 rfl rfl rfl 0 k
theorem fc_coll_ideographs (L : IsL W) (k : vSs W n cx_coll_ideographs ss_coll_ideographs [none, none, none] H (rK Q)) : WC W (n + 1) 202 [] H Q := fcG (vs := []) L 10 rfl rfl rfl 3 k
theorem fc0_CollBase__init_ (L : IsL W) {a0 a1 a2 a3 a4 : V} (k : vSs W n cx_CollBase__init_ ss_CollBase__init_ [some a0, some a1, some a2, some a3, some a4] H (rK Q)) : WC W (n + 1) 217 [a0, a1, a2, a3, a4] H Q := fcG0 (vs := [a0, a1, a2, a3, a4]) L 11 rfl rfl rfl rfl rfl 0 k
theorem fc1_CollBase__init_ (L : IsL W) {a0 a1 a2 a3 : V} (k : vSs W n cx_CollBase__init_ ss_CollBase__init_ [some a0, some a1, some a2, some a3, some (V.none)] H (rK Q)) : WC W (n + 1) 217 [a0, a1, a2, a3] H Q := fcG1 (vs := [a0, a1, a2, a3]) L 11 rfl rfl rfl rfl 0 k
theorem fc_CollBase_elements_of (L : IsL W) {a0 a1 : V} (k : vSs W n cx_CollBase_elements_of ss_CollBase_elements_of [some a0, some a1, none, none] H (rK Q)) : WC W (n + 1) 224 [a0, a1] H Q := fcG (vs := [a0, a1]) L 12 rfl rfl rfl 2 k
theorem fc_coll_scaled (L : IsL W) {a0 a1 : V} (k : vSs W n cx_coll_scaled ss_coll_scaled [some a0, some a1, none, none, none, none] H (rK Q)) : WC W (n + 1) 236 [a0, a1] H Q := fcG (vs := [a0, a1]) L 13 rfl rfl rfl 4 k
theorem fc_CollMatch__init_ (L : IsL W) {a0 a1 a2 a3 : V} (k : vSs W n cx_CollMatch__init_ ss_CollMatch__init_ [some a0, some a1, some a2, some a3] H (rK Q)) : WC W (n + 1) 250 [a0, a1, a2, a3] H Q := fcG (vs := [a0, a1, a2, a3]) L 14 rfl rfl rfl 0 k
theorem fc0_Elements__init_ (L : IsL W) {a0 a1 : V} (k : vSs W n cx_Elements__init_ ss_Elements__init_ [some a0, some a1, none, none, none] H (rK Q)) : WC W (n + 1) 272 [a0, a1] H Q := fcG0 (vs := [a0, a1]) L 15 rfl rfl rfl rfl rfl 3 k
theorem fc1_Elements__init_ (L : IsL W) {a0 : V} (k : vSs W n cx_Elements__init_ ss_Elements__init_ [some a0, some (V.bool true), none, none, none] H (rK Q)) : WC W (n + 1) 272 [a0] H Q := fcG1 (vs := [a0]) L 15 rfl rfl rfl rfl 3 k
theorem fc_Elements_put (L : IsL W) {a0 a1 a2 : V} (k : vSs W n cx_Elements_put ss_Elements_put [some a0, some a1, some a2, none] H (rK Q)) : WC W (n + 1) 279 [a0, a1, a2] H Q := fcG (vs := [a0, a1, a2]) L 16 rfl rfl rfl 1 k
theorem fc_Elements_take_out (L : IsL W) {a0 a1 : V} (k : vSs W n cx_Elements_take_out ss_Elements_take_out [some a0, some a1, none, none, none] H (rK Q)) : WC W (n + 1) 284 [a0, a1] H Q := fcG (vs := [a0, a1]) L 17 rfl rfl rfl 3 k
theorem fc_Elements_get (L : IsL W) {a0 a1 : V} (k : vSs W n cx_Elements_get ss_Elements_get [some a0, some a1] H (rK Q)) : WC W (n + 1) 291 [a0, a1] H Q := fcG (vs := [a0, a1]) L 18 rfl rfl rfl 0 k
theorem fc_Elements_rows (L : IsL W) {a0 : V} (k : vSs W n cx_Elements_rows ss_Elements_rows [some a0, none] H (rK Q)) : WC W (n + 1) 296 [a0] H Q := fcG (vs := [a0]) L 19 rfl rfl rfl 1 k
theorem fc_Elements_copy (L : IsL W) {a0 : V} (k : vSs W n cx_Elements_copy ss_Elements_copy [some a0] H (rK Q)) : WC W (n + 1) 303 [a0] H Q := fcG (vs := [a0]) L 20 rfl rfl rfl 0 k
theorem fc_Elements_scaled (L : IsL W) {a0 a1 a2 a3 : V} (k : vSs W n cx_Elements_scaled ss_Elements_scaled [some a0, some a1, some a2, some a3, none, none] H (rK Q)) : WC W (n + 1) 310 [a0, a1, a2, a3] H Q := fcG (vs := [a0, a1, a2, a3]) L 21 rfl rfl rfl 2 k
theorem fc1_Elements_put_implicit (L : IsL W) {a0 a1 a2 a3 : V} (k : vSs W n cx_Elements_put_implicit ss_Elements_put_implicit [some a0, some a1, some a2, some a3, some (V.none)] H (rK Q)) : WC W (n + 1) 318 [a0, a1, a2, a3] H Q := fcG1 (vs := [a0, a1, a2, a3]) L 22 rfl rfl rfl rfl 0 k
theorem fc_Elements_implicit_of (L : IsL W) {a0 a1 : V} (k : vSs W n cx_Elements_implicit_of ss_Elements_implicit_of [some a0, some a1, none] H (rK Q)) : WC W (n + 1) 325 [a0, a1] H Q := fcG (vs := [a0, a1]) L 23 rfl rfl rfl 1 k
theorem fc_Elements_match (L : IsL W) {a0 a1 a2 a3 a4 : V} (k : vSs W n cx_Elements_match ss_Elements_match [some a0, some a1, some a2, some a3, some a4, none, none, none, none, none] H (rK Q)) : WC W (n + 1) 337 [a0, a1, a2, a3, a4] H Q := fcG (vs := [a0, a1, a2, a3, a4]) L 24 rfl rfl rfl 5 k
theorem fc_Elements_with_marks (L : IsL W) {a0 a1 a2 a3 a4 : V} (k : vSs W n cx_Elements_with_marks ss_Elements_with_marks [some a0, some a1, some a2, some a3, some a4, none, none, none, none, none] H (rK Q)) : WC W (n + 1) 342 [a0, a1, a2, a3, a4] H Q := fcG (vs := [a0, a1, a2, a3, a4]) L 25 rfl rfl rfl 5 k
theorem fc_Elements_located (L : IsL W) {a0 a1 a2 : V} (k : vSs W n cx_Elements_located ss_Elements_located [some a0, some a1, some a2, none, none, none, none, none, none, none, none, none] H (rK Q)) : WC W (n + 1) 347 [a0, a1, a2] H Q := fcG (vs := [a0, a1, a2]) L 26 rfl rfl rfl 9 k
theorem fc_Elements_elements_of (L : IsL W) {a0 a1 a2 : V} (k : vSs W n cx_Elements_elements_of ss_Elements_elements_of [some a0, some a1, some a2, none, none, none, none] H (rK Q)) : WC W (n + 1) 354 [a0, a1, a2] H Q := fcG (vs := [a0, a1, a2]) L 27 rfl rfl rfl 4 k
theorem fc_coll_live (L : IsL W) {a0 a1 a2 : V} (k : vSs W n cx_coll_live ss_coll_live [some a0, some a1, some a2, none] H (rK Q)) : WC W (n + 1) 368 [a0, a1, a2] H Q := fcG (vs := [a0, a1, a2]) L 28 rfl rfl rfl 1 k
theorem fc_coll_decomposed (L : IsL W) {a0 a1 : V} (k : vSs W n cx_coll_decomposed ss_coll_decomposed [some a0, some a1, none, none, none, none, none, none, none] H (rK Q)) : WC W (n + 1) 373 [a0, a1] H Q := fcG (vs := [a0, a1]) L 29 rfl rfl rfl 7 k
theorem fc_range_are_like (L : IsL W) {a0 a1 : V} (k : vSs W n cx_range_are_like ss_range_are_like [some a0, some a1] H (rK Q)) : WC W (n + 1) 380 [a0, a1] H Q := fcG (vs := [a0, a1]) L 30 rfl rfl rfl 0 k
theorem fc_RangeMap__init_ (L : IsL W) {a0 a1 : V} (k : vSs W n cx_RangeMap__init_ ss_RangeMap__init_ [some a0, some a1] H (rK Q)) : WC W (n + 1) 394 [a0, a1] H Q := fcG (vs := [a0, a1]) L 31 rfl rfl rfl 0 k
theorem fc_RangeMap_get (L : IsL W) {a0 a1 : V} (k : vSs W n cx_RangeMap_get ss_RangeMap_get [some a0, some a1] H (rK Q)) : WC W (n + 1) 401 [a0, a1] H Q := fcG (vs := [a0, a1]) L 32 rfl rfl rfl 0 k
theorem fc_RangeMap_put (L : IsL W) {a0 a1 a2 a3 : V} (k : vSs W n cx_RangeMap_put ss_RangeMap_put [some a0, some a1, some a2, some a3, none, none, none, none, none] H (rK Q)) : WC W (n + 1) 408 [a0, a1, a2, a3] H Q := fcG (vs := [a0, a1, a2, a3]) L 33 rfl rfl rfl 5 k
theorem fc_data_defaults (L : IsL W) (k : vSs W n cx_data_defaults ss_data_defaults [none, none] H (rK Q)) : WC W (n + 1) 441 [] H Q := fcG (vs := []) L 34 rfl rfl rfl 2 k
theorem fc_Data__init_ (L : IsL W) {a0 : V} (k : vSs W n cx_Data__init_ ss_Data__init_ [some a0] H (rK Q)) : WC W (n + 1) 455 [a0] H Q := fcG (vs := [a0]) L 35 rfl rfl rfl 0 k
theorem fc_Data_put (L : IsL W) {a0 a1 a2 a3 a4 : V} (k : vSs W n cx_Data_put ss_Data_put [some a0, some a1, some a2, some a3, some a4] H (rK Q)) : WC W (n + 1) 462 [a0, a1, a2, a3, a4] H Q := fcG (vs := [a0, a1, a2, a3, a4]) L 36 rfl rfl rfl 0 k
theorem fc_Data_get (L : IsL W) {a0 a1 a2 : V} (k : vSs W n cx_Data_get ss_Data_get [some a0, some a1, some a2] H (rK Q)) : WC W (n + 1) 469 [a0, a1, a2] H Q := fcG (vs := [a0, a1, a2]) L 37 rfl rfl rfl 0 k
theorem fc_Data_map_of (L : IsL W) {a0 a1 : V} (k : vSs W n cx_Data_map_of ss_Data_map_of [some a0, some a1] H (rK Q)) : WC W (n + 1) 476 [a0, a1] H Q := fcG (vs := [a0, a1]) L 38 rfl rfl rfl 0 k
theorem fc_law_ranks (L : IsL W) (k : vSs W n cx_law_ranks ss_law_ranks [] H (rK Q)) : WC W (n + 1) 490 [] H Q := fcG (vs := []) L 39 rfl rfl rfl 0 k
theorem fc_law_data (L : IsL W) (k : vSs W n cx_law_data ss_law_data [none, none, none] H (rK Q)) : WC W (n + 1) 497 [] H Q := fcG (vs := []) L 40 rfl rfl rfl 3 k
theorem fc_law_plain (L : IsL W) {a0 : V} (k : vSs W n cx_law_plain ss_law_plain [some a0, none, none, none, none, none] H (rK Q)) : WC W (n + 1) 504 [a0] H Q := fcG (vs := [a0]) L 41 rfl rfl rfl 5 k
theorem fc_law_reckoned (L : IsL W) {a0 : V} (k : vSs W n cx_law_reckoned ss_law_reckoned [some a0, none] H (rK Q)) : WC W (n + 1) 511 [a0] H Q := fcG (vs := [a0]) L 42 rfl rfl rfl 1 k
theorem fc_law_elements (L : IsL W) {a0 a1 : V} (k : vSs W n cx_law_elements ss_law_elements [some a0, some a1, none, none, none, none, none, none, none, none, none, none, none] H (rK Q)) : WC W (n + 1) 516 [a0, a1] H Q := fcG (vs := [a0, a1]) L 43 rfl rfl rfl 11 k
theorem fc_law_rows (L : IsL W) (k : vSs W n cx_law_rows ss_law_rows [none] H (rK Q)) : WC W (n + 1) 523 [] H Q := fcG (vs := []) L 44 rfl rfl rfl 1 k
theorem fc_law_table (L : IsL W) {a0 : V} (k : vSs W n cx_law_table ss_law_table [some a0, none, none, none, none] H (rK Q)) : WC W (n + 1) 530 [a0] H Q := fcG (vs := [a0]) L 45 rfl rfl rfl 4 k
theorem fc_law_is_kept (L : IsL W) {a0 a1 : V} (k : vSs W n cx_law_is_kept ss_law_is_kept [some a0, some a1, none, none] H (rK Q)) : WC W (n + 1) 535 [a0, a1] H Q := fcG (vs := [a0, a1]) L 46 rfl rfl rfl 2 k
theorem fc_law (L : IsL W) {a0 : V} (k : vSs W n cx_law ss_law [some a0, none, none, none, none, none, none, none, none, none, none, none, none, none, none] H (rK Q)) : WC W (n + 1) 540 [a0] H Q := fcG (vs := [a0]) L 47 rfl rfl rfl 14 k
end
section
variable {W : Wd} {n : Nat} {cx : Cx} {ρ : Loc} {H : AH}
structure KO (I : Nat → Loc → AH → Prop) (m : Nat) (Q K : AF → Loc → AH → Prop) : Prop where
  next : ∀ {ρ : Loc} {H : AH} (m' : Nat), m' < m → I m' ρ H → K .next ρ H
  cnt : ∀ {ρ : Loc} {H : AH} (m' : Nat), m' < m → I m' ρ H → K .cnt ρ H
  brk : ∀ {ρ : Loc} {H : AH}, Q .next ρ H → K .brk ρ H
  ret : ∀ {v : V} {ρ : Loc} {H : AH}, Q (.ret v) ρ H → K (.ret v) ρ H
theorem vs_whl {t : E} {b : Ss} {Q : AF → Loc → AH → Prop} (I : Nat → Loc → AH → Prop) (m : Nat) (h0 : I m ρ H)
    (h : ∀ m ρ H K, I m ρ H → KO I m Q K → vT W n cx t ρ H fun r H1 => (r = true → vSs W n cx b ρ H1 K) ∧ (r = false → Q .next ρ H1)) : WS W n cx (.whl t b) ρ H Q :=
  ws_whl I m h0 fun m ρ H i => (vT_sound t (h m ρ H (fun a ρ2 H2 => match a with | .next => ∃ m', m' < m ∧ I m' ρ2 H2 | .cnt => ∃ m', m' < m ∧ I m' ρ2 H2 | .brk => Q .next ρ2 H2 | .ret v => Q (.ret v) ρ2 H2) i
    ⟨fun m' a b => ⟨m', a, b⟩, fun m' a b => ⟨m', a, b⟩, fun a => a, fun a => a⟩)).mono fun r H1 q => ⟨fun e => vSs_sound b (q.1 e), q.2⟩
structure FK (Inv : Nat → Loc → AH → Prop) (i : Nat) (Q K : AF → Loc → AH → Prop) : Prop where
  next : ∀ {ρ : Loc} {H : AH}, Inv (i + 1) ρ H → K .next ρ H
  cnt : ∀ {ρ : Loc} {H : AH}, Inv (i + 1) ρ H → K .cnt ρ H
  brk : ∀ {ρ : Loc} {H : AH}, Q .next ρ H → K .brk ρ H
  ret : ∀ {v : V} {ρ : Loc} {H : AH}, Q (.ret v) ρ H → K (.ret v) ρ H
inductive FVA (W : Wd) (n : Nat) (cx : Cx) (t : T) (b : Ss) (Q : AF → Loc → AH → Prop) (vals : List V) (Wt : AH → Prop) (ρ : Loc) (H : AH) : Prop
  | mk (Inv : Nat → Loc → AH → Prop) (zero : Inv 0 ρ H) (wt : ∀ i ρ H, Inv i ρ H → Wt H) (step : ∀ i v ρ H K, vals[i]? = some v → Inv i ρ H → FK Inv i Q K → vG W n cx t v ρ H fun ρ1 H1 => vSs W n cx b ρ1 H1 K) (fin : ∀ ρ H, Inv vals.length ρ H → Q .next ρ H)
theorem WI.mono {it : It} {P P' : List V → (AH → Prop) → AH → Prop} (h : WI W n cx it ρ H P) (k : ∀ l Wt H', P l Wt H' → P' l Wt H') : WI W n cx it ρ H P' := fun x hx tg ht env s A X Q R F hA hQ =>
  h x hx tg ht env s A X Q R F hA fun vals Wt H' itv fp I s' p => hQ vals Wt H' itv fp I s' (k _ _ _ p)
theorem vs_for {t : T} {it : It} {b : Ss} {Q : AF → Loc → AH → Prop} (ht : okT it t = true) (h : WI W n cx it ρ H fun vals Wt H1 => FVA W n cx t b Q vals Wt ρ H1) : WS W n cx (.for t it b) ρ H Q :=
  ws_for ht (h.mono fun vals Wt H1 q => let ⟨Inv, zero, wt, step, fin⟩ := q; ⟨Inv, zero, wt, fun i v ρ H e q => (vG_sound t (step i v ρ H (fun a ρ2 H2 => match a with | .next => Inv (i + 1) ρ2 H2 | .cnt => Inv (i + 1) ρ2 H2 | .brk => Q .next ρ2 H2 | .ret v => Q (.ret v) ρ2 H2) e q
    ⟨fun a => a, fun a => a, fun a => a, fun a => a⟩)).mono fun ρ1 H1 z => vSs_sound b z, fin⟩)
noncomputable abbrev ItP := List V → (AH → Prop) → AH → Prop
inductive LstA (P : ItP) (v : V) (H1 : AH) : Prop
  | mk (a : Addr) (l : List V) (e : v = .ref a) (h : H1 a = some (.list l)) (q : P l (fun H => H a = some (.list l)) H1)
inductive EnuA (P : ItP) (v : V) (H1 : AH) : Prop
  | mk (a : Addr) (l : List V) (e : v = .ref a) (h : H1 a = some (.list l)) (q : P (enumV l) (fun H => H a = some (.list l)) H1)
inductive DicA (P : ItP) (v : V) (H1 : AH) : Prop
  | mk (a : Addr) (l : List (List Int × V)) (en : Option Nat) (e : v = .ref a) (h : H1 a = some (.tdict l en)) (q : ∀ ep, P (l.map fun y => tupI y.1) (fun H => H a = some (.tdict l (some ep))) (upd H1 a (.tdict l (some ep))))
inductive Rg2A (P : ItP) (v v' : V) (H2 : AH) : Prop
  | mk (a b : Int) (m : Nat) (e : v = .int a) (e' : v' = .int b) (hm : b - a = m ∨ (m = 0 ∧ b ≤ a)) (ha : a.natAbs ≤ 1000000000) (hb : b.natAbs ≤ 1000000000) (q : P (rangeV a m) (fun _ => True) H2)
inductive Rg1A (P : ItP) (v : V) (H1 : AH) : Prop
  | mk (b : Int) (m : Nat) (e : v = .int b) (hm : b = m ∨ (m = 0 ∧ b ≤ 0)) (hb : b.natAbs ≤ 1000000) (q : P (rangeV 0 m) (fun _ => True) H1)
theorem vi_list {e : E} {P : ItP} (h : vE W n cx e ρ H (LstA P)) : WI W n cx (.plain e) ρ H P := wi_list ((vE_sound e h).mono fun _ _ h => let ⟨a, l, e, k, q⟩ := h; ⟨a, l, e, k, q⟩)
theorem vi_tup {e : E} {P : List V → (AH → Prop) → AH → Prop} (h : vE W n cx e ρ H fun v H1 => ∃ l, v = .tup l ∧ P l (fun _ => True) H1) : WI W n cx (.plain e) ρ H P := wi_tup (vE_sound e h)
theorem vi_dict {e : E} {P : ItP} (h : vE W n cx e ρ H (DicA P)) : WI W n cx (.plain e) ρ H P := wi_dict ((vE_sound e h).mono fun _ _ h => let ⟨a, l, en, e, k, q⟩ := h; ⟨a, l, en, e, k, q⟩)
theorem vi_enum {e : E} {P : ItP} (h : vE W n cx e ρ H (EnuA P)) : WI W n cx (.enum e) ρ H P := wi_enum ((vE_sound e h).mono fun _ _ h => let ⟨a, l, e, k, q⟩ := h; ⟨a, l, e, k, q⟩)
theorem vi_range2 {e e' : E} {P : ItP} (h : vE W n cx e ρ H fun v H1 => vE W n cx e' ρ H1 (Rg2A P v)) : WI W n cx (.range2 e e') ρ H P := wi_range2 ((vE_sound e h).mono fun _ _ h => (vE_sound e' h).mono fun _ _ h => let ⟨a, b, m, e, e', hm, ha, hb, q⟩ := h; ⟨a, b, m, e, e', hm, ha, hb, q⟩)
theorem wi_range1z {e : E} {P : List V → (AH → Prop) → AH → Prop} (h : WE W n cx e ρ H fun v H1 => ∃ (b : Int) (m : Nat), v = .int b ∧ (b = m ∨ (m = 0 ∧ b ≤ 0)) ∧ b.natAbs ≤ 1000000 ∧ P (rangeV 0 m) (fun _ => True) H1) : WI W n cx (.range1 e) ρ H P := by
  intro x hx target _ env s A X Q R F hA hQ
  apply i_one hx
  intro f p u q h1 h2 h3 h4 h5
  refine eval_call' (cx := cx) h2 h1 (.inr (W.gok _ _ h3)) keeps_typ (wes_one h) (same_one h5) h4 R F hA fun vs ys H1 s1 r ⟨v, e1, b, m, e2, hm, hb, q⟩ c1 => ?_
  subst e1 e2
  obtain ⟨y, rfl, ry⟩ := r.one_inv
  obtain ⟨t, rfl⟩ := vr_int ry
  refine call_range_1 ?_
  have c2 : Step W H1 s1 H1 { s1 with heap := s1.heap.push { cls := .type "range", data := .fields #[.int 0 s1.toks, .int b t, .int 1 (s1.toks + 1)] }, toks := s1.toks + 1 + 1 } := Step.grow c1.rel fun b _ e => Heap.get?_push_of_some _ e
  exact range_go (c1.trans c2) hA (Heap.get?_push_size _ rfl) (m := m) ((Int.sub_zero b).symm ▸ hm) (nrng (by decide)) (nrng (Nat.le_trans hb (by decide))) q hQ
theorem vi_range1 {e : E} {P : ItP} (h : vE W n cx e ρ H (Rg1A P)) : WI W n cx (.range1 e) ρ H P := wi_range1z ((vE_sound e h).mono fun _ _ h => let ⟨b, m, e, hm, hb, q⟩ := h; ⟨b, m, e, hm, hb, q⟩)
mutual
@[reducible] noncomputable def vB : T → V → Loc → (Loc → Prop) → Prop
  | .slot i, v, ρ, P => P (lset ρ i v)
  | .tup ts, .tup l, ρ, P => vBs ts l ρ P
  | _, _, _, _ => False
termination_by structural t => t
@[reducible] noncomputable def vBs : Ts → List V → Loc → (Loc → Prop) → Prop
  | .nil, [], ρ, P => P ρ
  | .cons t ts, v :: l, ρ, P => vB t v ρ fun ρ1 => vBs ts l ρ1 P
  | _, _, _, _ => False
termination_by structural t => t
end
mutual
theorem vB_inv : ∀ (t : T) {v : V} {ρ : Loc} {P : Loc → Prop}, vB t v ρ P → ∃ ρ1, bindT t v ρ = some ρ1 ∧ P ρ1
  | .slot i, v, ρ, _, h => ⟨_, congrArg some (lset_eq ρ i v).symm, h⟩
  | .tup ts, .tup l, _, _, h => vBs_inv ts h
  | .attr .., _, _, _, h => h.elim
  | .idx .., _, _, _, h => h.elim
  | .tup _, .none, _, _, h => h.elim
  | .tup _, .bool _, _, _, h => h.elim
  | .tup _, .int _, _, _, h => h.elim
  | .tup _, .str _, _, _, h => h.elim
  | .tup _, .ref _, _, _, h => h.elim
termination_by structural t => t
theorem vBs_inv : ∀ (ts : Ts) {l : List V} {ρ : Loc} {P : Loc → Prop}, vBs ts l ρ P → ∃ ρ1, bindTs ts l ρ = some ρ1 ∧ P ρ1
  | .nil, [], _, _, h => ⟨_, rfl, h⟩
  | .cons t ts, v :: l, ρ, _, h => by
    obtain ⟨ρ1, e, h⟩ := vB_inv t h
    obtain ⟨ρ2, e2, h⟩ := vBs_inv ts h
    exact ⟨ρ2, by unfold bindTs; rw [e]; exact e2, h⟩
  | .nil, _ :: _, _, _, h => h.elim
  | .cons .., [], _, _, h => h.elim
termination_by structural t => t
end
theorem take_succ' {α : Type} {l : List α} {i : Nat} {v : α} (h : l[i]? = some v) : l.take (i + 1) = l.take i ++ [v] := by
  rw [List.take_add_one, h]; rfl
theorem cb_filter {own : List Nat} {elt : E} {t : T} {c : E} {vals : List V} {Wt : AH → Prop} {f : V → V} {p : V → Bool} {Q : V → AH → Prop} (hl : vals.length ≤ 1000) (hw : Wt H)
    (step : ∀ v ∈ vals, vB t v ρ fun ρ1 => vT W n cx c ρ1 H fun ok H2 => ok = p v ∧ H2 = H ∧ (p v = true → vE W n cx elt ρ1 H fun y H3 => y = f v ∧ H3 = H))
    (fin : ∀ D, H D = none → Q (.ref D) (upd H D (.list ((vals.filter p).map f)))) : ∃ Inv, CB W n cx own elt t (.cons c .nil) Q ρ vals Wt H Inv := by
  refine ⟨fun i out H' => H' = H ∧ out = ((vals.take i).filter p).map f, hl, ⟨rfl, rfl⟩, fun i out H' h => h.1 ▸ hw, fun i v out H' hv q => ?_, fun out H' q D hD => ?_⟩
  · obtain ⟨h1, h2⟩ := q
    subst h1
    obtain ⟨ρ1, b, k⟩ := vB_inv t (step v (List.mem_of_getElem? hv))
    refine ⟨ρ1, b, ?_⟩
    unfold WCond
    refine (vT_sound c k).mono fun ok H2 q => ?_
    obtain ⟨e1, e2, e3⟩ := q
    subst e1 e2
    refine ⟨fun e => (vE_sound elt (e3 e)).mono fun y H3 g => ⟨g.2, ?_⟩, fun e => ⟨rfl, ?_⟩⟩
    · rw [take_succ' hv, List.filter_append, List.map_append, h2, g.1, List.filter_cons_of_pos e]; rfl
    · rw [take_succ' hv, List.filter_append, List.map_append, h2, List.filter_cons_of_neg (by simp [e])]; simp
  · obtain ⟨h1, h2⟩ := q
    subst h1
    rw [List.take_length] at h2
    rw [h2]; exact fin D hD
theorem cb_map {own : List Nat} {elt : E} {t : T} {vals : List V} {Wt : AH → Prop} {f : V → V} {Q : V → AH → Prop} (hl : vals.length ≤ 1000) (hw : Wt H)
    (step : ∀ v ∈ vals, vB t v ρ fun ρ1 => vE W n cx elt ρ1 H fun y H3 => y = f v ∧ H3 = H)
    (fin : ∀ D, H D = none → Q (.ref D) (upd H D (.list (vals.map f)))) : ∃ Inv, CB W n cx own elt t .nil Q ρ vals Wt H Inv := by
  refine ⟨fun i out H' => H' = H ∧ out = (vals.take i).map f, hl, ⟨rfl, rfl⟩, fun i out H' h => h.1 ▸ hw, fun i v out H' hv q => ?_, fun out H' q D hD => ?_⟩
  · obtain ⟨h1, h2⟩ := q
    subst h1
    obtain ⟨ρ1, b, k⟩ := vB_inv t (step v (List.mem_of_getElem? hv))
    refine ⟨ρ1, b, ?_⟩
    unfold WCond
    refine ⟨fun _ => (vE_sound elt k).mono fun y H3 g => ⟨g.2, ?_⟩, nofun⟩
    rw [take_succ' hv, List.map_append, h2, g.1]; rfl
  · obtain ⟨h1, h2⟩ := q
    subst h1
    rw [List.take_length] at h2
    rw [h2]; exact fin D hD
theorem vs_asgc {i : Nat} {cx' : Cx} {own : List Nat} {elt : E} {t : T} {it : It} {conds : Es} {Q : AF → Loc → AH → Prop} (ho : okT it t = true) (hown : ∀ i ∈ own, ρ[i]? = some none) (hto : ∀ i ∈ tslots t, i ∈ own)
    (h : WI W n cx it ρ H fun vals Wt H1 => ∃ Inv, CB W n cx' own elt t conds (fun v H2 => Q .next (lset ρ i v) H2) ρ vals Wt H1 Inv) : WS W n cx (.asgc i (.comp cx' own elt t it conds)) ρ H Q :=
  ws_asgc ho hown hto (by simpa only [← lset_eq] using h)
theorem wp_nil {Q : List (V × V) → AH → Prop} (h : Q [] H) : WPairs W n cx .nil .nil ρ H Q := h
theorem wp_cons {k v : E} {ks vs : Es} {Q : List (V × V) → AH → Prop} (h : vE W n cx k ρ H fun kv H1 => vE W n cx v ρ H1 fun vv H2 => WPairs W n cx ks vs ρ H2 fun l H3 => Q ((kv, vv) :: l) H3) : WPairs W n cx (.cons k ks) (.cons v vs) ρ H Q := by
  exact WE.mono (vE_sound k h) fun _ _ h => vE_sound v h
theorem pr_t {P R : Prop} (h : P) : (true = true → P) ∧ (true = false → R) := ⟨fun _ => h, fun e => (nomatch e)⟩
theorem pr_f {P R : Prop} (h : R) : (false = true → P) ∧ (false = false → R) := ⟨fun e => (nomatch e), fun _ => h⟩
theorem pr_l {k : Nat} {P : Prop} (hk : Nat.ble k 1000 = true) (h : P) : k ≤ 1000 ∧ P := ⟨Nat.le_of_ble_eq_true hk, h⟩
theorem call_true {r : Bool} {P Q : Prop} (h : r = true) (k : P) : (r = true → P) ∧ (r = false → Q) := ⟨fun _ => k, fun e => absurd (h.symm.trans e) (by decide)⟩
theorem call_false {r : Bool} {P Q : Prop} (h : r = false) (k : Q) : (r = true → P) ∧ (r = false → Q) := ⟨fun e => absurd (h.symm.trans e) (by decide), fun _ => k⟩
end
set_option maxHeartbeats 1000000
local macro_rules | `(tactic| rfl') => `(tactic| repeat (first
  | with_reducible refine pr_l rfl ?_
  | with_reducible refine pr_t ?_
  | with_reducible refine pr_f ?_
  | focus ((with_reducible refine op_mul ?_ ?_); rotate_left; first | exact .inl (by decide) | exact .inr (by decide))
  | focus ((with_reducible refine op_div ?_ ?_ ?_); rotate_left; decide; decide)
  | focus ((with_reducible refine op_mod ?_ ?_ ?_); rotate_left; decide; decide)
  | focus ((with_reducible refine call_true ?_ ?_); exact rfl)
  | focus ((with_reducible refine call_false ?_ ?_); exact rfl)))
section
variable {W : Wd} {n : Nat} {cx : Cx} {ρ : Loc} {H : AH}
theorem upd_upd (H : AH) (a : Addr) (o o' : O) : upd (upd H a o) a o' = upd H a o' := by
  funext b
  unfold upd
  split <;> rfl
theorem uO {H : AH} {a b : Addr} {o o' : O} (h : H a = none) (k : H b = some o) : upd H a o' b = some o := by
  rw [upd_ne _ _ (by rintro rfl; rw [h] at k; cases k)]; exact k
theorem upd_new {H : AH} {a b : Addr} {o : O} (h : upd H a o b = none) : H b = none ∧ b ≠ a := by
  by_cases e : b = a
  · subst e; rw [uS] at h; cases h
  · rw [upd_ne _ _ e] at h; exact ⟨h, e⟩
theorem Sub.refl (H : AH) : Sub H H := fun _ _ h => h
theorem Sub.trans {H H' H'' : AH} (x : Sub H H') (y : Sub H' H'') : Sub H H'' := fun a o h => y a o (x a o h)
theorem Sub.new {H H' : AH} {a : Addr} {o : O} (x : Sub H H') (h : H' a = none) : Sub H (upd H' a o) := fun b o' k => uO h (x b o' k)
theorem Sub.none {H H' : AH} {a : Addr} (x : Sub H H') (h : H' a = none) : H a = none := by
  cases q : H a with
  | none => rfl
  | some o => rw [x a o q] at h; cases h
theorem small_nat {k n : Nat} (h : k < n) (hn : n ≤ 1000) : ((k : Nat) : Int).natAbs < 2 ^ 60 := Nat.lt_of_lt_of_le h (Nat.le_trans hn (by decide))
theorem seq_nat {k n : Nat} (h : k < n) : seqIndex? (k : Int) n = some k := by
  rw [seqIndex_of (by omega) (by omega)]; simp
variable {Q : V → AH → Prop}
theorem wc_is_hangul_syllable (L : IsL W) {c : Int} (hc : c < 44032 ∧ 0 ≤ c) (h : Q (.bool false) H) : WC W (n + 1) 68 [.int c] H Q := by
  refine fc_is_hangul_syllable L ?_
  unfold ss_is_hangul_syllable
  rfl'
  refine ⟨fun e => ?_, fun _ => h⟩
  simp at e; omega
theorem wc_hangul_parts (L : IsL W) {c : Int} (hc : c < 44032 ∧ 0 ≤ c) (h : Q .none H) : WC W (n + 2) 82 [.int c] H Q := by
  refine fc_hangul_parts L ?_
  unfold ss_hangul_parts
  rfl'
  refine wc_is_hangul_syllable L hc ?_
  rfl'
  exact h
noncomputable def cnt (ss : List Int) (x : Int) : Nat := (ss.filter fun y => decide (y ≤ x)).length
theorem cnt_le (ss : List Int) (x : Int) : cnt ss x ≤ ss.length := List.length_filter_le _ _
theorem cnt_of {ss : List Int} {x : Int} : ∀ {lo : Nat}, lo ≤ ss.length → (∀ (i : Nat) y, ss[i]? = some y → i < lo → y ≤ x) → (∀ (i : Nat) y, ss[i]? = some y → lo ≤ i → x < y) → cnt ss x = lo := by
  induction ss with
  | nil => intro lo h _ _; exact (Nat.le_zero.mp h).symm
  | cons a r ih =>
    intro lo h h1 h2
    unfold cnt
    cases lo with
    | zero =>
      rw [List.filter_cons_of_neg (p := fun y => decide (y ≤ x)) (fun z => absurd (of_decide_eq_true z) (Int.not_le.mpr (h2 0 a rfl (Nat.zero_le 0))))]
      exact ih (Nat.zero_le _) (fun i y _ hi => absurd hi (Nat.not_lt_zero i)) fun i y hy _ => h2 (i + 1) y hy (Nat.zero_le _)
    | succ lo =>
      rw [List.filter_cons_of_pos (p := fun y => decide (y ≤ x)) (decide_eq_true (h1 0 a rfl (Nat.zero_lt_succ lo))), List.length_cons]
      exact congrArg (· + 1) (ih (Nat.le_of_succ_le_succ h) (fun i y hy hi => h1 (i + 1) y hy (Nat.succ_lt_succ hi)) fun i y hy hi => h2 (i + 1) y hy (Nat.succ_le_succ hi))
inductive PbI (a : Addr) (ss : List Int) (x : Int) (H : AH) : Nat → Loc → AH → Prop
  | mk (lo hi : Nat) (μ : Option V) (h1 : lo ≤ hi) (h2 : hi ≤ ss.length) (h5 : ∀ (i : Nat) y, ss[i]? = some y → i < lo → y ≤ x) (h6 : ∀ (i : Nat) y, ss[i]? = some y → hi ≤ i → x < y) :
    PbI a ss x H (hi - lo) [some (.ref a), some (.int x), some (.int lo), some (.int hi), μ] H
theorem wc_place_by_half (L : IsL W) {a : Addr} {ss : List Int} {x : Int} (hH : H a = some (.list (ss.map .int))) (hs : ss.Pairwise (· < ·)) (hl : ss.length ≤ 1000) (h : Q (.int (cnt ss x - 1)) H) : WC W (n + 1) 61 [.ref a, .int x] H Q := by
  refine fc_place_by_half L ?_
  unfold ss_place_by_half
  rfl'
  refine wv_len_list hH (by rw [List.length_map]; exact hl) ?_
  rw [List.length_map]
  rfl'
  refine vs_whl (PbI a ss x H) ss.length (.mk 0 ss.length none (Nat.zero_le _) (Nat.le_refl _) (fun i y _ hi => absurd hi (Nat.not_lt_zero _)) fun i y hy hi => by rw [List.getElem?_eq_none hi] at hy; cases hy) ?_
  rintro m ρ H' K ⟨lo, hi, μ, h1, h2, h5, h6⟩ hK
  rfl'
  refine ⟨fun e => ?_, fun e => ?_⟩
  · have e' : lo < hi := by simpa using e
    clear e
    rfl'
    have hm : ((lo : Int) + hi).fdiv 2 = ((lo + hi) / 2 : Nat) := (Int.fdiv_eq_ediv_of_nonneg _ (by decide)).trans rfl
    rw [hm]
    have hb1 : lo ≤ (lo + hi) / 2 := mid_le h1
    have hb2 : (lo + hi) / 2 < hi := mid_lt e'
    clear hm
    generalize (lo + hi) / 2 = mid at hb1 hb2
    have hlt : mid < ss.length := Nat.lt_of_lt_of_le hb2 h2
    have hg : ss[mid]? = some ss[mid] := List.getElem?_eq_getElem hlt
    have hpw := fun (i j : Nat) (hi : i < ss.length) (hj : j < ss.length) => List.pairwise_iff_getElem.mp hs i j hi hj
    rfl'
    refine idx_list hH (seq_nat (by rw [List.length_map]; exact hlt)) (by rw [List.getElem?_map, hg]; rfl) (small_nat hlt hl) ?_
    rfl'
    refine ⟨fun e => ?_, fun e => ?_⟩
    · have e1 : ss[mid] ≤ x := by simpa using e
      rfl'
      refine hK.next _ (Nat.sub_lt_sub_left e' (Nat.lt_succ_of_le hb1)) (.mk (mid + 1) hi _ hb2 h2 (fun i y hy hi => ?_) h6)
      obtain ⟨hi', rfl⟩ := List.getElem?_eq_some_iff.mp hy
      rcases Nat.lt_or_eq_of_le (Nat.le_of_lt_succ hi) with q | rfl
      · exact Int.le_trans (Int.le_of_lt (hpw i mid hi' hlt q)) e1
      · exact e1
    · have e1 : x < ss[mid] := by simpa using e
      rfl'
      refine hK.next _ (Nat.sub_lt_sub_right hb1 hb2) (.mk lo mid _ hb1 (Nat.le_of_lt hlt) h5 fun i y hy hi => ?_)
      obtain ⟨hi', rfl⟩ := List.getElem?_eq_some_iff.mp hy
      rcases Nat.lt_or_eq_of_le hi with q | rfl
      · exact Int.lt_trans e1 (hpw mid i hlt hi' q)
      · exact e1
  · have e' : lo = hi := Nat.le_antisymm h1 (by simpa using e)
    subst e'
    rfl'
    rw [cnt_of h2 h5 h6] at h
    exact h
end
section
variable {W : Wd} {n : Nat} {cx : Cx} {ρ : Loc} {H : AH} {Q : V → AH → Prop}
theorem at_ok (L : IsL W) {o C dx : Addr} {l : List (Nat × V)} {k : Nat} {v : V} {P : V → Prop} (h1 : H o = some (.inst C dx)) (h2 : H dx = some (.ns l)) (h3 : cplainF C = true) (h4 : cattrF C k = true) (h5 : alook l k = some v) (h : P v) :
    ∃ o' C dx l v, (V.ref o) = .ref o' ∧ H o' = some (.inst C dx) ∧ H dx = some (.ns l) ∧ W.cplain C = true ∧ W.cattr C k = true ∧ alook l k = some v ∧ P v :=
  ⟨o, C, dx, l, v, rfl, h1, h2, by rw [L.cplain]; exact h3, by rw [L.cattr]; exact h4, h5, h⟩
theorem as_ok (L : IsL W) {o C dx : Addr} {l : List (Nat × V)} {k : Nat} {P : Addr → List (Nat × V) → Prop} (h1 : H o = some (.inst C dx)) (h2 : H dx = some (.ns l)) (h3 : cplainF C = true) (h4 : cattrF C k = true) (h5 : l.length ≤ 500) (h : P dx l) :
    ∃ o' C dx l, (V.ref o) = .ref o' ∧ H o' = some (.inst C dx) ∧ H dx = some (.ns l) ∧ W.cplain C = true ∧ W.cattr C k = true ∧ l.length ≤ 500 ∧ P dx l :=
  ⟨o, C, dx, l, rfl, h1, h2, by rw [L.cplain]; exact h3, by rw [L.cattr]; exact h4, h5, h⟩
theorem me_ok (L : IsL W) {o C dx f : Addr} {l : List (Nat × V)} {m : Str} {P : Value → Prop} (h1 : H o = some (.inst C dx)) (h2 : H dx = some (.ns l)) (h3 : cplainF C = true) (h4 : cmethF C m = some f) (h : P (.ref f)) : ∃ f, Bound W (.ref o) m H f ∧ P f :=
  ⟨_, bound_inst h1 h2 (by rw [L.cplain]; exact h3) (by rw [L.cmeth]; exact h4), h⟩
theorem me_append {a : Addr} {l : List V} {P : Value → Prop} (hH : H a = some (.list l)) (h : P (.builtin "list.append")) : ∃ f, Bound W (.ref a) "append" H f ∧ P f := ⟨_, bound_list hH PySem.F.slot_list_append PySem.F.type_list_append, h⟩
theorem me_extend {a : Addr} {l : List V} {P : Value → Prop} (hH : H a = some (.list l)) (h : P (.builtin "list.extend")) : ∃ f, Bound W (.ref a) "extend" H f ∧ P f := ⟨_, bound_list hH PySem.F.slot_list_extend PySem.F.type_list_extend, h⟩
theorem me_insert {a : Addr} {l : List V} {P : Value → Prop} (hH : H a = some (.list l)) (h : P (.builtin "list.insert")) : ∃ f, Bound W (.ref a) "insert" H f ∧ P f := ⟨_, bound_list hH PySem.F.slot_list_insert PySem.F.type_list_insert, h⟩
theorem me_pop {a : Addr} {l : List V} {P : Value → Prop} (hH : H a = some (.list l)) (h : P (.builtin "list.pop")) : ∃ f, Bound W (.ref a) "pop" H f ∧ P f := ⟨_, bound_list hH PySem.F.slot_list_pop PySem.F.type_list_pop, h⟩
theorem me_get_i {a : Addr} {l : List (Int × V)} {P : Value → Prop} (hH : H a = some (.idict l)) (h : P (.builtin "dict.get")) : ∃ f, Bound W (.ref a) "get" H f ∧ P f := ⟨_, bound_idict hH PySem.F.slot_dict_get PySem.F.type_dict_get, h⟩
theorem me_get_s {a : Addr} {l : List (Str × V)} {P : Value → Prop} (hH : H a = some (.sdict l)) (h : P (.builtin "dict.get")) : ∃ f, Bound W (.ref a) "get" H f ∧ P f := ⟨_, bound_sdict hH PySem.F.slot_dict_get PySem.F.type_dict_get, h⟩
theorem me_get_t {a : Addr} {l : List (List Int × V)} {e : Option Nat} {P : Value → Prop} (hH : H a = some (.tdict l e)) (h : P (.builtin "dict.get")) : ∃ f, Bound W (.ref a) "get" H f ∧ P f := ⟨_, bound_tdict hH PySem.F.slot_dict_get PySem.F.type_dict_get, h⟩
theorem me_pop_t {a : Addr} {l : List (List Int × V)} {e : Option Nat} {P : Value → Prop} (hH : H a = some (.tdict l e)) (h : P (.builtin "dict.pop")) : ∃ f, Bound W (.ref a) "pop" H f ∧ P f := ⟨_, bound_tdict hH PySem.F.slot_dict_pop PySem.F.type_dict_pop, h⟩
inductive RmL (H : AH) (dx : Addr) (d : V) (ss : List Int) (vs : List V) : Prop
  | mk (s v : Addr) (a1 : H dx = some (.ns [(11, d), (12, .ref s), (13, .ref v)])) (a2 : H s = some (.list (ss.map .int))) (a3 : H v = some (.list vs))
structure RM (H : AH) (r dx : Addr) (d : V) (ss : List Int) (vs : List V) : Prop where
  inst : H r = some (.inst 423 dx)
  lists : RmL H dx d ss vs
theorem RM.sub {H H' : AH} {r dx : Addr} {d : V} {ss : List Int} {vs : List V} (x : RM H r dx d ss vs) (k : Sub H H') : RM H' r dx d ss vs :=
  by
  obtain ⟨i, s, v, a, b, c⟩ := x
  exact ⟨k _ _ i, s, v, k _ _ a, k _ _ b, k _ _ c⟩
theorem wc_RangeMap_get (L : IsL W) {r dx : Addr} {d u : V} {ss : List Int} {vs : List V} {c : Int} {k : Nat} (x : RM H r dx d ss vs) (hs : ss.Pairwise (· < ·)) (hl : ss.length ≤ 1000) (hk : cnt ss c = k + 1) (hv : vs[k]? = some u) (h : Q u H) : WC W (n + 2) 401 [.ref r, .int c] H Q := by
  obtain ⟨s, v, a1, a2, a3⟩ := x.lists
  refine fc_RangeMap_get L ?_
  unfold ss_RangeMap_get
  rfl'
  refine at_ok L x.inst a1 (by rfl) (by rfl) (by rfl) ?_
  rfl'
  refine at_ok L x.inst a1 (by rfl) (by rfl) (by rfl) ?_
  rfl'
  refine wc_place_by_half L a2 hs hl ?_
  have hle : k < 1000 := by have := cnt_le ss c; lia
  rw [hk, show ((k + 1 : Nat) : Int) - 1 = (k : Nat) by lia]
  refine idx_list a3 (seq_nat (List.getElem?_eq_some_iff.mp hv).1) hv (small_nat hle (Nat.le_refl _)) ?_
  rfl'
  exact h
noncomputable def cccS : List Int := [0, 768, 770, 803, 804, 807, 808]
noncomputable def cccI : List Int := [0, 230, 0, 220, 0, 202, 0]
noncomputable def cccV : List V := cccI.map .int
noncomputable def dmS : List Int := [0, 224, 225, 226]
noncomputable def dmT (b : Int) : V := .tup [.str "", .tup [.int 97, .int b]]
noncomputable def dmV : List V := [.none, dmT 768, dmT 769, .none]
inductive IsData (H : AH) (D : Addr) : Prop
  | mk (ddx dflt maps props words r1 x1 r2 x2 : Addr) (ls : List (Str × V)) (b1 : H D = some (.inst 479 ddx)) (b2 : H ddx = some (.ns [(14, .ref dflt), (15, .ref maps), (16, .ref props), (17, .ref words)])) (b3 : H dflt = some (.sdict ls))
    (b4 : H maps = some (.sdict [("ccc", .ref r1), ("dm", .ref r2)])) (b5 : RM H r1 x1 (.int 0) cccS cccV) (b6 : RM H r2 x2 .none dmS dmV) (tab : H 112 = some (.tab fsPos fsQual))
theorem IsData.tab {H : AH} {D : Addr} (x : IsData H D) : H 112 = some (.tab fsPos fsQual) := by cases x; assumption
theorem IsData.me {H : AH} {D f : Addr} {m : Str} {P : Value → Prop} (x : IsData H D) (L : IsL W) (h4 : cmethF 479 m = some f) (h : P (.ref f)) : ∃ f, Bound W (.ref D) m H f ∧ P f := by
  obtain ⟨ddx, _, _, _, _, _, _, _, _, _, b1, b2⟩ := x
  exact me_ok L b1 b2 (by rfl) h4 h
theorem IsData.sub {H H' : AH} {D : Addr} (x : IsData H D) (k : Sub H H') : IsData H' D := by
  obtain ⟨_, _, _, _, _, _, _, _, _, _, b1, b2, b3, b4, b5, b6, t⟩ := x
  exact .mk _ _ _ _ _ _ _ _ _ _ (k _ _ b1) (k _ _ b2) (k _ _ b3) (k _ _ b4) (b5.sub k) (b6.sub k) (k _ _ t)
noncomputable def rk (c : Int) : Int := if c = 768 ∨ c = 769 then 230 else if c = 803 then 220 else if c = 807 then 202 else 0
noncomputable def dmOf (c : Int) : V := if c = 224 then dmT 768 else if c = 225 then dmT 769 else .none
noncomputable def txL : List Int := [97, 98, 768, 769, 803, 807, 224, 99, 225, 120, 19970, 13312]
theorem ccc_at : ∀ c ∈ txL, cnt cccS c = (cnt cccS c - 1) + 1 ∧ cccI[cnt cccS c - 1]? = some (rk c) := by decide
theorem dm_v (c : Int) : dmV[if c = 224 then 1 else if c = 225 then 2 else if c < 224 then 0 else 3]? = some (dmOf c) := by
  unfold dmOf
  by_cases h : c = 224
  · rw [if_pos h, if_pos h]; rfl
  · rw [if_neg h, if_neg h]
    by_cases h : c = 225
    · rw [if_pos h, if_pos h]; rfl
    · rw [if_neg h, if_neg h]; split <;> rfl
theorem dm_at : ∀ c ∈ txL, cnt dmS c = (if c = 224 then 1 else if c = 225 then 2 else if c < 224 then 0 else 3) + 1 := by decide
theorem wc_Data_get_ccc (L : IsL W) {D : Addr} {c : Int} (x : IsData H D) (hc : c ∈ txL) (h : Q (.int (rk c)) H) : WC W (n + 3) 469 [.ref D, .str "ccc", .int c] H Q := by
  obtain ⟨_, _, a3, _, _, a6, _, _, _, _, b1, b2, _, b4, b5, _, _⟩ := x
  refine fc_Data_get L ?_
  unfold ss_Data_get
  rfl'
  refine at_ok L b1 b2 (by rfl) (by rfl) (by rfl) ?_
  refine ⟨_, cmp_in_s b4, ?_⟩
  refine call_true (by rfl) ?_
  rfl'
  refine at_ok L b1 b2 (by rfl) (by rfl) (by rfl) ?_
  rfl'
  refine idx_sdict b4 (v := .ref a6) (by rfl) ?_
  obtain ⟨s, v, e1, e2, e3⟩ := b5.lists
  refine me_ok L b5.inst e1 (by rfl) (by rfl) ?_
  rfl'
  refine (wc_RangeMap_get L b5 (by decide) (by decide) (ccc_at c hc).1 (u := .int (rk c)) (by unfold cccV; rw [List.getElem?_map, (ccc_at c hc).2]; rfl) ?_).wv
  exact h
theorem wc_Data_get_dm (L : IsL W) {D : Addr} {c : Int} (x : IsData H D) (hc : c ∈ txL) (h : Q (dmOf c) H) : WC W (n + 3) 469 [.ref D, .str "dm", .int c] H Q := by
  obtain ⟨_, _, a3, _, _, _, _, a8, _, _, b1, b2, _, b4, _, b6, _⟩ := x
  refine fc_Data_get L ?_
  unfold ss_Data_get
  rfl'
  refine at_ok L b1 b2 (by rfl) (by rfl) (by rfl) ?_
  refine ⟨_, cmp_in_s b4, ?_⟩
  refine call_true (by rfl) ?_
  rfl'
  refine at_ok L b1 b2 (by rfl) (by rfl) (by rfl) ?_
  rfl'
  refine idx_sdict b4 (v := .ref a8) (by rfl) ?_
  obtain ⟨s, v, e1, e2, e3⟩ := b6.lists
  refine me_ok L b6.inst e1 (by rfl) (by rfl) ?_
  rfl'
  refine (wc_RangeMap_get L b6 (by decide) (by decide) (dm_at c hc) (dm_v c) ?_).wv
  exact h
end
section
variable {W : Wd} {n : Nat} {cx : Cx} {ρ : Loc} {H : AH} {Q : V → AH → Prop}
noncomputable abbrev Ele := Int × Int × Int × Bool
noncomputable def eV (e : Ele) : V := .tup [.int e.1, .int e.2.1, .int e.2.2.1, .bool e.2.2.2]
theorem idx_tupN {l : List V} {k : Int} {v : V} (h0 : 0 ≤ k) (h1 : k.natAbs < 2 ^ 60) (hv : l[k.toNat]? = some v) (h : Q v H) : IdxOk W n (.tup l) (.int k) H Q := by
  have hlt : k.toNat < l.length := g_lt hv
  exact idx_tup (seqIndex_of h0 ((Int.toNat_lt h0).mp hlt)) hv h1 h
theorem own1 {i : Nat} {ρ : Loc} (h : ρ[i]? = some none) : ∀ j ∈ [i], ρ[j]? = some none := fun j hj => by rw [List.mem_singleton.mp hj]; exact h
theorem own2 {i k : Nat} {ρ : Loc} (h : ρ[i]? = some none) (h' : ρ[k]? = some none) : ∀ j ∈ [i, k], ρ[j]? = some none := fun j hj => by
  rcases List.mem_cons.mp hj with rfl | hj
  · exact h
  · exact own1 h' j hj
theorem sub1 {t : T} {l : List Nat} (h : tslots t = l) : ∀ i ∈ tslots t, i ∈ l := fun _ hi => h ▸ hi
theorem wc_coll_scaled (L : IsL W) {a : Addr} {l : List Ele} (hH : H a = some (.list (l.map eV))) (hl : l.length ≤ 1000) (h : ∀ D, H D = none → Q (.ref D) (upd H D (.list (l.map eV)))) : WC W (n + 1) 236 [.ref a, .tup [.int 1, .int 1, .int 1]] H Q := by
  refine fc_coll_scaled L ?_
  unfold ss_coll_scaled
  rfl'
  refine we_comp (by rfl) (own1 rfl) (sub1 rfl) ?_
  refine vi_list ?_
  rfl'
  refine ⟨a, _, rfl, hH, ?_⟩
  refine cb_map (f := id) (by rw [List.length_map]; exact hl) hH (fun v hv => ?_) (fun D hD => ?_)
  · obtain ⟨e, he, rfl⟩ := List.mem_map.mp hv
    unfold eV
    rfl'
    refine idx_tupN (by decide) (by decide) (by rfl) ?_
    rfl'
    refine idx_tupN (by decide) (by decide) (by rfl) ?_
    rfl'
    refine idx_tupN (by decide) (by decide) (by rfl) ?_
    rfl'
    refine idx_tupN (by decide) (by decide) (by rfl) ?_
    rfl'
    exact ⟨by simp, rfl⟩
  · rw [List.map_id]
    exact h D hD
noncomputable def cdL : List Int := [97, 98, 99, 120, 768, 769, 803, 807, 13312, 19970]
theorem cd_tx : ∀ c ∈ cdL, c ∈ txL := by decide
theorem cd_bits : ∀ c ∈ cdL, c.fdiv (2 ^ Int.toNat 15) = 0 ∧ Builtin.bitOr (Builtin.bitAnd c 32767) 32768 = 32768 + c := by decide
theorem wc_CollBase_elements_of (L : IsL W) {b bx : Addr} {f l : V} {bs c : Int} (h1 : H b = some (.inst 227 bx)) (h2 : H bx = some (.ns [(0, f), (1, l), (2, .int bs), (3, .none)])) (hc : c ∈ cdL)
    (h : ∀ D, H D = none → Q (.ref D) (upd H D (.list ([(bs, 32, 2, false), (32768 + c, 0, 0, false)].map eV)))) : WC W (n + 1) 224 [.ref b, .int c] H Q := by
  refine fc_CollBase_elements_of L ?_
  unfold ss_CollBase_elements_of
  rfl'
  refine at_ok L h1 h2 (by rfl) (by rfl) (by rfl) ?_
  rfl'
  refine at_ok L h1 h2 (by rfl) (by rfl) (by rfl) ?_
  rfl'
  refine op_shr ?_ (by decide)
  rfl'
  refine op_and ?_
  rfl'
  refine op_or ?_
  rfl'
  intro D hD
  obtain ⟨e1, e2⟩ := cd_bits c hc
  rw [e1, e2, Int.add_zero]
  exact h D hD
noncomputable def liveAll (gone : List Bool) (at_ : Nat) : List Nat := (List.range' at_ (gone.length - at_)).filter fun i => gone[i]? == some false
noncomputable def live (gone : List Bool) (at_ : Nat) (most : Nat) : List Nat := (liveAll gone at_).take most
theorem liveAll_step {gone : List Bool} {i : Nat} {b : Bool} (h : gone[i]? = some b) : liveAll gone i = if b then liveAll gone (i + 1) else i :: liveAll gone (i + 1) := by
  have hlt : i < gone.length := g_lt h
  unfold liveAll
  have e : gone.length - i = (gone.length - (i + 1)) + 1 := sb_eq hlt
  rw [e, List.range'_succ]
  cases b with
  | true => rw [List.filter_cons_of_neg (by rw [h]; decide)]; simp
  | false => rw [List.filter_cons_of_pos (by rw [h]; decide)]; simp
theorem liveAll_end {gone : List Bool} {i : Nat} (h : gone.length ≤ i) : liveAll gone i = [] := by
  unfold liveAll
  rw [Nat.sub_eq_zero_of_le h]; rfl
theorem liveAll_len (gone : List Bool) (i : Nat) : (liveAll gone i).length ≤ gone.length - i := by
  unfold liveAll
  refine Nat.le_trans (List.length_filter_le _ _) ?_
  rw [List.length_range']; exact Nat.le_refl _
inductive LvI (a D : Addr) (H : AH) (gone : List Bool) (i most : Nat) : Nat → Loc → AH → Prop
  | mk (j : Nat) (l : List Nat) (hj : j ≤ gone.length) (hlj : l.length ≤ j) (hlv : l ++ live gone j (most - l.length) = live gone i most) (hm : l.length ≤ most) :
    LvI a D H gone i most (gone.length - j) [some (.ref a), some (.int j), some (.int most), some (.ref D)] (upd H D (.list (l.map fun (j : Nat) => .int (j : Int))))
theorem wc_coll_live (L : IsL W) {a : Addr} {gone : List Bool} {i most : Nat} (hH : H a = some (.list (gone.map .bool))) (hl : gone.length ≤ 1000) (hi : i ≤ gone.length)
    (h : ∀ D, H D = none → Q (.ref D) (upd H D (.list ((live gone i most).map fun (j : Nat) => .int (j : Int))))) : WC W (n + 1) 368 [.ref a, .int i, .int most] H Q := by
  refine fc_coll_live L ?_
  unfold ss_coll_live
  rfl'
  intro D hD
  rfl'
  refine vs_whl (LvI a D H gone i most) (gone.length - i) (.mk i [] hi (Nat.zero_le _) rfl (Nat.zero_le _)) ?_
  rintro m ρ H' K ⟨j, l, hj, hlj, hlv, hm⟩ hK
  have hA : upd H D (.list (l.map fun (j : Nat) => .int (j : Int))) a = some (.list (gone.map .bool)) := uO hD hH
  rfl'
  refine wv_len_list hA (by rw [List.length_map]; exact hl) ?_
  rw [List.length_map]
  rfl'
  refine ⟨fun e => ?_, fun e => ?_⟩
  · have hjl : j < gone.length := by simpa using e
    clear e
    have hl1 : l.length < 1000 := Nat.lt_of_le_of_lt hlj (Nat.lt_of_lt_of_le hjl hl)
    rfl'
    refine wv_len_list (uS _ _ _) (by rw [List.length_map]; exact Nat.le_of_lt hl1) ?_
    rw [List.length_map]
    rfl'
    refine ⟨fun e => ?_, fun e => ?_⟩
    · have hlm : l.length < most := by simpa using e
      clear e
      have hb : gone[j]? = some gone[j] := List.getElem?_eq_getElem hjl
      have hst := liveAll_step hb
      have hm1 : gone.length - (j + 1) < gone.length - j := Nat.sub_lt_sub_left hjl (Nat.lt_succ_self j)
      rfl'
      refine idx_list hA (seq_nat (by rw [List.length_map]; exact hjl)) (by rw [List.getElem?_map, hb]; rfl) (small_nat hjl hl) ?_
      generalize gone[j] = b at hst
      cases b with
      | false =>
        rfl'
        refine me_append (uS _ _ _) ?_
        rfl'
        refine wv_append (uS _ _ _) (by rw [List.length_map]; exact Nat.le_of_lt hl1) ?_
        rw [upd_upd, show (l.map fun (j : Nat) => V.int (j : Int)) ++ [V.int j] = (l ++ [j]).map fun (j : Nat) => .int (j : Int) by rw [List.map_append]; rfl]
        rfl'
        have hz : (l ++ [j]).length = l.length + 1 := List.length_append
        refine hK.next _ hm1 (.mk (j + 1) (l ++ [j]) hjl (hz ▸ Nat.succ_le_succ hlj) ?_ (hz ▸ hlm))
        refine hlv ▸ ?_
        unfold live
        rw [hst, hz, sb_eq hlm]
        simp
      | true =>
        rfl'
        refine hK.next _ hm1 (.mk (j + 1) l hjl (Nat.le_succ_of_le hlj) ?_ hm)
        refine hlv ▸ ?_
        unfold live
        refine Eq.symm hst ▸ ?_
        rfl
    · have e0 : most - l.length = 0 := by
        exact Nat.sub_eq_zero_of_le (Nat.not_lt.mp (by simpa using e))
      rfl'
      rw [e0] at hlv
      unfold live at hlv
      rw [List.take_zero, List.append_nil] at hlv
      refine Eq.symm hlv ▸ ?_
      exact h D hD
  · have hjl : gone.length ≤ j := by
      exact Nat.not_lt.mp (by simpa using e)
    rfl'
    unfold live at hlv
    rw [liveAll_end hjl, List.take_nil, List.append_nil] at hlv
    refine Eq.symm hlv ▸ ?_
    exact h D hD
end
section
variable {W : Wd} {n : Nat} {cx : Cx} {ρ : Loc} {H : AH} {Q : V → AH → Prop}
inductive TabR (H : AH) : List (List Int × V) → List (List Int × List Ele) → Prop where
  | nil : TabR H [] []
  | cons {k : List Int} {a : Addr} {es : List Ele} {T' : List (List Int × V)} {T : List (List Int × List Ele)} : H a = some (.list (es.map eV)) → TabR H T' T → TabR H ((k, .ref a) :: T') ((k, es) :: T)
theorem TabR.keys {T' : List (List Int × V)} {T : List (List Int × List Ele)} (x : TabR H T' T) : T'.map (·.1) = T.map (·.1) := by
  induction x with
  | nil => rfl
  | cons _ _ ih => simp [ih]
theorem TabR.imp {H' : AH} {T' : List (List Int × V)} {T : List (List Int × List Ele)} (x : TabR H T' T) (k : ∀ a l, H a = some (.list l) → H' a = some (.list l)) : TabR H' T' T := by
  induction x with
  | nil => exact .nil
  | cons a _ ih => exact .cons (k _ _ a) ih
theorem TabR.look {T' : List (List Int × V)} {T : List (List Int × List Ele)} (x : TabR H T' T) (k : List Int) : (alook T' k = none ∧ alook T k = none) ∨ ∃ a es, alook T' k = some (.ref a) ∧ alook T k = some es ∧ H a = some (.list (es.map eV)) := by
  induction x with
  | nil => exact .inl ⟨rfl, rfl⟩
  | @cons k' a es T' T h _ ih =>
    unfold alook at ih ⊢
    by_cases e : k' = k
    · subst e
      exact .inr ⟨a, es, by simp, by simp, h⟩
    · rw [List.find?_cons_of_neg (by simpa using e), List.find?_cons_of_neg (by simpa using e)]
      exact ih
theorem TabR.len {T' : List (List Int × V)} {T : List (List Int × List Ele)} (x : TabR H T' T) : T'.length = T.length := by
  have := congrArg List.length x.keys; simpa using this
theorem TabR.append {T' U' : List (List Int × V)} {T U : List (List Int × List Ele)} (x : TabR H T' T) (y : TabR H U' U) : TabR H (T' ++ U') (T ++ U) := by
  induction x with
  | nil => exact y
  | cons a _ ih => exact .cons a ih
theorem TabR.store {T' : List (List Int × V)} {T : List (List Int × List Ele)} (x : TabR H T' T) (k : List Int) {a : Addr} {es : List Ele} (h : H a = some (.list (es.map eV))) : TabR H (astore T' k (.ref a)) (astore T k es) := by
  have hk : (T'.any fun x => decide (x.1 = k)) = (T.any fun x => decide (x.1 = k)) := by
    have := x.keys
    have e1 : ∀ {α : Type} (l : List (List Int × α)), (l.any fun x => decide (x.1 = k)) = (l.map (·.1)).any fun y => decide (y = k) := fun l => by rw [List.any_map]; rfl
    rw [e1, e1, this]
  unfold astore
  refine Eq.symm hk ▸ ?_
  split
  · rename_i hh
    clear hh hk
    induction x with
    | nil => exact .nil
    | @cons k' a' es' T' T h' _ ih =>
      simp only [List.map_cons]
      split
      · exact .cons h ih
      · exact .cons h' ih
  · exact x.append (.cons h .nil)
theorem TabR.del {T' : List (List Int × V)} {T : List (List Int × List Ele)} (x : TabR H T' T) (k : List Int) : TabR H (adel T' k) (adel T k) := by
  unfold adel
  induction x with
  | nil => exact .nil
  | @cons k' a' es' T' T h' _ ih =>
    by_cases e : k' = k
    · rw [List.filter_cons_of_neg (by simpa using e), List.filter_cons_of_neg (by simpa using e)]; exact ih
    · rw [List.filter_cons_of_pos (by simpa using e), List.filter_cons_of_pos (by simpa using e)]; exact .cons h' ih
noncomputable def LonOk (G : List (Int × Nat)) (T : List (List Int × List Ele)) : Prop := ∀ p ∈ T, ∃ c r m, p.1 = c :: r ∧ alook G c = some m ∧ p.1.length ≤ m
noncomputable def gV (G : List (Int × Nat)) : List (Int × V) := G.map fun p => (p.1, .int (p.2 : Int))
theorem gV_look (G : List (Int × Nat)) (c : Int) : alook (gV G) c = (alook G c).map fun m => .int (m : Int) := by
  unfold alook gV
  rw [List.find?_map, Option.map_map, Option.map_map]
  rfl
theorem gV_store (G : List (Int × Nat)) (c : Int) (m : Nat) : gV (astore G c m) = astore (gV G) c (.int (m : Int)) := by
  unfold astore gV
  rw [List.any_map]
  have : ((fun x : Int × V => decide (x.1 = c)) ∘ fun p : Int × Nat => (p.1, V.int (p.2 : Int))) = fun x => decide (x.1 = c) := rfl
  refine Eq.symm this ▸ ?_
  split
  · rw [List.map_map, List.map_map]
    refine List.map_congr_left fun p _ => ?_
    simp only [Function.comp]
    split <;> rfl
  · simp
noncomputable abbrev BRow := Int × Int × Int
inductive BR (H : AH) : List V → List BRow → Prop where
  | nil : BR H [] []
  | cons {b bx : Addr} {r : BRow} {l : List V} {m : List BRow} : H b = some (.inst 227 bx) → H bx = some (.ns [(0, .int r.1), (1, .int r.2.1), (2, .int r.2.2), (3, .none)]) → BR H l m → BR H (.ref b :: l) (r :: m)
theorem BR.len {l : List V} {m : List BRow} (x : BR H l m) : l.length = m.length := by
  induction x with
  | nil => rfl
  | cons _ _ _ ih => simp [ih]
theorem BR.get {l : List V} {m : List BRow} (x : BR H l m) : ∀ {i : Nat} {r : BRow}, m[i]? = some r → ∃ b bx, l[i]? = some (.ref b) ∧ H b = some (.inst 227 bx) ∧ H bx = some (.ns [(0, .int r.1), (1, .int r.2.1), (2, .int r.2.2), (3, .none)]) := by
  induction x with
  | nil => intro i r h; simp at h
  | @cons b bx r' l m h1 h2 _ ih =>
    intro i r h
    cases i with
    | zero => simp at h; subst h; exact ⟨b, bx, rfl, h1, h2⟩
    | succ i => simp at h; obtain ⟨b', bx', e⟩ := ih h; exact ⟨b', bx', by simpa using e⟩
theorem BR.imp {H' : AH} {l : List V} {m : List BRow} (x : BR H l m) (k1 : ∀ b bx, H b = some (.inst 227 bx) → H' b = some (.inst 227 bx)) (k2 : ∀ b l, H b = some (.ns l) → H' b = some (.ns l)) : BR H' l m := by
  induction x with
  | nil => exact .nil
  | cons a b _ ih => exact .cons (k1 _ _ a) (k2 _ _ b) ih
theorem BR.append {l l' : List V} {m m' : List BRow} (x : BR H l m) (y : BR H l' m') : BR H (l ++ l') (m ++ m') := by
  induction x with
  | nil => exact y
  | cons a b _ ih => exact .cons a b ih
noncomputable def ideoL : List BRow := [(19968, 40959, 64320), (64014, 64015, 64320), (64017, 64017, 64320), (64019, 64020, 64320), (64031, 64031, 64320), (64033, 64033, 64320), (64035, 64036, 64320), (64039, 64041, 64320),
  (13312, 19903, 64384), (131072, 173791, 64384), (173824, 177977, 64384), (177984, 178205, 64384), (178208, 183969, 64384), (183984, 191456, 64384), (191472, 192093, 64384), (196608, 201546, 64384), (201552, 205743, 64384)]
noncomputable def baseL : List BRow := (0, 1114111, 64448) :: ideoL
noncomputable def inRow (c : Int) (r : BRow) : Bool := decide (r.1 ≤ c) && decide (c ≤ r.2.1)
noncomputable def baseOf (c : Int) : Int := ((baseL.reverse.find? (inRow c)).map (·.2.2)).getD 0
inductive ElB (B : List BRow) (H : AH) (o t lg : Addr) (T : List (List Int × List Ele)) (N : Nat) : Prop
  | mk (dx bs : Addr) (l : List V) (T' : List (List Int × V)) (ep : Option Nat) (G : List (Int × Nat)) (a1 : H o = some (.inst 357 dx)) (a2 : H dx = some (.ns [(7, .ref t), (8, .ref lg), (9, .tup [.int 1, .int 1, .int 1]), (10, .ref bs)])) (a3 : H bs = some (.list l)) (a4 : BR H l B)
    (b1 : H t = some (.tdict T' ep)) (b2 : TabR H T' T) (c1 : H lg = some (.idict (gV G))) (c2 : LonOk G T) (c3 : G.length ≤ N)
noncomputable abbrev El (H : AH) (o t lg : Addr) (T : List (List Int × List Ele)) (N : Nat) : Prop := ElB baseL H o t lg T N
section
variable {B : List BRow} {o t lg : Addr} {T : List (List Int × List Ele)} {N : Nat}
inductive BasA (B : List BRow) (H : AH) (o t lg : Addr) : Prop
  | mk (dx bs : Addr) (l : List V) (a1 : H o = some (.inst 357 dx)) (a2 : H dx = some (.ns [(7, .ref t), (8, .ref lg), (9, .tup [.int 1, .int 1, .int 1]), (10, .ref bs)])) (a3 : H bs = some (.list l)) (a4 : BR H l B)
inductive TabA (H : AH) (t : Addr) (T : List (List Int × List Ele)) : Prop
  | mk (T' : List (List Int × V)) (ep : Option Nat) (b1 : H t = some (.tdict T' ep)) (b2 : TabR H T' T)
inductive LonA (H : AH) (lg : Addr) (T : List (List Int × List Ele)) (N : Nat) : Prop
  | mk (G : List (Int × Nat)) (c1 : H lg = some (.idict (gV G))) (c2 : LonOk G T) (c3 : G.length ≤ N)
theorem ElB.me {f : Addr} {m : Str} {P : Value → Prop} (x : ElB B H o t lg T N) (L : IsL W) (h4 : cmethF 357 m = some f) (h : P (.ref f)) : ∃ f, Bound W (.ref o) m H f ∧ P f := by
  obtain ⟨_, _, _, _, _, _, a1, a2⟩ := x
  exact me_ok L a1 a2 (by rfl) h4 h
theorem ElB.at7 {P : V → Prop} (x : ElB B H o t lg T N) (L : IsL W) (h : P (.ref t)) : ∃ o' C dx l v, (V.ref o) = .ref o' ∧ H o' = some (.inst C dx) ∧ H dx = some (.ns l) ∧ W.cplain C = true ∧ W.cattr C 7 = true ∧ alook l 7 = some v ∧ P v := by
  obtain ⟨_, _, _, _, _, _, a1, a2⟩ := x
  exact at_ok L a1 a2 (by rfl) (by rfl) (by rfl) h
theorem ElB.at8 {P : V → Prop} (x : ElB B H o t lg T N) (L : IsL W) (h : P (.ref lg)) : ∃ o' C dx l v, (V.ref o) = .ref o' ∧ H o' = some (.inst C dx) ∧ H dx = some (.ns l) ∧ W.cplain C = true ∧ W.cattr C 8 = true ∧ alook l 8 = some v ∧ P v := by
  obtain ⟨_, _, _, _, _, _, a1, a2⟩ := x
  exact at_ok L a1 a2 (by rfl) (by rfl) (by rfl) h
theorem ElB.bases (x : ElB B H o t lg T N) : BasA B H o t lg := by
  obtain ⟨dx, bs, l, _, _, _, a1, a2, a3, a4⟩ := x
  exact ⟨dx, bs, l, a1, a2, a3, a4⟩
theorem ElB.tab (x : ElB B H o t lg T N) : TabA H t T := by
  obtain ⟨_, _, _, T', ep, _, _, _, _, _, b1, b2⟩ := x
  exact ⟨T', ep, b1, b2⟩
theorem ElB.lon (x : ElB B H o t lg T N) : LonA H lg T N := by
  obtain ⟨_, _, _, _, _, G, _, _, _, _, _, _, c1, c2, c3⟩ := x
  exact ⟨G, c1, c2, c3⟩
end
structure Kp (H H' : AH) (t lg : Addr) : Prop where
  keep : ∀ a ob, H a = some ob → a ≠ t → a ≠ lg → H' a = some ob
  tab : ∃ T ep, H t = some (.tdict T ep)
  lon : ∃ G, H lg = some (.idict G)
theorem Kp.list {H H' : AH} {t lg a : Addr} {l : List V} (x : Kp H H' t lg) (h : H a = some (.list l)) : H' a = some (.list l) :=
  x.keep _ _ h (by rintro rfl; obtain ⟨_, _, e⟩ := x.tab; rw [h] at e; cases e) (by rintro rfl; obtain ⟨_, e⟩ := x.lon; rw [h] at e; cases e)
theorem Kp.inst {H H' : AH} {t lg a C dx : Addr} (x : Kp H H' t lg) (h : H a = some (.inst C dx)) : H' a = some (.inst C dx) :=
  x.keep _ _ h (by rintro rfl; obtain ⟨_, _, e⟩ := x.tab; rw [h] at e; cases e) (by rintro rfl; obtain ⟨_, e⟩ := x.lon; rw [h] at e; cases e)
theorem Kp.ns {H H' : AH} {t lg a : Addr} {l : List (Nat × V)} (x : Kp H H' t lg) (h : H a = some (.ns l)) : H' a = some (.ns l) :=
  x.keep _ _ h (by rintro rfl; obtain ⟨_, _, e⟩ := x.tab; rw [h] at e; cases e) (by rintro rfl; obtain ⟨_, e⟩ := x.lon; rw [h] at e; cases e)
theorem Kp.sdict {H H' : AH} {t lg a : Addr} {l : List (Str × V)} (x : Kp H H' t lg) (h : H a = some (.sdict l)) : H' a = some (.sdict l) :=
  x.keep _ _ h (by rintro rfl; obtain ⟨_, _, e⟩ := x.tab; rw [h] at e; cases e) (by rintro rfl; obtain ⟨_, e⟩ := x.lon; rw [h] at e; cases e)
theorem ElB.imp {B : List BRow} {H H' : AH} {o t lg : Addr} {T : List (List Int × List Ele)} {N : Nat} (x : ElB B H o t lg T N) (k1 : ∀ a C dx, H a = some (.inst C dx) → H' a = some (.inst C dx)) (k2 : ∀ a l, H a = some (.ns l) → H' a = some (.ns l)) (k3 : ∀ a l, H a = some (.list l) → H' a = some (.list l))
    (k4 : ∀ ob, H t = some ob → H' t = some ob) (k5 : ∀ ob, H lg = some ob → H' lg = some ob) : ElB B H' o t lg T N := by
  obtain ⟨dx, bs, l, T', ep, G, a1, a2, a3, a4, b1, b2, c1, c2, c3⟩ := x
  exact .mk dx bs l T' ep G (k1 _ _ _ a1) (k2 _ _ a2) (k3 _ _ a3) (a4.imp (fun b bx e => k1 _ _ _ e) k2) (k4 _ b1) (b2.imp k3) (k5 _ c1) c2 c3
theorem ElB.sub {B : List BRow} {H H' : AH} {o t lg : Addr} {T : List (List Int × List Ele)} {N : Nat} (x : ElB B H o t lg T N) (k : Sub H H') : ElB B H' o t lg T N :=
  x.imp (fun _ _ _ e => k _ _ e) (fun _ _ e => k _ _ e) (fun _ _ e => k _ _ e) (fun _ e => k _ _ e) fun _ e => k _ _ e
theorem ElB.kp {B : List BRow} {H H' : AH} {o t lg t' lg' : Addr} {T : List (List Int × List Ele)} {N : Nat} (x : ElB B H o t lg T N) (k : Kp H H' t' lg') (h1 : t ≠ t') (h2 : lg ≠ lg') : ElB B H' o t lg T N := by
  refine x.imp (fun _ _ _ e => k.inst e) (fun _ _ e => k.ns e) (fun _ _ e => k.list e) (fun ob e => k.keep _ _ e h1 ?_) fun ob e => k.keep _ _ e ?_ h2
  · rintro rfl
    obtain ⟨_, _, e1, _⟩ := x.tab
    obtain ⟨_, e2⟩ := k.lon
    rw [e1] at e2; cases e2
  · rintro rfl
    obtain ⟨_, e1, _⟩ := x.lon
    obtain ⟨_, _, e2⟩ := k.tab
    rw [e1] at e2; cases e2
theorem RM.imp {H' : AH} {r dx : Addr} {d : V} {ss : List Int} {vs : List V} (x : RM H r dx d ss vs) (k1 : ∀ a C dx, H a = some (.inst C dx) → H' a = some (.inst C dx)) (k2 : ∀ a l, H a = some (.ns l) → H' a = some (.ns l)) (k3 : ∀ a l, H a = some (.list l) → H' a = some (.list l)) : RM H' r dx d ss vs := by
  obtain ⟨i, s, v, a, b, c⟩ := x
  exact ⟨k1 _ _ _ i, s, v, k2 _ _ a, k3 _ _ b, k3 _ _ c⟩
theorem IsData.imp {H' : AH} {D : Addr} (x : IsData H D) (k1 : ∀ a C dx, H a = some (.inst C dx) → H' a = some (.inst C dx)) (k2 : ∀ a l, H a = some (.ns l) → H' a = some (.ns l)) (k3 : ∀ a l, H a = some (.list l) → H' a = some (.list l)) (k4 : ∀ a l, H a = some (.sdict l) → H' a = some (.sdict l)) (k5 : ∀ a p q, H a = some (.tab p q) → H' a = some (.tab p q)) : IsData H' D := by
  obtain ⟨_, _, _, _, _, _, _, _, _, _, b1, b2, b3, b4, b5, b6, t⟩ := x
  exact .mk _ _ _ _ _ _ _ _ _ _ (k1 _ _ _ b1) (k2 _ _ b2) (k4 _ _ b3) (k4 _ _ b4) (b5.imp k1 k2 k3) (b6.imp k1 k2 k3) (k5 _ _ _ t)
theorem IsData.kp {H H' : AH} {D t lg : Addr} (x : IsData H D) (k : Kp H H' t lg) : IsData H' D :=
  x.imp (fun _ _ _ e => k.inst e) (fun _ _ e => k.ns e) (fun _ _ e => k.list e) (fun _ _ e => k.sdict e) fun _ _ _ e => k.keep _ _ e
    (by rintro rfl; obtain ⟨_, _, e'⟩ := k.tab; rw [e] at e'; cases e') (by rintro rfl; obtain ⟨_, e'⟩ := k.lon; rw [e] at e'; cases e')
theorem wc_Elements_get (L : IsL W) {B : List BRow} {o t lg : Addr} {T : List (List Int × List Ele)} {N : Nat} {k : List Int} (x : ElB B H o t lg T N) (h : ∀ v, (alook T k = none ∧ v = .none) ∨ (∃ a es, alook T k = some es ∧ v = .ref a ∧ H a = some (.list (es.map eV))) → Q v H) : WC W (n + 1) 291 [.ref o, tupI k] H Q := by
  obtain ⟨T', ep, b1, b2⟩ := x.tab
  refine fc_Elements_get L ?_
  unfold ss_Elements_get
  rfl'
  refine x.at7 L ?_
  refine me_get_t b1 ?_
  rfl'
  refine wv_tuple_tup ?_
  rfl'
  refine wv_get_t (k := k) b1 ?_
  refine h _ ?_
  rcases b2.look k with ⟨e1, e2⟩ | ⟨a, es, e1, e2, e3⟩
  · rw [e1]; exact .inl ⟨e2, rfl⟩
  · rw [e1]; exact .inr ⟨a, es, e2, rfl, e3⟩
theorem LonOk.store {G : List (Int × Nat)} {T : List (List Int × List Ele)} (x : LonOk G T) {c : Int} {r : List Int} {es : List Ele} {m : Nat} (h : alook G c = some m) (hm : (c :: r).length ≤ m) : LonOk G (astore T (c :: r) es) := by
  intro p hp
  unfold astore at hp
  split at hp
  · obtain ⟨q, hq, rfl⟩ := List.mem_map.mp hp
    split
    · rename_i e; obtain ⟨c', r', m', e1, e2, e3⟩ := x q hq; exact ⟨c', r', m', e1, e2, e3⟩
    · exact x q hq
  · rcases List.mem_append.mp hp with hp | hp
    · exact x p hp
    · simp at hp; subst hp; exact ⟨c, r, m, rfl, h, hm⟩
theorem alook_store {K' : Type} [DecidableEq K'] {α : Type} (l : List (K' × α)) (k k' : K') (v : α) : alook (astore l k v) k' = if k' = k then some v else alook l k' := by
  unfold astore
  split
  · rename_i h
    unfold alook
    induction l with
    | nil => simp at h
    | cons p r ih =>
      obtain ⟨pk, pv⟩ := p
      rw [List.map_cons]
      by_cases e : pk = k
      · subst e
        rw [if_pos rfl]
        by_cases e' : k' = pk
        · subst e'; simp
        · rw [if_neg e']
          have e'' : ¬ pk = k' := fun q => e' q.symm
          rw [List.find?_cons_of_neg (by simpa using e''), List.find?_cons_of_neg (by simpa using e'')]
          clear h ih
          induction r with
          | nil => rfl
          | cons q r ih =>
            rw [List.map_cons]
            obtain ⟨qk, qv⟩ := q
            by_cases f : qk = pk
            · subst f
              rw [if_pos rfl, List.find?_cons_of_neg (by simpa using e''), List.find?_cons_of_neg (by simpa using e'')]; exact ih
            · rw [if_neg f]
              by_cases g : qk = k'
              · rw [List.find?_cons_of_pos (by simpa using g), List.find?_cons_of_pos (by simpa using g)]
              · rw [List.find?_cons_of_neg (by simpa using g), List.find?_cons_of_neg (by simpa using g)]; exact ih
      · rw [if_neg e]
        by_cases g : pk = k'
        · subst g
          rw [List.find?_cons_of_pos (by simp), List.find?_cons_of_pos (by simp), if_neg e]
        · rw [List.find?_cons_of_neg (by simpa using g), List.find?_cons_of_neg (by simpa using g)]
          exact ih (by simpa [e] using h)
  · rename_i h
    unfold alook
    rw [List.find?_append]
    by_cases e : k' = k
    · subst e
      rw [if_pos rfl]
      have : l.find? (fun x => decide (x.1 = k')) = none := by
        rw [List.find?_eq_none]
        intro x hx hx'
        exact h (List.any_eq_true.mpr ⟨x, hx, hx'⟩)
      rw [this]; simp
    · rw [if_neg e]
      have : [(k, v)].find? (fun x => decide (x.1 = k')) = none := by
        rw [List.find?_cons_of_neg (by simpa using fun q => e q.symm)]; rfl
      rw [this]; simp
theorem LonOk.up {G : List (Int × Nat)} {T : List (List Int × List Ele)} (x : LonOk G T) {c : Int} {m : Nat} (h : ∀ v, alook G c = some v → v ≤ m) : LonOk (astore G c m) T := by
  intro p hp
  obtain ⟨c', r', m', e1, e2, e3⟩ := x p hp
  by_cases e : c' = c
  · subst e
    exact ⟨c', r', m, e1, by rw [alook_store, if_pos rfl], Nat.le_trans e3 (h _ e2)⟩
  · exact ⟨c', r', m', e1, by rw [alook_store, if_neg e, e2], e3⟩
end
section
variable {W : Wd} {n : Nat} {cx : Cx} {ρ : Loc} {H : AH} {Q : V → AH → Prop}
theorem astore_len {K' : Type} [DecidableEq K'] {α : Type} (l : List (K' × α)) (k : K') (v : α) : (astore l k v).length ≤ l.length + 1 := by
  unfold astore
  split
  · simp
  · simp
theorem gV_getD (G : List (Int × Nat)) (c : Int) : (alook (gV G) c).getD (.int 0) = .int (((alook G c).getD 0 : Nat) : Int) := by
  rw [gV_look]; cases alook G c <;> rfl
theorem wc_Elements_put (L : IsL W) {B : List BRow} {o t lg a : Addr} {T : List (List Int × List Ele)} {c : Int} {r : List Int} {es : List Ele} {N : Nat} (x : ElB B H o t lg T N) (hN : N ≤ 900) (hT : T.length ≤ 500) (hk : r.length ≤ 100) (ha : H a = some (.list (es.map eV))) (he : es.length ≤ 1000)
    (h : ∀ H', ElB B H' o t lg (astore T (c :: r) es) (N + 1) → Kp H H' t lg → Q .none H') : WC W (n + 1) 279 [.ref o, tupI (c :: r), .ref a] H Q := by
  obtain ⟨_, _, t0, _⟩ := x.tab
  obtain ⟨_, l0, _⟩ := x.lon
  refine fc_Elements_put L ?_
  unfold ss_Elements_put
  rfl'
  refine wv_tuple_tup ?_
  rfl'
  refine wv_list_list ha (by rw [List.length_map]; exact he) fun D hD => ?_
  have hs := (Sub.refl H).new (o := .list (es.map eV)) hD
  replace x := x.sub hs
  have hDl : upd H D (.list (es.map eV)) D = some (.list (es.map eV)) := uS _ _ _
  generalize upd H D (.list (es.map eV)) = H1 at x hs hDl
  clear ha hD
  rfl'
  refine x.at7 L ?_
  obtain ⟨dx, bs, l, T', ep, G, a1, a2, a3, a4, b1, b2, c1, c2, c3⟩ := x
  rfl'
  refine ⟨_, set_t (k := c :: r) b1 (by rw [b2.len]; lia), ?_⟩
  have nt : ∀ {b : Addr} {ob : O}, H1 b = some ob → (∀ T e, ob ≠ .tdict T e) → upd H1 t (.tdict (astore T' (c :: r) (.ref D)) none) b = some ob := fun {b ob} e ne => by
    rw [upd_ne _ _ (by rintro rfl; rw [b1] at e; cases e; exact ne _ _ rfl)]; exact e
  have kp : Kp H (upd H1 t (.tdict (astore T' (c :: r) (.ref D)) none)) t lg := ⟨fun b ob e n1 n2 => by rw [upd_ne _ _ n1]; exact hs _ _ e, ⟨_, _, t0⟩, ⟨_, l0⟩⟩
  replace a1 := nt a1 nofun
  replace a2 := nt a2 nofun
  replace a3 := nt a3 nofun
  replace c1 := nt c1 nofun
  replace a4 := a4.imp (fun b bx e => nt e nofun) fun b l e => nt e nofun
  have b2' := (b2.imp fun a l e => nt e nofun).store (c :: r) (nt hDl nofun)
  have b1' : upd H1 t (.tdict (astore T' (c :: r) (.ref D)) none) t = some (.tdict (astore T' (c :: r) (.ref D)) none) := uS _ _ _
  clear nt b1 b2 hDl hs t0 l0
  generalize upd H1 t (.tdict (astore T' (c :: r) (.ref D)) none) = H2 at a1 a2 a3 c1 a4 b1' b2' kp
  have lt : (List.map V.int (c :: r)).length ≤ 1000 := by rw [List.length_map, List.length_cons]; lia
  have hlen : ((List.map V.int (c :: r)).length : Int) = ((r.length + 1 : Nat) : Int) := by simp
  rfl'
  refine at_ok L a1 a2 (by rfl) (by rfl) (by rfl) ?_
  refine me_get_i c1 ?_
  rfl'
  refine idx_tupN (by decide) (by decide) (v := .int c) (by rfl) ?_
  rfl'
  refine wv_get_id c1 ?_
  rw [gV_getD]
  rfl'
  refine wv_len_tup (l := (c :: r).map V.int) lt ?_
  refine Eq.symm hlen ▸ ?_
  rfl'
  refine ⟨fun e => ?_, fun e => ?_⟩
  · have e1 : (alook G c).getD 0 < r.length + 1 := by simp at e; lia
    clear e
    rfl'
    refine wv_len_tup (l := (c :: r).map V.int) lt ?_
    refine Eq.symm hlen ▸ ?_
    rfl'
    refine at_ok L a1 a2 (by rfl) (by rfl) (by rfl) ?_
    rfl'
    refine idx_tupN (by decide) (by decide) (v := .int c) (by rfl) ?_
    refine ⟨_, set_i c1 (by simp [gV]; lia), ?_⟩
    rfl'
    rw [← gV_store]
    have nt : ∀ {b : Addr} {ob : O}, H2 b = some ob → (∀ T, ob ≠ .idict T) → upd H2 lg (.idict (gV (astore G c (r.length + 1)))) b = some ob := fun {b ob} e ne => by
      rw [upd_ne _ _ (by rintro rfl; rw [c1] at e; cases e; exact ne _ rfl)]; exact e
    refine h _ (.mk dx bs l _ _ _ (nt a1 nofun) (nt a2 nofun) (nt a3 nofun) (a4.imp (fun b bx e => nt e nofun) fun b l e => nt e nofun) (nt b1' nofun) (b2'.imp fun a l e => nt e nofun) (uS _ _ _) ?_ (Nat.le_trans (astore_len _ _ _) (Nat.succ_le_succ c3)))
      ⟨fun b ob e n1 n2 => by rw [upd_ne _ _ n2]; exact kp.keep _ _ e n1 n2, kp.tab, kp.lon⟩
    refine LonOk.store (m := r.length + 1) (c2.up fun v hv => ?_) (by rw [alook_store, if_pos rfl]) (Nat.le_refl _)
    rw [hv] at e1
    exact Nat.le_of_lt e1
  · have e1 : ¬ (alook G c).getD 0 < r.length + 1 := by simp at e; lia
    clear e
    rfl'
    have : ∃ m, alook G c = some m ∧ r.length + 1 ≤ m := by
      cases q : alook G c with
      | none => rw [q] at e1; exact absurd (Nat.succ_pos _) e1
      | some m => rw [q] at e1; exact ⟨m, rfl, Nat.le_of_not_lt e1⟩
    obtain ⟨m, g1, g2⟩ := this
    exact h _ (.mk dx bs l _ _ G a1 a2 a3 a4 b1' b2' c1 (c2.store g1 g2) (Nat.le_succ_of_le c3)) kp
end
section
variable {W : Wd} {n : Nat} {cx : Cx} {ρ : Loc} {H : AH} {Q : V → AH → Prop}
theorem find_last {α : Type} {p : α → Bool} {l : List α} {i : Nat} {x : α} (hx : l[i]? = some x) (hp : p x = true) (h : ∀ j y, i < j → l[j]? = some y → p y = false) : l.reverse.find? p = some x := by
  have hlt : i < l.length := g_lt hx
  have e : l = l.take i ++ x :: l.drop (i + 1) := by
    have : l[i] = x := by rw [List.getElem?_eq_getElem hlt] at hx; exact Option.some.inj hx
    rw [← this, List.getElem_cons_drop, List.take_append_drop]
  rw [e, List.reverse_append, List.reverse_cons, List.append_assoc, List.find?_append]
  have : (l.drop (i + 1)).reverse.find? p = none := by
    rw [List.find?_eq_none]
    intro y hy
    rw [List.mem_reverse] at hy
    obtain ⟨j, hj⟩ := List.getElem?_of_mem hy
    rw [List.getElem?_drop] at hj
    simp [h _ y (by lia) hj]
  refine Eq.symm this ▸ ?_
  simp [hp]
theorem base_some : ∀ c ∈ cdL, inRow c (0, 1114111, 64448) = true := by decide
inductive ImI (o : Addr) (c : Int) (H : AH) : Nat → Loc → AH → Prop
  | mk (i : Nat) (hi : i < 18) (hno : ∀ (j : Nat) y, i < j → baseL[j]? = some y → inRow c y = false) : ImI o c H i [some (.ref o), some (.int c), some (.int (i : Int))] H
theorem wc_implicit_of (L : IsL W) {o t lg : Addr} {T : List (List Int × List Ele)} {N : Nat} {c : Int} (x : El H o t lg T N) (hc : c ∈ cdL)
    (h : ∀ H' D, Sub H H' → H D = none → H' D = some (.list ([(baseOf c, 32, 2, false), (32768 + c, 0, 0, false)].map eV)) → Q (.ref D) H') : WC W (n + 2) 325 [.ref o, .int c] H Q := by
  obtain ⟨dx, bs, l, a1, a2, a3, a4⟩ := x.bases
  have hl : l.length = 18 := a4.len
  clear x
  refine fc_Elements_implicit_of L ?_
  unfold ss_Elements_implicit_of
  rfl'
  refine at_ok L a1 a2 (by rfl) (by rfl) (by rfl) ?_
  rfl'
  refine wv_len_list a3 (by lia) ?_
  refine Eq.symm hl ▸ ?_
  rfl'
  refine vs_whl (ImI o c H) 17 (.mk 17 (by decide) fun j y hj hy => ?_) ?_
  · rw [List.getElem?_eq_none (show baseL.length ≤ j from hj)] at hy; cases hy
  rintro m ρ H' K ⟨hi, hno⟩ hK
  obtain ⟨row, hrow⟩ : ∃ row, baseL[m]? = some row := ⟨_, List.getElem?_eq_getElem (show m < baseL.length from hi)⟩
  obtain ⟨b, bx, g1, g2, g3⟩ := a4.get hrow
  have i1 := seq_nat (hl ▸ hi : m < l.length)
  have i2 := small_nat hi (by decide)
  have next : inRow c row = false → K .next (lset [some (.ref o), some (.int c), some (.int (m : Int))] 2 (.int ((m : Int) - 1))) H := fun e => by
    have h0 : 0 < m := by
      rcases Nat.eq_zero_or_pos m with q | q
      · subst q
        rw [show row = (0, 1114111, 64448) from (Option.some.inj hrow).symm, base_some c hc] at e; cases e
      · exact q
    rw [show (m : Int) - 1 = ((m - 1 : Nat) : Int) by lia]
    refine hK.next (m - 1) (Nat.sub_lt h0 Nat.one_pos) (.mk (m - 1) (Nat.lt_of_le_of_lt (Nat.sub_le _ _) hi) fun j y hj hy => ?_)
    by_cases q : j = m
    · subst q; rw [hrow] at hy; cases hy; exact e
    · exact hno j y (by lia) hy
  have done : inRow c row = true → baseOf c = row.2.2 := fun e => by
    unfold baseOf
    rw [find_last hrow e hno]; rfl
  clear hno hrow
  rfl'
  refine at_ok L a1 a2 (by rfl) (by rfl) (by rfl) ?_
  rfl'
  refine idx_list a3 i1 g1 i2 ?_
  rfl'
  refine at_ok L g2 g3 (by rfl) (by rfl) (by rfl) ?_
  rfl'
  refine ⟨fun e => ?_, fun e => ?_⟩
  · rfl'
    refine at_ok L a1 a2 (by rfl) (by rfl) (by rfl) ?_
    rfl'
    refine idx_list a3 i1 g1 i2 ?_
    rfl'
    refine at_ok L g2 g3 (by rfl) (by rfl) (by rfl) ?_
    rfl'
    refine ⟨fun e' => ?_, fun e' => ?_⟩
    · rfl'
      refine next ?_
      unfold inRow
      refine Eq.symm e ▸ ?_
      simpa using e'
    · rfl'
      refine at_ok L a1 a2 (by rfl) (by rfl) (by rfl) ?_
      rfl'
      refine idx_list a3 i1 g1 i2 ?_
      refine me_ok L g2 g3 (by rfl) (by rfl) ?_
      rfl'
      refine (wc_CollBase_elements_of L g2 g3 hc fun D hD => ?_).wv
      rfl'
      refine at_ok L (uO hD a1) (uO hD a2) (by rfl) (by rfl) (by rfl) ?_
      rfl'
      refine wc_coll_scaled L (uS _ _ _) (by simp) fun D' hD' => ?_
      refine h _ _ ((Sub.new (Sub.refl _) hD).new hD') (upd_new hD').1 ?_
      rw [uS, done]
      unfold inRow
      refine Eq.symm e ▸ ?_
      simpa using e'
  · rfl'
    refine next ?_
    unfold inRow
    rw [e]; rfl
structure CM (H : AH) (x : Addr) (es : Addr) (ps : Addr) (onw : Nat) : Prop where
  has : ∃ dx, H x = some (.inst 253 dx) ∧ H dx = some (.ns [(4, .ref es), (5, .ref ps), (6, .int (onw : Int))])
theorem make_ns {x dx : Addr} {C : Addr} (hne : dx ≠ x) (l l' : List (Nat × V)) : upd (upd (upd H dx (.ns l)) x (.inst C dx)) dx (.ns l') = upd (upd H dx (.ns l')) x (.inst C dx) := by
  funext b
  unfold upd
  by_cases e : b = dx
  · subst e; rw [if_pos rfl, if_neg hne, if_pos rfl]
  · rw [if_neg e, if_neg e, if_neg e]
theorem wv_CollMatch (L : IsL W) {es ps : Addr} {onw : Nat} (h : ∀ x H', Sub H H' → H x = none → CM H' x es ps onw → Q (.ref x) H') : WV W (n + 2) (.ref 253) [.ref es, .ref ps, .int (onw : Int)] H Q := by
  refine wv_new (f := 250) (by rw [L.cplain]; rfl) (by rw [L.cinit]; rfl) fun x dx hx hdx hne => ?_
  refine fc_CollMatch__init_ L ?_
  unfold ss_CollMatch__init_
  have h2 : ∀ l, upd (upd H dx (.ns l)) x (.inst 253 dx) dx = some (.ns l) := fun l => by rw [upd_ne _ _ hne, uS]
  rfl'
  refine as_ok L (uS _ _ _) (h2 _) (by rfl) (by rfl) (by decide) ?_
  rw [make_ns hne]
  rfl'
  refine as_ok L (uS _ _ _) (h2 _) (by rfl) (by rfl) (by exact Nat.le_of_ble_eq_true rfl) ?_
  rw [make_ns hne]
  rfl'
  refine as_ok L (uS _ _ _) (h2 _) (by rfl) (by rfl) (by exact Nat.le_of_ble_eq_true rfl) ?_
  rw [make_ns hne]
  rfl'
  refine ⟨rfl, h _ _ ?_ hx ⟨dx, uS _ _ _, h2 _⟩⟩
  refine (Sub.new (Sub.refl H) hdx).new ?_
  rw [upd_ne _ _ (Ne.symm hne)]; exact hx
end
section
variable {W : Wd} {n : Nat} {cx : Cx} {ρ : Loc} {H : AH} {Q : V → AH → Prop}
noncomputable abbrev nV (j : Nat) : V := .int (j : Int)
noncomputable def wm (has : List Int → Bool) (cs : List Int) : Nat → Nat → List Int → List Bool → List Nat → Int → List Int × List Bool × List Nat
  | 0, _, key, gone, ps, _ => (key, gone, ps)
  | f + 1, i, key, gone, ps, stays => match cs[i]? with
    | none => (key, gone, ps)
    | some c => if rk c = 0 then (key, gone, ps) else
      if gone[i]? = some false ∧ stays < rk c then
        if has (key ++ [c]) then wm has cs f (i + 1) (key ++ [c]) (gone.set i true) (ps ++ [i]) stays else wm has cs f (i + 1) key gone ps (rk c)
      else wm has cs f (i + 1) key gone ps stays
noncomputable def hasK (T : List (List Int × List Ele)) (k : List Int) : Bool := (alook T k).isSome
theorem TabR.has {T' : List (List Int × V)} {T : List (List Int × List Ele)} (x : TabR H T' T) (k : List Int) : (alook T' k).isSome = hasK T k := by
  unfold hasK
  rcases x.look k with ⟨e1, e2⟩ | ⟨a, es, e1, e2, _⟩ <;> rw [e1, e2] <;> rfl
noncomputable def Bt2 (H H' : AH) (P G : Addr) : Prop := ∀ b ob, H b = some ob → b ≠ P → b ≠ G → H' b = some ob
theorem Bt2.sub {H0 H H' : AH} {P G : Addr} (x : Bt2 H H' P G) (s : Sub H0 H) (h1 : H0 P = none) (h2 : H0 G = none) : Sub H0 H' := fun b ob e =>
  x b ob (s _ _ e) (by rintro rfl; rw [h1] at e; cases e) (by rintro rfl; rw [h2] at e; cases e)
noncomputable def codesAt (cs : List Int) (ps : List Nat) : List Int := ps.map fun p => cs[p]?.getD 0
noncomputable def cdV (cs : List Int) : V → V
  | .int i => .int (cs[i.toNat]?.getD 0)
  | v => v
theorem cdV_at {cs : List Int} {q : Nat} (h : q < cs.length) : V.int cs[q] = cdV cs (nV q) := by
  show V.int cs[q] = V.int (cs[Int.toNat (q : Int)]?.getD 0)
  rw [Int.toNat_natCast, List.getElem?_eq_getElem h]; rfl
theorem codes_map {cs : List Int} {ps : List Nat} : ((ps.map nV).map (cdV cs)) = (codesAt cs ps).map V.int := by
  unfold codesAt
  rw [List.map_map, List.map_map]
  exact List.map_congr_left fun q _ => rfl
theorem seq_last (m : Nat) : seqIndex? (-1) (m + 1) = some m := by
  unfold seqIndex?
  simp only [Int.reduceLT, ↓reduceIte, Int.reduceNeg]
  have e : (-1 : Int) + ((m + 1 : Nat) : Int) = (m : Int) := (Int.add_comm ..).trans (Int.add_sub_cancel (m : Int) 1)
  rw [e, decide_eq_true (Int.natCast_nonneg m), decide_eq_true (Int.ofNat_lt.mpr (Nat.lt_succ_self m))]
  rfl
inductive WmI (T : List (List Int × List Ele)) (cs : List Int) (o C P Gn D : Addr) (H : AH) (fin : List Int × List Bool × List Nat) : Nat → Loc → AH → Prop
  | mk (i : Nat) (ky : List Int) (gn : List Bool) (pl : List Nat) (st : Int) (μ : Option V) (H' : AH) (hi : i ≤ cs.length) (hb : Bt2 H H' P Gn) (hP : H' P = some (.list (pl.map nV))) (hG : H' Gn = some (.list (gn.map .bool))) (hgn : gn.length = cs.length)
    (hky : ky.length + (cs.length - i) ≤ 900) (hpl : pl.length + (cs.length - i) ≤ 900) (hkn : ky ≠ []) (hw : wm (hasK T) cs (cs.length - i) i ky gn pl st = fin) :
    WmI T cs o C P Gn D H fin (cs.length - i) [some (.ref o), some (.ref C), some (.ref P), some (.ref Gn), some (.ref D), some (tupI ky), some (.int (i : Int)), some (.int st), μ, none] H'
theorem wc_with_marks (L : IsL W) {H0 : AH} {o t lg D C P Gn : Addr} {T : List (List Int × List Ele)} {N : Nat} {cs : List Int} {ps : List Nat} {p : Nat} {gone : List Bool} (x : El H0 o t lg T N) (d : IsData H0 D)
    (hC : H0 C = some (.list (cs.map .int))) (hs : Sub H0 H) (hP0 : H0 P = none) (hG0 : H0 Gn = none) (hP : H P = some (.list ((ps ++ [p]).map nV))) (hG : H Gn = some (.list (gone.map .bool))) (hne : P ≠ Gn)
    (hcs : ∀ c ∈ cs, c ∈ cdL) (hl : cs.length ≤ 400) (hgl : gone.length = cs.length) (hps : ∀ q ∈ ps ++ [p], q < cs.length) (hpl : ps.length < cs.length)
    (h : ∀ H' r, r = wm (hasK T) cs (cs.length - (p + 1)) (p + 1) (codesAt cs (ps ++ [p])) gone (ps ++ [p]) 0 → Bt2 H H' P Gn → H' Gn = some (.list (r.2.1.map .bool)) → H' P = some (.list (r.2.2.map nV)) → Q (tupI r.1) H') :
    WC W (n + 4) 342 [.ref o, .ref C, .ref P, .ref Gn, .ref D] H Q := by
  obtain ⟨T', ep, b1, b2⟩ := x.tab
  have hl1 : cs.length ≤ 1000 := Nat.le_trans hl (by decide)
  have hpl1 : (ps ++ [p]).length ≤ 1000 := by rw [List.length_append]; exact Nat.le_trans hpl hl1
  refine fc_Elements_with_marks L ?_
  unfold ss_Elements_with_marks
  rfl'
  refine we_comp (by rfl) (own1 rfl) (sub1 rfl) ?_
  refine vi_list ?_
  rfl'
  refine ⟨P, _, rfl, hP, ?_⟩
  refine cb_map (f := cdV cs) (by rw [List.length_map]; exact hpl1) hP (fun v hv => ?_) (fun E hE => ?_)
  · obtain ⟨q, hq, rfl⟩ := List.mem_map.mp hv
    have hqc := hps q hq
    rfl'
    refine idx_list (hs _ _ hC) (seq_nat (by rw [List.length_map]; exact hqc)) (by rw [List.getElem?_map, List.getElem?_eq_getElem hqc]; rfl) (small_nat hqc hl1) ?_
    rfl'
    exact ⟨cdV_at hqc, rfl⟩
  refine Eq.symm codes_map ▸ ?_
  have hE0 := hs.new (o := .list ((codesAt cs (ps ++ [p])).map V.int)) hE
  have hbt : Bt2 H (upd H E (.list ((codesAt cs (ps ++ [p])).map V.int))) P Gn := fun b ob e _ _ => uO hE e
  have hP' := uO (o' := .list ((codesAt cs (ps ++ [p])).map V.int)) hE hP
  have hG' := uO (o' := .list ((codesAt cs (ps ++ [p])).map V.int)) hE hG
  have hEE : upd H E (.list ((codesAt cs (ps ++ [p])).map V.int)) E = some (.list ((codesAt cs (ps ++ [p])).map V.int)) := uS _ _ _
  generalize upd H E (.list ((codesAt cs (ps ++ [p])).map V.int)) = H1 at hE0 hbt hP' hG' hEE
  clear hE hP hG
  have hkl : (codesAt cs (ps ++ [p])).length = (ps ++ [p]).length := List.length_map _
  have hkn : codesAt cs (ps ++ [p]) ≠ [] := by simp [codesAt]
  rfl'
  refine wv_tuple_list hEE (by rw [List.length_map, hkl]; exact hpl1) ?_
  rfl'
  refine idx_list hP' (k := -1) (j := ps.length) (v := nV p) (by rw [List.length_map, List.length_append]; exact seq_last _) (by simp) (by decide) ?_
  rfl'
  have hpc : p < cs.length := hps p (by simp)
  have hpp : (ps ++ [p]).length + (cs.length - (p + 1)) ≤ 900 := by rw [List.length_append]; exact Nat.le_trans (Nat.add_le_add (Nat.le_trans hpl hl) (Nat.le_trans (Nat.sub_le _ _) hl)) (by decide)
  rw [← hkl] at hpp
  clear hEE hE0 hpl1 hps hpl
  generalize codesAt cs (ps ++ [p]) = k0 at h hkl hkn hpp
  generalize ps ++ [p] = pl0 at h hP' hkl
  generalize hw0 : wm (hasK T) cs (cs.length - (p + 1)) (p + 1) k0 gone pl0 0 = fin at h
  refine vs_whl (WmI T cs o C P Gn D H fin) (cs.length - (p + 1)) (.mk (p + 1) k0 gone pl0 0 none H1 hpc hbt hP' hG' hgl hpp (hkl ▸ hpp) hkn hw0) ?_
  clear hbt hP' hG' hgl hpp hkl hkn hw0 hpc
  rintro m ρ H' K ⟨i, ky, gn, pl, st, μ, _, hi, hb, hPP, hGG, hgn, hky, hpl, hkyn, hw⟩ hK
  have hs' : Sub H0 H' := hb.sub hs hP0 hG0
  have hCC := hs' _ _ hC
  rfl'
  refine wv_len_list hCC (by rw [List.length_map]; exact hl1) ?_
  rw [List.length_map]
  rfl'
  refine ⟨fun e => ?_, fun e => ?_⟩
  · have hic : i < cs.length := by simpa using e
    clear e
    have hci : cs[i]? = some cs[i] := List.getElem?_eq_getElem hic
    have hc0 := hcs _ (List.getElem_mem hic)
    have j1 := seq_nat (show i < (cs.map V.int).length by rw [List.length_map]; exact hic)
    have j2 : (cs.map V.int)[i]? = some (.int cs[i]) := by rw [List.getElem?_map, hci]; rfl
    have j3 := small_nat hic hl1
    have hgi : gn[i]? = some (gn[i]'(hgn ▸ hic)) := List.getElem?_eq_getElem _
    have g1 := seq_nat (show i < (gn.map V.bool).length by rw [List.length_map, hgn]; exact hic)
    have g2 : (gn.map V.bool)[i]? = some (.bool (gn[i]'(hgn ▸ hic))) := by rw [List.getElem?_map, hgi]; rfl
    have hf : cs.length - i = (cs.length - (i + 1)) + 1 := sb_eq hic
    have hm : cs.length - (i + 1) < cs.length - i := Nat.sub_lt_sub_left hic (Nat.lt_succ_self i)
    have hky' : (ky.length + 1) + (cs.length - (i + 1)) ≤ 900 := ad1 hky hf
    have hpl' : (pl.length + 1) + (cs.length - (i + 1)) ≤ 900 := ad1 hpl hf
    have hky'' : ky.length + (cs.length - (i + 1)) ≤ 900 := Nat.le_trans (Nat.add_le_add_right (Nat.le_succ _) _) hky'
    have hpl'' : pl.length + (cs.length - (i + 1)) ≤ 900 := Nat.le_trans (Nat.add_le_add_right (Nat.le_succ _) _) hpl'
    rw [hf] at hw
    unfold wm at hw
    rw [hci, hgi] at hw
    generalize cs[i] = c at hc0 j2 hw
    generalize gn[i]'(hgn ▸ hic) = g at g2 hw
    clear hci hgi hf hky hpl
    dsimp only at hw
    rfl'
    refine (d.sub hs').me L (by rfl) ?_
    rfl'
    refine idx_list hCC j1 j2 j3 ?_
    rfl'
    refine (wc_Data_get_ccc L (d.sub hs') (cd_tx _ hc0) ?_).wv
    rfl'
    refine ⟨fun e => ?_, fun e => ?_⟩
    · rfl'
      rw [if_pos (by simpa using e)] at hw
      rw [← hw] at h
      refine hK.brk ?_
      rfl'
      exact h _ _ rfl hb hGG hPP
    · rw [if_neg (by simpa using e)] at hw
      clear e
      rfl'
      refine idx_list hGG g1 g2 j3 ?_
      rfl'
      cases g with
      | true =>
        rw [if_neg (by simp)] at hw
        rfl'
        exact hK.next _ hm (.mk (i + 1) ky gn pl st _ _ hic hb hPP hGG hgn hky'' hpl'' hkyn hw)
      | false =>
        rfl'
        refine ⟨fun e => ?_, fun e => ?_⟩
        · rw [if_pos ⟨rfl, by simpa using e⟩] at hw
          clear e
          have t2 : ky.length ≤ 1000 := small4 hky'
          have hkc : ky.map V.int ++ [V.int c] = (ky ++ [c]).map V.int := by rw [List.map_append]; rfl
          have t1 : ky.map V.int ≠ [] := by simpa using hkyn
          have t3 : (ky.map V.int).length ≤ 1000 := by rw [List.length_map]; exact t2
          rfl'
          refine idx_list hCC j1 j2 j3 ?_
          rfl'
          refine op_tup_add t1 (List.cons_ne_nil _ _) t3 (Nat.le_of_ble_eq_true rfl) ?_
          refine Eq.symm hkc ▸ ?_
          rfl'
          refine (x.sub hs').at7 L ?_
          refine ⟨_, cmp_in_t (k := ky ++ [c]) (hs' _ _ b1), ?_⟩
          rw [b2.has]
          rfl'
          refine ⟨fun e => ?_, fun e => ?_⟩
          · rw [if_pos e] at hw
            rfl'
            refine idx_list hCC j1 j2 j3 ?_
            rfl'
            refine op_tup_add t1 (List.cons_ne_nil _ _) t3 (Nat.le_of_ble_eq_true rfl) ?_
            refine Eq.symm hkc ▸ ?_
            rfl'
            refine ⟨_, set_list hGG (by rw [List.length_map, hgn]; exact hl1) (by rw [List.length_map, hgn]; exact hic), ?_⟩
            rfl'
            have hP2 : upd H' Gn (.list ((gn.map V.bool).set i (.bool true))) P = some (.list (pl.map nV)) := by rw [upd_ne _ _ hne]; exact hPP
            refine me_append hP2 ?_
            rfl'
            refine wv_append hP2 (lmap (small4 hpl')) ?_
            rfl'
            have l1 : (ky ++ [c]).length = ky.length + 1 := List.length_append
            have l2 : (pl ++ [i]).length = pl.length + 1 := List.length_append
            refine hK.next _ hm (.mk (i + 1) (ky ++ [c]) (gn.set i true) (pl ++ [i]) st _ _ hic (fun b ob e1 e2 e3 => ?_) ?_ ?_ (by rw [List.length_set]; exact hgn) (l1 ▸ hky') (l2 ▸ hpl') (by simp) hw)
            · rw [upd_ne _ _ e2, upd_ne _ _ e3]; exact hb b ob e1 e2 e3
            · rw [uS, List.map_append]; rfl
            · rw [upd_ne _ _ (Ne.symm hne), uS, List.map_set]
          · rw [if_neg (by rw [e]; decide)] at hw
            rfl'
            exact hK.next _ hm (.mk (i + 1) ky gn pl (rk c) _ _ hic hb hPP hGG hgn hky'' hpl'' hkyn hw)
        · rw [if_neg (fun q => by simp at e; exact absurd q.2 (Int.not_lt.mpr e))] at hw
          clear e
          rfl'
          exact hK.next _ hm (.mk (i + 1) ky gn pl st _ _ hic hb hPP hGG hgn hky'' hpl'' hkyn hw)
  · have hic : cs.length = i := by
      exact Nat.le_antisymm (Nat.not_lt.mp (by simpa using e)) hi
    rfl'
    rw [hic, Nat.sub_self] at hw
    unfold wm at hw
    rw [← hw] at h
    exact h _ _ rfl hb hGG hPP
end
section
variable {W : Wd} {n : Nat} {cx : Cx} {ρ : Loc} {H : AH} {Q : V → AH → Prop}
noncomputable def big (has : List Int → Bool) (cs : List Int) (lv : List Nat) : Nat → Nat
  | 0 => 0
  | s + 1 => if has (codesAt cs (lv.take (s + 1))) then s + 1 else big has cs lv s
theorem big_le {has : List Int → Bool} {cs : List Int} {lv : List Nat} : ∀ s, big has cs lv s ≤ s
  | 0 => Nat.le_refl _
  | s + 1 => by
    unfold big
    split
    · exact Nat.le_refl _
    · exact Nat.le_succ_of_le (big_le s)
theorem big_has {has : List Int → Bool} {cs : List Int} {lv : List Nat} : ∀ s, 0 < big has cs lv s → has (codesAt cs (lv.take (big has cs lv s))) = true
  | 0, h => by unfold big at h; lia
  | s + 1, h => by
    unfold big at h ⊢
    split
    · assumption
    · rename_i q; rw [if_neg q] at h; exact big_has s h
theorem big_cut {has : List Int → Bool} {cs : List Int} {lv : List Nat} {m : Nat} : ∀ s, m ≤ s → (∀ k, m < k → k ≤ s → has (codesAt cs (lv.take k)) = false) → big has cs lv s = big has cs lv m
  | 0, h, _ => by rw [Nat.le_zero.mp h]
  | s + 1, h, k => by
    rcases Nat.lt_or_ge m (s + 1) with q | q
    · have : big has cs lv (s + 1) = big has cs lv s := by
        rw [big, if_neg (by rw [k (s + 1) q (Nat.le_refl _)]; decide)]
      rw [this]
      exact big_cut s (by lia) fun j h1 h2 => k j h1 (by lia)
    · have : m = s + 1 := by lia
      rw [this]
theorem big_take {has : List Int → Bool} {cs : List Int} {lv : List Nat} {m : Nat} : ∀ s, s ≤ m → big has cs (lv.take m) s = big has cs lv s
  | 0, _ => rfl
  | s + 1, h => by
    unfold big
    rw [List.take_take, Nat.min_eq_left h, big_take s (by lia)]
noncomputable def mt (T : List (List Int × List Ele)) (cs : List Int) (gone : List Bool) (i : Nat) : List Ele × List Bool × List Nat × Nat :=
  let lv := liveAll gone i
  let s := big (hasK T) cs lv lv.length
  if s = 0 then ([(baseOf (cs[i]?.getD 0), 32, 2, false), (32768 + cs[i]?.getD 0, 0, 0, false)], gone, [i], i + 1)
  else
    let p := lv[s - 1]?.getD 0
    let r := wm (hasK T) cs (cs.length - (p + 1)) (p + 1) (codesAt cs (lv.take s)) gone (lv.take s) 0
    ((alook T r.1).getD [], r.2.1, r.2.2, p + 1)
theorem alook_mem {α : Type} {T : List (List Int × α)} {k : List Int} {v : α} (h : alook T k = some v) : (k, v) ∈ T := by
  unfold alook at h
  obtain ⟨p, hp, rfl⟩ := Option.map_eq_some_iff.mp h
  have := List.find?_some hp
  simp at this
  subst this
  exact List.mem_of_find?_eq_some hp
theorem liveAll_lt {gone : List Bool} {i j : Nat} (h : j ∈ liveAll gone i) : j < gone.length ∧ i ≤ j := by
  unfold liveAll at h
  have := (List.mem_filter.mp h).1
  rw [List.mem_range'_1] at this
  exact ⟨Nat.lt_of_not_le fun q => absurd (Nat.sub_lt_left_of_lt_add this.1 this.2) (Nat.not_lt.mpr (Nat.sub_le_sub_right q i)), this.1⟩
theorem live_big {G : List (Int × Nat)} {T : List (List Int × List Ele)} (x : LonOk G T) {cs : List Int} {gone : List Bool} {i : Nat} {c : Int} (hc : cs[i]? = some c) (hg : gone[i]? = some false) :
    big (hasK T) cs (live gone i (max 1 ((alook G c).getD 0))) (live gone i (max 1 ((alook G c).getD 0))).length = big (hasK T) cs (liveAll gone i) (liveAll gone i).length := by
  have h0 := liveAll_step hg
  simp only [Bool.false_eq_true, ↓reduceIte] at h0
  unfold live
  rw [List.length_take]
  generalize hm : max 1 ((alook G c).getD 0) = m
  rw [big_take _ (Nat.min_le_left _ _)]
  refine (big_cut _ (Nat.min_le_right _ _) fun k h1 h2 => ?_).symm
  have hk : m < k := by
    rcases Nat.lt_or_ge m (liveAll gone i).length with q | q
    · rwa [Nat.min_eq_left (Nat.le_of_lt q)] at h1
    · rw [Nat.min_eq_right q] at h1; exact absurd h2 (Nat.not_le.mpr h1)
  cases q : hasK T (codesAt cs ((liveAll gone i).take k)) with
  | false => rfl
  | true =>
    unfold hasK at q
    obtain ⟨es, he⟩ := Option.isSome_iff_exists.mp q
    obtain ⟨c', r, m', e1, e2, e3⟩ := x _ (alook_mem he)
    simp only at e1 e3
    rw [h0] at e1
    have hk0 : k = (k - 1) + 1 := pr_eq (Nat.ne_of_gt (Nat.lt_of_le_of_lt (Nat.zero_le m) hk))
    rw [hk0, List.take_succ_cons] at e1
    unfold codesAt at e1
    rw [List.map_cons, hc] at e1
    simp only [Option.getD_some, List.cons.injEq] at e1
    rw [← e1.1] at e2
    rw [e2] at hm
    simp only [Option.getD_some] at hm
    rw [show (codesAt cs ((liveAll gone i).take k)).length = k from (List.length_map _).trans (List.length_take_of_le h2)] at e3
    exact absurd (Nat.le_trans e3 (Nat.le_trans (Nat.le_max_right 1 m') (Nat.le_of_eq hm))) (Nat.not_le.mpr hk)
theorem wm_has {has : List Int → Bool} {cs : List Int} : ∀ {f i : Nat} {key : List Int} {gone : List Bool} {ps : List Nat} {st : Int}, has key = true → has (wm has cs f i key gone ps st).1 = true
  | 0, _, _, _, _, _, h => h
  | f + 1, i, key, gone, ps, st, h => by
    unfold wm
    split
    · exact h
    · split
      · exact h
      · split
        · split
          · exact wm_has (by assumption)
          · exact wm_has h
        · exact wm_has h
end
section
variable {W : Wd} {n : Nat} {cx : Cx} {ρ : Loc} {H : AH} {Q : V → AH → Prop}
noncomputable def Bt1 (H H' : AH) (G : Addr) : Prop := ∀ b ob, H b = some ob → b ≠ G → H' b = some ob
theorem Bt1.sub {H0 H H' : AH} {G : Addr} (x : Bt1 H H' G) (s : Sub H0 H) (h2 : H0 G = none) : Sub H0 H' := fun b ob e => x b ob (s _ _ e) (by rintro rfl; rw [h2] at e; cases e)
theorem natV_eq {l : List Nat} : (l.map fun (j : Nat) => V.int (j : Int)) = l.map nV := rfl
theorem mt_zero {T : List (List Int × List Ele)} {cs : List Int} {gone : List Bool} {i : Nat} {c : Int} (h : big (hasK T) cs (liveAll gone i) (liveAll gone i).length = 0) (hc : cs[i]? = some c) : mt T cs gone i = ([(baseOf c, 32, 2, false), (32768 + c, 0, 0, false)], gone, [i], i + 1) := by
  unfold mt
  dsimp only
  rw [h, if_pos rfl, hc]; rfl
theorem mt_succ {T : List (List Int × List Ele)} {cs : List Int} {gone : List Bool} {i k p : Nat} {r : List Int × List Bool × List Nat} (h : big (hasK T) cs (liveAll gone i) (liveAll gone i).length = k + 1) (hp : (liveAll gone i)[k]? = some p)
    (hr : r = wm (hasK T) cs (cs.length - (p + 1)) (p + 1) (codesAt cs ((liveAll gone i).take (k + 1))) gone ((liveAll gone i).take (k + 1)) 0) : mt T cs gone i = ((alook T r.1).getD [], r.2.1, r.2.2, p + 1) := by
  unfold mt
  dsimp only
  rw [h, if_neg (Nat.succ_ne_zero k), Nat.add_sub_cancel, hp, hr]; rfl
theorem live_ok {G : List (Int × Nat)} {T : List (List Int × List Ele)} (x : LonOk G T) {cs : List Int} {gone : List Bool} {i : Nat} {c : Int} (hc : cs[i]? = some c) (hg : gone[i]? = some false) (hgl : gone.length = cs.length) {lv : List Nat} (e : live gone i (max 1 ((alook G c).getD 0)) = lv) :
    big (hasK T) cs lv lv.length = big (hasK T) cs (liveAll gone i) (liveAll gone i).length ∧ (∀ j ∈ lv, j < cs.length) ∧ lv.length ≤ cs.length ∧ ∀ s, s ≤ lv.length → lv.take s = (liveAll gone i).take s ∧ ∀ j, j < s → lv[j]? = (liveAll gone i)[j]? := by
  subst e
  refine ⟨live_big x hc hg, fun j hj => by rw [← hgl]; exact (liveAll_lt (List.mem_of_mem_take hj)).1, ?_, fun s hs => ?_⟩
  · unfold live
    rw [List.length_take]
    exact Nat.le_trans (Nat.min_le_right _ _) (Nat.le_trans (liveAll_len _ _) (hgl ▸ Nat.sub_le _ _))
  · unfold live at hs ⊢
    rw [List.length_take] at hs
    refine ⟨by rw [List.take_take, Nat.min_eq_left (Nat.le_trans hs (Nat.min_le_left _ _))], fun j hj => List.getElem?_take_of_lt (Nat.lt_of_lt_of_le hj (Nat.le_trans hs (Nat.min_le_left _ _)))⟩
inductive MtI (T : List (List Int × List Ele)) (cs : List Int) (lv : List Nat) (o C Gn D Lv : Addr) (i : Nat) (H1 : AH) : Nat → Loc → AH → Prop
  | mk (s : Nat) (H' : AH) (hs : s ≤ lv.length) (h1 : Sub H1 H') (h2 : big (hasK T) cs lv s = big (hasK T) cs lv lv.length) :
    MtI T cs lv o C Gn D Lv i H1 s [some (.ref o), some (.ref C), some (.int i), some (.ref Gn), some (.ref D), some (.ref Lv), some (.int (s : Int)), none, none, none] H'
inductive MtE (T : List (List Int × List Ele)) (cs : List Int) (lv : List Nat) (o C Gn D Lv : Addr) (i : Nat) (H1 : AH) : AF → Loc → AH → Prop
  | mk (s : Nat) (H' : AH) (hs : s ≤ lv.length) (h1 : Sub H1 H') (h2 : s = big (hasK T) cs lv lv.length) :
    MtE T cs lv o C Gn D Lv i H1 .next [some (.ref o), some (.ref C), some (.int i), some (.ref Gn), some (.ref D), some (.ref Lv), some (.int (s : Int)), none, none, none] H'
theorem wc_match (L : IsL W) {HX H0 : AH} {o t lg D C Gn : Addr} {T : List (List Int × List Ele)} {N : Nat} {cs : List Int} {i : Nat} {c : Int} {gone : List Bool} (x' : El HX o t lg T N) (hX : Sub HX H0) (d : IsData H0 D)
    (hC : H0 C = some (.list (cs.map .int))) (hs : Sub H0 H) (hG0 : H0 Gn = none) (hG : H Gn = some (.list (gone.map .bool)))
    (hcs : ∀ c ∈ cs, c ∈ cdL) (hl : cs.length ≤ 400) (hgl : gone.length = cs.length) (hc : cs[i]? = some c) (hg : gone[i]? = some false)
    (h : ∀ H' y E P, Bt1 H H' Gn → H y = none → (HX E ≠ none ∨ H E = none) → CM H' y E P (mt T cs gone i).2.2.2 → H' E = some (.list ((mt T cs gone i).1.map eV)) → H' P = some (.list ((mt T cs gone i).2.2.1.map nV)) →
      H' Gn = some (.list ((mt T cs gone i).2.1.map .bool)) → Q (.ref y) H') :
    WC W (n + 5) 337 [.ref o, .ref C, .int i, .ref Gn, .ref D] H Q := by
  have x := x'.sub hX
  obtain ⟨T', ep, b1, b2⟩ := x.tab
  obtain ⟨G, c1, c2, _⟩ := x.lon
  have hl1 : cs.length ≤ 1000 := Nat.le_trans hl (by decide)
  generalize hmt : mt T cs gone i = r at h
  generalize hlv : live gone i (max 1 ((alook G c).getD 0)) = lv
  obtain ⟨hb, hlt, hll, htk⟩ := live_ok c2 hc hg hgl hlv
  have hic := (List.getElem?_eq_some_iff.mp hc).1
  have hci : (cs.map V.int)[i]? = some (.int c) := by rw [List.getElem?_map, hc]; rfl
  have i1 := seq_nat (show i < (cs.map V.int).length by rw [List.length_map]; exact hic)
  have i2 := small_nat hic hl1
  have hcc := hcs _ (List.mem_of_getElem? hc)
  clear c2 hg
  refine fc_Elements_match L ?_
  unfold ss_Elements_match
  rfl'
  refine (x.sub hs).at8 L ?_
  refine me_get_i (hs _ _ c1) ?_
  rfl'
  refine idx_list (hs _ _ hC) i1 hci i2 ?_
  rfl'
  refine wv_get_id (hs _ _ c1) ?_
  rw [gV_getD]
  rfl'
  refine wv_max2 ?_
  rw [max1]
  rfl'
  refine wc_coll_live L hG (Nat.le_trans (Nat.le_of_eq hgl) (Nat.le_trans hl (by decide))) (Nat.le_trans (Nat.le_of_lt hic) (Nat.le_of_eq hgl.symm)) fun Lv hLv => ?_
  refine Eq.symm natV_eq ▸ ?_
  refine Eq.symm hlv ▸ ?_
  clear hlv
  have s2 := (Sub.refl H).new (o := .list (lv.map nV)) hLv
  have hL1 : upd H Lv (.list (lv.map nV)) Lv = some (.list (lv.map nV)) := uS _ _ _
  generalize upd H Lv (.list (lv.map nV)) = H1 at s2 hL1
  have s1 := hs.trans s2
  have hll1 := Nat.le_trans hll hl1
  clear c1
  rfl'
  refine wv_len_list hL1 (by rw [List.length_map]; exact hll1) ?_
  rw [List.length_map]
  rfl'
  refine WS.mono (Q := MtE T cs lv o C Gn D Lv i H1) (vs_whl (MtI T cs lv o C Gn D Lv i H1) lv.length (.mk lv.length H1 (Nat.le_refl _) (Sub.refl _) rfl) ?_) ?_
  · rintro m ρ H2 K ⟨_, hsl, s3, hbs⟩ hK
    have s13 := s1.trans s3
    rfl'
    refine ⟨fun e => ?_, fun e => ?_⟩
    · obtain ⟨k, rfl⟩ : ∃ k, m = k + 1 := ⟨m - 1, pr_eq (Nat.ne_of_gt (by simpa using e))⟩
      clear e
      rfl'
      refine we_comp (by rfl) (own1 rfl) (sub1 rfl) ?_
      refine vi_list ?_
      rfl'
      refine sl_list_to (s3 _ _ hL1) (by rw [List.length_map]; exact hll1) fun P hP => ?_
      refine ⟨P, _, rfl, uS _ _ _, ?_⟩
      rw [← List.map_take]
      refine cb_map (f := cdV cs) (by rw [List.length_map]; exact Nat.le_trans (List.length_take_le' _ _) hll1) (uS _ _ _) (fun v hv => ?_) (fun E hE => ?_)
      · obtain ⟨q, hq, rfl⟩ := List.mem_map.mp hv
        have hqc := hlt q (List.mem_of_mem_take hq)
        rfl'
        refine idx_list (uO hP (s13 _ _ hC)) (seq_nat (by rw [List.length_map]; exact hqc)) (by rw [List.getElem?_map, List.getElem?_eq_getElem hqc]; rfl) (small_nat hqc hl1) ?_
        rfl'
        exact ⟨cdV_at hqc, rfl⟩
      refine Eq.symm codes_map ▸ ?_
      have s4 := ((Sub.refl H2).new hP).new (o := .list ((codesAt cs (lv.take (k + 1))).map .int)) hE
      have hE2 : upd (upd H2 P (.list ((lv.take (k + 1)).map nV))) E (.list ((codesAt cs (lv.take (k + 1))).map .int)) E = some (.list ((codesAt cs (lv.take (k + 1))).map .int)) := uS _ _ _
      generalize upd (upd H2 P (.list ((lv.take (k + 1)).map nV))) E (.list ((codesAt cs (lv.take (k + 1))).map .int)) = H3 at s4 hE2
      clear hE hP
      rfl'
      refine wv_tuple_list hE2 (by unfold codesAt; rw [List.length_map, List.length_map]; exact Nat.le_trans (List.length_take_le' _ _) hll1) ?_
      rfl'
      refine (x.sub (s13.trans s4)).at7 L ?_
      refine ⟨_, cmp_notIn (cmp_in_t (k := codesAt cs (lv.take (k + 1))) ((s13.trans s4) _ _ b1)), ?_⟩
      rw [b2.has]
      rfl'
      refine ⟨fun e => ?_, fun e => ?_⟩
      · rfl'
        with_reducible conv => whnf
        rw [show (((k + 1 : Nat) : Int) - 1) = (k : Int) from Int.add_sub_cancel (k : Int) 1]
        refine hK.next k (Nat.lt_succ_self k) (.mk k H3 (Nat.le_of_succ_le hsl) (s3.trans s4) ?_)
        rw [← hbs, big, if_neg (by simpa using e)]
      · rfl'
        refine .mk (k + 1) H3 hsl (s3.trans s4) ?_
        rw [← hbs, big, if_pos (by simpa using e)]
    · rfl'
      refine .mk m H2 hsl s3 ?_
      have : m = 0 := Nat.eq_zero_of_not_pos (show ¬ 0 < m by simpa using e)
      subst this
      rw [← hbs]; rfl
  rintro a ρ' H2 ⟨s, _, hsl, s3, hsb⟩
  have s13 := s1.trans s3
  have s03 := s2.trans s3
  have hG2 := s03 _ _ hG
  have hL2 := s3 _ _ hL1
  rw [hb] at hsb
  obtain ⟨ht1, ht2⟩ := htk s hsl
  rfl'
  refine ⟨fun e => ?_, fun e => ?_⟩
  · have : s = 0 := by simpa using e
    subst this
    rw [mt_zero hsb.symm hc] at hmt
    subst hmt
    clear e ht1 ht2 hsl hll hlt htk
    rfl'
    refine (x.sub s13).me L (by rfl) ?_
    rfl'
    refine idx_list (s13 _ _ hC) i1 hci i2 ?_
    rfl'
    refine (wc_implicit_of L (x.sub s13) hcc fun H3 E s4 hE1 hE2 => ?_).wv
    rfl'
    intro P hP
    rfl'
    have s6 := (Sub.refl H3).new (o := .list [.int (i : Int)]) hP
    refine wv_CollMatch (onw := i + 1) L fun y H4 s5 hy cm => ?_
    refine h H4 y E P (fun b ob e _ => s5 _ _ (s6 _ _ (s4 _ _ (s03 _ _ e)))) (((s03.trans s4).trans s6).none hy) (.inr (s03.none hE1)) cm (s5 _ _ (s6 _ _ hE2)) (s5 _ _ (uS _ _ _)) (s5 _ _ (s6 _ _ (s4 _ _ hG2)))
  · have hs0 : ¬ s = 0 := by simpa using e
    obtain ⟨k, rfl⟩ : ∃ k, s = k + 1 := ⟨s - 1, pr_eq hs0⟩
    clear e hs0
    have hp := ht2 k (Nat.lt_succ_self k)
    have hlk : lv[k]? = some lv[k] := List.getElem?_eq_getElem hsl
    rw [hlk] at hp
    have hpl := hlt _ (List.getElem_mem hsl)
    have htk' : lv.take (k + 1) = lv.take k ++ [lv[k]] := by rw [List.take_add_one, hlk]; rfl
    generalize lv[k] = p at hpl htk' hlk hp
    clear ht2 htk
    rfl'
    refine sl_list_to hL2 (by rw [List.length_map]; exact hll1) fun P hP => ?_
    rw [← List.map_take, htk']
    have s4 := (Sub.refl H2).new (o := .list ((lv.take k ++ [p]).map nV)) hP
    have hP2 : upd H2 P (.list ((lv.take k ++ [p]).map nV)) P = some (.list ((lv.take k ++ [p]).map nV)) := uS _ _ _
    have hne : P ≠ Gn := by rintro rfl; rw [hP] at hG2; cases hG2
    have hPL : P ≠ Lv := by rintro rfl; rw [hP] at hL2; cases hL2
    have hLG : Lv ≠ Gn := by rintro rfl; rw [hLv] at hG; cases hG
    have hPn := s03.none hP
    replace hP := s13.none hP
    generalize upd H2 P (.list ((lv.take k ++ [p]).map nV)) = H3 at s4 hP2
    have hG3 := s4 _ _ hG2
    have s14 := s13.trans s4
    have s04 := s03.trans s4
    rfl'
    refine (x.sub s14).me L (by rfl) ?_
    rfl'
    refine (wc_with_marks L x d hC s14 hP hG0 hP2 hG3 hne hcs hl hgl (fun q hq => ?_) (Nat.lt_of_le_of_lt (List.length_take_le _ _) (Nat.lt_of_lt_of_le hsl hll)) fun H4 r' hr hbt hGr hPr => ?_).wv
    · rw [← htk'] at hq; exact hlt q (List.mem_of_mem_take hq)
    have hk : hasK T r'.1 = true := by
      refine Eq.symm hr ▸ ?_
      refine wm_has ?_
      refine htk' ▸ ?_; refine Eq.symm ht1 ▸ ?_
      have := big_has (has := hasK T) (cs := cs) (lv := liveAll gone i) (liveAll gone i).length (by rw [← hsb]; exact Nat.succ_pos _)
      rwa [← hsb] at this
    rw [mt_succ hsb.symm hp.symm (r := r') (by rw [← ht1, htk']; exact hr)] at hmt
    subst hmt
    clear hr hsb hp ht1 htk'
    have s15 : Sub H0 H4 := hbt.sub s14 hP hG0
    unfold hasK at hk
    rcases b2.look r'.1 with ⟨_, e2⟩ | ⟨E, es, e1, e2, e3⟩
    · rw [e2] at hk; cases hk
    have hLv4 := hbt _ _ (s4 _ _ hL2) (Ne.symm hPL) hLG
    rw [e2] at h
    clear hk
    rfl'
    refine (x.sub s15).at7 L ?_
    rfl'
    refine idx_tdict (s15 _ _ b1) e1 ?_
    rfl'
    with_reducible conv => whnf
    rw [show (((k + 1 : Nat) : Int) - 1) = (k : Int) from Int.add_sub_cancel (k : Int) 1]
    refine idx_list hLv4 (j := k) (v := nV p) (seq_nat (by rw [List.length_map]; exact hsl)) (by rw [List.getElem?_map, hlk]; rfl) (small_nat hsl hll1) ?_
    rfl'
    refine wv_CollMatch (onw := p + 1) L fun y H5 s5 hy cm => ?_
    have bt : Bt1 H H4 Gn := fun b ob e ne => hbt _ _ (s04 _ _ e) (by rintro rfl; rw [hPn] at e; cases e) ne
    have hXE : HX E ≠ none := by
      obtain ⟨T'', ep', d1, d2⟩ := x'.tab
      have := (hX _ _ d1).symm.trans b1
      cases this
      rcases d2.look r'.1 with ⟨g, _⟩ | ⟨E', es', g1, g2, g3⟩
      · rw [g] at e1; cases e1
      · rw [g1] at e1; cases e1; rw [g3]; simp
    refine h H5 y E P (fun b ob e ne => s5 _ _ (bt _ _ e ne)) ?_ (.inl hXE) cm (s5 _ _ (s15 _ _ e3)) (s5 _ _ hPr) (s5 _ _ hGr)
    cases q : H y with
    | none => rfl
    | some ob =>
      by_cases e : y = Gn
      · subst e; rw [hGr] at hy; cases hy
      · rw [bt _ _ q e] at hy; cases hy
end
section
variable {W : Wd} {n : Nat} {cx : Cx} {ρ : Loc} {H : AH} {Q : V → AH → Prop}
noncomputable def insR {α : Type} (r : α → Int) (x : α) : List α → List α
  | [] => [x]
  | y :: l => if 0 < r x ∧ r x < r y then y :: insR r x l else x :: y :: l
theorem insR_comm {α : Type} {r : α → Int} {a b : α} (h : 0 < r b) (h2 : r b < r a) : ∀ l : List α, insR r b (insR r a l) = insR r a (insR r b l)
  | [] => by
    rw [show insR r a [] = [a] from rfl, show insR r b [] = [b] from rfl, insR, if_pos ⟨h, h2⟩, show insR r b [] = [b] from rfl, show insR r a [b] = a :: [b] from by rw [insR, if_neg (by lia)]]
  | y :: l => by
    by_cases h1 : r a < r y
    · rw [insR, if_pos ⟨by lia, h1⟩, insR, if_pos ⟨h, by lia⟩, insR_comm h h2 l]
      rw [show insR r b (y :: l) = y :: insR r b l from by rw [insR, if_pos ⟨h, by lia⟩], insR, if_pos ⟨by lia, h1⟩]
    · rw [show insR r a (y :: l) = a :: y :: l from by rw [insR, if_neg (by lia)], show insR r b (a :: y :: l) = a :: insR r b (y :: l) from by rw [insR, if_pos ⟨h, h2⟩]]
      by_cases h3 : r b < r y
      · rw [show insR r b (y :: l) = y :: insR r b l from by rw [insR, if_pos ⟨h, h3⟩], insR, if_neg (by lia)]
      · rw [show insR r b (y :: l) = b :: y :: l from by rw [insR, if_neg (by lia)], insR, if_neg (by lia)]
noncomputable def insAll {α : Type} (r : α → Int) (l : List α) : List α := (l.foldl (fun acc x => insR r x acc) []).reverse
theorem insAll_swap {α : Type} {r : α → Int} {a b : α} (h : 0 < r b) (h2 : r b < r a) (l m : List α) : insAll r (l ++ a :: b :: m) = insAll r (l ++ b :: a :: m) := by
  unfold insAll
  rw [List.foldl_append, List.foldl_append]
  simp only [List.foldl_cons]
  rw [insR_comm h h2]
noncomputable def NoInv {α : Type} (r : α → Int) (l : List α) : Prop := ∀ (i : Nat) (x y : α), l[i]? = some x → l[i + 1]? = some y → ¬ (0 < r y ∧ r y < r x)
theorem insAll_ord {α : Type} {r : α → Int} : ∀ {m l : List α}, NoInv r (l.reverse ++ m) → (m.foldl (fun acc x => insR r x acc) l).reverse = l.reverse ++ m
  | [], l, _ => by simp
  | x :: m, l, h => by
    rw [List.foldl_cons]
    have e : insR r x l = x :: l := by
      cases l with
      | nil => rfl
      | cons y l =>
        rw [insR, if_neg]
        refine h l.length y x ?_ ?_
        · simp
        · simp
    rw [e, insAll_ord (by simpa using h)]
    simp
end
section
variable {W : Wd} {n : Nat} {cx : Cx} {ρ : Loc} {H : AH} {Q : V → AH → Prop}
noncomputable def mapOf (c : Int) : V := if c = 224 then .tup [.int 97, .int 768] else if c = 225 then .tup [.int 97, .int 769] else .none
theorem cmp_nes0 {H : AH} : CmpOk W n .NotEq (.str "") (.str "") H false := by
  have h := cmp_ned (W := W) (n := n) (H := H) (.str "") (.str "") (by decide +kernel) (by decide +kernel) (by decide +kernel)
  have e : (!PyData.eqv (.str "") (.str "")) = false := by decide +kernel
  rwa [e] at h
theorem tx_small : ∀ c ∈ txL, c < 44032 ∧ 0 ≤ c := by decide
theorem dm_cases (c : Int) : (dmOf c = .none ∧ mapOf c = .none) ∨ ∃ b, dmOf c = dmT b ∧ mapOf c = .tup [.int 97, .int b] := by
  unfold dmOf mapOf
  by_cases h : c = 224
  · rw [if_pos h, if_pos h]; exact .inr ⟨_, rfl, rfl⟩
  · rw [if_neg h, if_neg h]
    by_cases h : c = 225
    · rw [if_pos h, if_pos h]; exact .inr ⟨_, rfl, rfl⟩
    · rw [if_neg h, if_neg h]; exact .inl ⟨rfl, rfl⟩
theorem wc_form_mapping (L : IsL W) {D : Addr} {c : Int} (d : IsData H D) (hc : c ∈ txL) (h : Q (mapOf c) H) : WC W (n + 4) 96 [.int c, .ref D, .bool false] H Q := by
  refine fc_form_mapping (n := n + 3) L ?_
  unfold ss_form_mapping
  rfl'
  refine wc_hangul_parts (n := n + 1) L (tx_small c hc) ?_
  rfl'
  refine d.me L (by rfl) ?_
  rfl'
  refine (wc_Data_get_dm L d hc ?_).wv
  rcases dm_cases c with ⟨e1, e2⟩ | ⟨b, e1, e2⟩
  · (refine Eq.symm e1 ▸ ?_)
    rw [e2] at h
    rfl'
    exact h
  · (refine Eq.symm e1 ▸ ?_)
    rw [e2] at h
    unfold dmT
    rfl'
    refine idx_tupN (by decide) (by decide) (by rfl) ?_
    rfl'
    refine ⟨_, cmp_nes0, ?_⟩
    rfl'
    refine idx_tupN (by decide) (by decide) (by rfl) ?_
    rfl'
    exact h
end
section
variable {W : Wd} {n : Nat} {cx : Cx} {ρ : Loc} {H : AH} {Q : V → AH → Prop}
mutual
noncomputable def pd : V → Option PyData
  | .none => some .none
  | .bool b => some (.bool b)
  | .int i => some (.int i)
  | .tup l => (pds l).map .tuple
  | _ => none
noncomputable def pds : List V → Option (List PyData)
  | [] => some []
  | v :: l => match pd v, pds l with | some d, some ds => some (d :: ds) | _, _ => none
end
mutual
theorem den_pd : ∀ {v : V} {d : PyData}, pd v = some d → Den H v d ∧ d.canLay0 = true
  | .none, d, h => by unfold pd at h; cases h; exact ⟨.none, rfl⟩
  | .bool b, d, h => by unfold pd at h; cases h; exact ⟨.bool b, rfl⟩
  | .int i, d, h => by unfold pd at h; cases h; exact ⟨.int i, rfl⟩
  | .tup l, d, h => by
    unfold pd at h
    obtain ⟨ds, h1, rfl⟩ := Option.map_eq_some_iff.mp h
    obtain ⟨a, b⟩ := den_pds h1
    exact ⟨a, by rw [PyData.canLay0]; exact b⟩
  | .str s, d, h => by unfold pd at h; cases h
  | .ref a, d, h => by unfold pd at h; cases h
theorem den_pds : ∀ {l : List V} {ds : List PyData}, pds l = some ds → Den H (.tup l) (.tuple ds) ∧ PyData.canLayAll0 ds = true
  | [], ds, h => by unfold pds at h; cases h; exact ⟨.tupNil, rfl⟩
  | v :: l, ds, h => by
    unfold pds at h
    cases h1 : pd v with
    | none => rw [h1] at h; cases h
    | some d =>
      cases h2 : pds l with
      | none => rw [h1, h2] at h; cases h
      | some es =>
        rw [h1, h2] at h; cases h
        obtain ⟨a, b⟩ := den_pd h1
        obtain ⟨c, e⟩ := den_pds h2
        exact ⟨.tupCons a c, by rw [PyData.canLayAll0, b, e]; rfl⟩
end
theorem cmp_ne_nil {a b : Addr} {l : List V} (h1 : H a = some (.list l)) (h2 : H b = some (.list [])) (hp : ∃ ds, pds l = some ds) : CmpOk W n .NotEq (.ref a) (.ref b) H (!l.isEmpty) := by
  obtain ⟨ds, hd⟩ := hp
  obtain ⟨x, y⟩ := den_pds (H := H) hd
  have h := cmp_ned (W := W) (n := n) (Den.list h1 x) (Den.list h2 .tupNil) (by rw [PyData.canLay0]; exact y) rfl (Nat.le_trans (Nat.min_le_right _ _) (by decide))
  have e : (!PyData.eqv (.list ds) (.list [])) = !l.isEmpty := by
    cases l with
    | nil => unfold pds at hd; cases hd; decide +kernel
    | cons v l =>
      unfold pds at hd
      split at hd
      · cases hd; rfl
      · cases hd
  rwa [e] at h
end
section
variable {W : Wd} {n : Nat} {cx : Cx} {ρ : Loc} {H : AH} {Q : V → AH → Prop}
noncomputable def expL (c : Int) : List Int := if c = 224 then [97, 768] else if c = 225 then [97, 769] else [c]
inductive ExpI (c : Int) : Nat → List V → List V → List Int → Prop where
  | start : ExpI c 5 [.int c] [] []
  | plain : mapOf c = .none → ExpI c 0 [] [] [c]
  | two {b : Int} : mapOf c = .tup [.int 97, .int b] → (b = 768 ∨ b = 769) → ExpI c 4 [.none, .int b, .int 97] [.int c] []
  | one {b : Int} : mapOf c = .tup [.int 97, .int b] → (b = 768 ∨ b = 769) → ExpI c 3 [.none, .int b] [.int c] [97]
  | zero {b : Int} : mapOf c = .tup [.int 97, .int b] → (b = 768 ∨ b = 769) → ExpI c 2 [.none] [.int c] [97, b]
  | done {b : Int} : mapOf c = .tup [.int 97, .int b] → (b = 768 ∨ b = 769) → ExpI c 1 [] [] [97, b]
theorem rev_adj : Builtin.Slice.sliceAdjust none none ((some (-1 : Int)).getD 1) ((2 : Nat) : Int) = (1, -1) := by decide +kernel
theorem rev_pl : Builtin.Slice.slicePlaces 1 (-1) ((some (-1 : Int)).getD 1) = 2 := by decide +kernel
theorem exp_none {c : Int} (h : mapOf c = .none) : expL c = [c] := by
  unfold mapOf at h
  unfold expL
  split at h
  · cases h
  · split at h
    · cases h
    · rename_i h1 h2; rw [if_neg h1, if_neg h2]
theorem exp_tup {c b : Int} (h : mapOf c = .tup [.int 97, .int b]) : expL c = [97, b] := by
  unfold mapOf at h
  unfold expL
  split at h
  · rename_i h1; rw [if_pos h1]; cases h; rfl
  · split at h
    · rename_i h1 h2; rw [if_neg h1, if_pos h2]; cases h; rfl
    · cases h
theorem map_cases (c : Int) : mapOf c = .none ∨ ∃ b, mapOf c = .tup [.int 97, .int b] ∧ (b = 768 ∨ b = 769) := by
  unfold mapOf
  split
  · exact .inr ⟨768, rfl, .inl rfl⟩
  · split
    · exact .inr ⟨769, rfl, .inr rfl⟩
    · exact .inl rfl
inductive FxI (c : Int) (D F Wt Op : Addr) (H : AH) : Nat → Loc → AH → Prop
  | mk (m : Nat) (w o : List V) (f : List Int) (a b d : Option V) (H' : AH) (ei : ExpI c m w o f) (s : Sub H H') (hF : H' F = some (.list (f.map .int))) (hW : H' Wt = some (.list w)) (hO : H' Op = some (.list o)) :
    FxI c D F Wt Op H m [some (.int c), some (.ref D), some (.bool false), some (.ref F), some (.ref Wt), some (.ref Op), a, b, d] H'
theorem Sub.put {H H' : AH} {a : Addr} {ob : O} (s : Sub H H') (ha : H a = Option.none) : Sub H (upd H' a ob) := fun b o e => by
  rw [upd_ne _ _ (by rintro rfl; rw [ha] at e; cases e)]; exact s _ _ e
structure Tri (H H' : AH) (F Wt Op : Addr) (f w o : List V) : Prop where
  s : Sub H H'
  f : H' F = some (.list f)
  w : H' Wt = some (.list w)
  o : H' Op = some (.list o)
section
variable {H' : AH} {F Wt Op : Addr} {f w o x : List V}
structure Aprt (H : AH) (F Wt Op : Addr) : Prop where
  f : H F = none
  w : H Wt = none
  o : H Op = none
  wf : Wt ≠ F
  of : Op ≠ F
  ow : Op ≠ Wt
theorem Tri.setF (t : Tri H H' F Wt Op f w o) (a : Aprt H F Wt Op) : Tri H (upd H' F (.list x)) F Wt Op x w o :=
  ⟨t.s.put a.f, uS _ _ _, by rw [upd_ne _ _ a.wf]; exact t.w, by rw [upd_ne _ _ a.of]; exact t.o⟩
theorem Tri.setW (t : Tri H H' F Wt Op f w o) (a : Aprt H F Wt Op) : Tri H (upd H' Wt (.list x)) F Wt Op f x o :=
  ⟨t.s.put a.w, by rw [upd_ne _ _ (Ne.symm a.wf)]; exact t.f, uS _ _ _, by rw [upd_ne _ _ a.ow]; exact t.o⟩
theorem Tri.setO (t : Tri H H' F Wt Op f w o) (a : Aprt H F Wt Op) : Tri H (upd H' Op (.list x)) F Wt Op f w x :=
  ⟨t.s.put a.o, by rw [upd_ne _ _ (Ne.symm a.of)]; exact t.f, by rw [upd_ne _ _ (Ne.symm a.ow)]; exact t.w, uS _ _ _⟩
theorem Tri.new (t : Tri H H' F Wt Op f w o) {Z : Addr} {ob : O} (hZ : H' Z = none) : Tri H (upd H' Z ob) F Wt Op f w o :=
  ⟨t.s.new hZ, uO hZ t.f, uO hZ t.w, uO hZ t.o⟩
end
inductive FpI (c b : Int) (D F Wt Op : Addr) (H : AH) : Nat → Loc → AH → Prop
  | mk (i : Nat) (x y z : Option V) (H' : AH) (t : Tri H H' F Wt Op [] (.none :: [.int b, .int 97].take i) [.int c]) :
    FpI c b D F Wt Op H i [some (.int c), some (.ref D), some (.bool false), some (.ref F), some (.ref Wt), some (.ref Op), x, y, z] H'
theorem wc_form_expanded (L : IsL W) {D : Addr} {c : Int} (d : IsData H D) (hc : c ∈ txL) (h : ∀ H' F, Sub H H' → H F = none → H' F = some (.list ((expL c).map .int)) → Q (.ref F) H') : WC W (n + 5) 103 [.int c, .ref D, .bool false] H Q := by
  refine fc_form_expanded (n := n + 4) L ?_
  unfold ss_form_expanded
  rfl'
  intro F hF
  rfl'
  intro Wt hW
  rfl'
  intro Op hO
  rfl'
  have n1 := upd_new hW
  have n2 := upd_new hO
  have n3 := upd_new n2.1
  have ap : Aprt H F Wt Op := ⟨hF, n1.1, n3.1, n1.2, n3.2, n2.2⟩
  have t0 : Tri H (upd (upd (upd H F (.list [])) Wt (.list [.int c])) Op (.list [])) F Wt Op [] [.int c] [] := ⟨(((Sub.refl H).new hF).new hW).new hO, uO hO (uO hW (uS _ _ _)), uO hO (uS _ _ _), uS _ _ _⟩
  clear n1 n2 n3 hW hO
  generalize upd (upd (upd H F (.list [])) Wt (.list [.int c])) Op (.list []) = H1 at t0
  refine vs_whl (FxI c D F Wt Op H) 5 (.mk 5 [.int c] [] [] none none none H1 .start t0.s t0.f t0.w t0.o) ?_
  clear t0
  rintro m ρ H2 K ⟨w, o, f, x, y, z, _, ei, s2, hF2, hW2, hO2⟩ hK
  have pw : ∃ ds, pds w = some ds := by cases ei <;> exact ⟨_, rfl⟩
  have tr : Tri H H2 F Wt Op (f.map .int) w o := ⟨s2, hF2, hW2, hO2⟩
  clear s2 hF2 hW2 hO2
  rfl'
  intro Z hZ
  rfl'
  refine ⟨_, cmp_ne_nil (uO hZ tr.w) (uS _ _ _) pw, ?_⟩
  replace tr := tr.new (ob := .list []) hZ
  generalize upd H2 Z (.list []) = H3 at tr
  clear hZ pw
  have plain : ∀ {p : Int} {m' : Nat} {w' o' : List V} {f' : List Int} {H4 : AH} {x y : Option V}, mapOf p = .none → p ∈ txL → f'.length ≤ 5 → Tri H H4 F Wt Op (f'.map .int) w' o' → ExpI c m' w' o' (f' ++ [p]) → m' < m → vSs W (n + 4) cx_form_expanded (.cons (.asg (.slot 7) (.call 96 (.cons (.loc 6) (.cons (.loc 1) (.cons (.loc 2) .nil))))) (.cons (.ifs (.cmp (.loc 7) .Is (.cst .none)) (.cons (.exp (.meth (.loc 3) "append" (.cons (.loc 6) .nil))) .nil) (.cons (.ifs (.cmp (.loc 6) .In (.loc 5)) (.cons .rse .nil) (.cons (.exp (.meth (.loc 5) "append" (.cons (.loc 6) .nil))) (.cons (.exp (.meth (.loc 4) "append" (.cons (.cst .none) .nil))) (.cons (.for (.slot 8) (.plain (.slRev (.loc 7))) (.cons (.exp (.meth (.loc 4) "append" (.cons (.loc 8) .nil))) .nil)) .nil)))) .nil)) .nil))
      [some (.int c), some (.ref D), some (.bool false), some (.ref F), some (.ref Wt), some (.ref Op), some (.int p), x, y] H4 K := fun {p m' w' o' f' H4 x y} hp hpt hf t4 ei' hm => by
    rfl'
    refine wc_form_mapping (n := n) L (d.sub t4.s) hpt ?_
    refine Eq.symm hp ▸ ?_
    rfl'
    refine me_append t4.f ?_
    rfl'
    refine wv_append t4.f (by rw [List.length_map]; lia) ?_
    replace t4 := t4.setF (x := f'.map .int ++ [.int p]) ap
    rfl'
    exact hK.next m' hm (.mk m' w' o' (f' ++ [p]) _ _ _ _ ei' t4.s (by rw [t4.f, List.map_append]; rfl) t4.w t4.o)
  cases ei with
  | plain hm =>
    refine call_false (by rfl) ?_
    rfl'
    exact h _ _ tr.s hF (by rw [exp_none hm]; exact tr.f)
  | done hm hb =>
    refine call_false (by rfl) ?_
    rfl'
    exact h _ _ tr.s hF (by rw [exp_tup hm]; exact tr.f)
  | start =>
    refine call_true (by rfl) ?_
    rfl'
    refine me_pop tr.w ?_
    rfl'
    refine wv_pop (l := []) tr.w (by simp) ?_
    replace tr := tr.setW (x := []) ap
    generalize upd H3 Wt (.list []) = H4 at tr
    rcases map_cases c with hm | ⟨b, hm, hb⟩
    · rfl'
      exact plain (f' := []) hm hc (by simp) tr (.plain hm) (by decide)
    · rfl'
      refine wc_form_mapping (n := n) L (d.sub tr.s) hc ?_
      refine Eq.symm hm ▸ ?_
      clear plain
      rfl'
      refine ⟨_, cmp_ind (ds := []) (.int c) (.inl (.list tr.o .tupNil)) rfl rfl (Nat.le_trans (Nat.min_le_left _ _) (by decide)), ?_⟩
      refine call_false (by rfl) ?_
      rfl'
      refine me_append tr.o ?_
      rfl'
      refine wv_append tr.o (by simp) ?_
      replace tr := tr.setO (x := [] ++ [.int c]) ap
      generalize upd H4 Op (.list ([] ++ [.int c])) = H5 at tr
      rfl'
      refine me_append tr.w ?_
      rfl'
      refine wv_append tr.w (by simp) ?_
      replace tr := tr.setW (x := [] ++ [.none]) ap
      generalize upd H5 Wt (.list ([] ++ [.none])) = H6 at tr
      rfl'
      refine vs_for (by rfl) ?_
      refine vi_tup ?_
      rfl'
      refine sl_tup (l' := [.int b, .int 97]) (by decide) (by simp) (fun k hk => by subst hk; rw [show [V.int 97, V.int b].length = 2 from rfl, rev_adj, rev_pl]; decide) (fun h xs r => ?_) ?_
      · obtain ⟨x, y, e, r1, r2⟩ := r.two_inv
        have hx : xs = #[x, y] := by rw [← Array.toArray_toList (xs := xs), e]
        subst hx
        rw [show [V.int 97, V.int b].length = 2 from rfl, rev_adj, rev_pl]
        exact .cons r2 (.cons r1 .nil)
      refine ⟨_, rfl, FpI c b D F Wt Op H, .mk 0 _ _ _ H6 tr, fun _ _ _ _ => trivial, fun i v ρ H' K' hv hi hK' => ?_, fun ρ H' hi => ?_⟩
      · obtain ⟨x, y, z, _, t⟩ := hi
        have hi2 : i < 2 := (List.getElem?_eq_some_iff.mp hv).1
        rfl'
        refine me_append t.w ?_
        rfl'
        refine wv_append t.w (by simp; lia) ?_
        rfl'
        refine hK'.next (.mk (i + 1) _ _ _ _ ?_)
        rw [take_succ' hv]
        exact t.setW ap
      · obtain ⟨x, y, z, _, t⟩ := hi
        rfl'
        exact hK.next 4 (by decide) (.mk 4 _ _ [] _ _ _ _ (.two hm hb) t.s t.f t.w t.o)
  | @two b hm hb =>
    refine call_true (by rfl) ?_
    rfl'
    refine me_pop tr.w ?_
    rfl'
    refine wv_pop (l := [.none, .int b]) tr.w (by simp) ?_
    rfl'
    exact plain (p := 97) (f' := []) rfl (by decide) (by simp) (tr.setW ap) (.one hm hb) (by decide)
  | @one b hm hb =>
    refine call_true (by rfl) ?_
    rfl'
    refine me_pop tr.w ?_
    rfl'
    refine wv_pop (l := [.none]) tr.w (by simp) ?_
    rfl'
    exact plain (p := b) (f' := [97]) (by rcases hb with rfl | rfl <;> rfl) (by rcases hb with rfl | rfl <;> decide) (by simp) (tr.setW ap) (.zero hm hb) (by decide)
  | zero hm hb =>
    refine call_true (by rfl) ?_
    rfl'
    refine me_pop tr.w ?_
    rfl'
    refine wv_pop (l := []) tr.w (by simp) ?_
    replace tr := tr.setW (x := []) ap
    generalize upd H3 Wt (.list []) = H4 at tr
    rfl'
    refine me_pop tr.o ?_
    rfl'
    refine wv_pop (l := []) tr.o (by simp) ?_
    replace tr := tr.setO (x := []) ap
    rfl'
    exact hK.cnt 1 (by decide) (.mk 1 [] [] _ _ _ _ _ (.done hm hb) tr.s tr.f tr.w tr.o)
end
section
variable {W : Wd} {n : Nat} {cx : Cx} {ρ : Loc} {H : AH} {Q : V → AH → Prop}
noncomputable def wcV (p : Int × Int) : V := .tup [.int p.1, .int p.2]
theorem vk_sortk {a : E} {pos : Pos} {cd P : Addr} {qf : Str} {Q : V → AH → Prop} (hcx : cx.code = some (cd, qf)) (C : CodeHd W.base cd P) (hB : W.base.BuiltinsAt W.mg P)
    (h : vE W (n + 3) cx a ρ H fun v H1 => ∃ ad l, v = .ref ad ∧ H1 ad = some (.list l) ∧ l.length ≤ 1 ∧ H1 P = some (.tab pos (qf ++ "<lambda>")) ∧ (∀ v ∈ l, ∃ k r, v = .tup (.int k :: r)) ∧ ∀ c, H1 c = none → Q (.ref c) (upd H1 c (.list l))) :
    WE W (n + 3) cx (.sortk a pos) ρ H Q := we_sortk (n := n) hcx C hB (vE_sound a h)
theorem wc_form_sorted (L : IsL W) {a : Addr} {l : List (Int × Int)} (hH : H a = some (.list (l.map wcV))) (hl : l.length ≤ 1) (hT : H 112 = some (.tab fsPos fsQual))
    (h : ∀ D H', Sub H H' → H D = none → H' D = some (.list ((l.map (·.2)).map .int)) → Q (.ref D) H') : WC W (n + 4) 115 [.ref a] H Q := by
  refine fc_form_sorted (n := n + 3) L ?_
  unfold ss_form_sorted
  rfl'
  refine we_comp (by rfl) (own2 rfl rfl) (sub1 rfl) ?_
  refine vi_list ?_
  rfl'
  refine vk_sortk (n := n) rfl L.chd L.bat ?_
  rfl'
  refine ⟨a, _, rfl, hH, by rw [List.length_map]; exact hl, hT, fun v hv => ?_, fun c hc => ⟨c, _, rfl, uS _ _ _, ?_⟩⟩
  · obtain ⟨p, hp, rfl⟩ := List.mem_map.mp hv
    exact ⟨_, _, rfl⟩
  refine cb_map (f := fun v => match v with | .tup [_, .int i] => .int i | v => v) (by rw [List.length_map]; lia) (uS _ _ _) (fun v hv => ?_) (fun D hD => ?_)
  · obtain ⟨p, hp, rfl⟩ := List.mem_map.mp hv
    unfold wcV
    rfl'
    exact ⟨rfl, rfl⟩
  · refine h D _ (((Sub.refl H).new hc).new hD) (upd_new hD).1 ?_
    rw [uS, List.map_map, List.map_map]
    rfl
end
section
variable {W : Wd} {n : Nat} {cx : Cx} {ρ : Loc} {H : AH} {Q : V → AH → Prop}
inductive OrI (a D F : Addr) (l m : List Int) (H : AH) : Nat → Loc → AH → Prop
  | mk (i : Nat) (R : Addr) (x y : Option V) (H' : AH) (s : Sub H H') (hR : H R = none) (hne : R ≠ F) (hF : H' F = some (.list ((l.take i).map .int))) (hR' : H' R = some (.list ((((m.take (i - l.length)).map fun c => (rk c, c))).map wcV))) :
    OrI a D F l m H i [some (.ref a), some (.ref D), some (.ref F), some (.ref R), x, y] H'
theorem wc_ordered (L : IsL W) {a D : Addr} {l m : List Int} (d : IsData H D) (ha : H a = some (.list ((l ++ m).map .int))) (hl0 : ∀ c ∈ l, rk c = 0) (hm0 : ∀ c ∈ m, 0 < rk c) (hc : ∀ c ∈ l ++ m, c ∈ txL) (hll : l.length ≤ 900) (hml : m.length ≤ 1)
    (h : ∀ H' F, Sub H H' → H F = none → H' F = some (.list ((l ++ m).map .int)) → Q (.ref F) H') : WC W (n + 5) 110 [.ref a, .ref D] H Q := by
  refine fc_ordered (n := n + 4) L ?_
  unfold ss_ordered
  rfl'
  intro F hF
  rfl'
  intro R hR
  rfl'
  have n1 := upd_new hR
  have hRF := n1.2
  have hF0 : upd (upd H F (.list [])) R (.list []) F = some (.list []) := uO hR (uS _ _ _)
  have hR0 : upd (upd H F (.list [])) R (.list []) R = some (.list []) := uS _ _ _
  have s0 := ((Sub.refl H).new (o := .list []) hF).new (o := .list []) hR
  generalize upd (upd H F (.list [])) R (.list []) = H1 at hF0 hR0 s0
  replace hR := n1.1
  clear n1
  have hlm : ∀ i, (l.take i).length ≤ 900 := fun i => Nat.le_trans (List.length_take_le' _ _) hll
  refine vs_for (by rfl) ?_
  refine vi_list ?_
  rfl'
  refine ⟨a, _, rfl, s0 _ _ ha, OrI a D F l m H, .mk 0 R none none H1 s0 hR hRF (by rw [hF0]; rfl) (by rw [hR0, Nat.zero_sub]; rfl), fun i ρ H' q => ?_, fun i v ρ H' K hv q hK => ?_, fun ρ H' q => ?_⟩
  · obtain ⟨_, _, _, _, s⟩ := q
    exact s _ _ ha
  · obtain ⟨R, x, y, _, s, hRn, hRF, hF', hR'⟩ := q
    rw [List.getElem?_map] at hv
    obtain ⟨c, hci, rfl⟩ := Option.map_eq_some_iff.mp hv
    clear hv
    have hc0 := hc c (List.mem_of_getElem? hci)
    rfl'
    refine (d.sub s).me L (by rfl) ?_
    rfl'
    refine (wc_Data_get_ccc (n := n + 1) L (d.sub s) hc0 ?_).wv
    rfl'
    rcases Nat.lt_or_ge i l.length with q | q
    · rw [List.getElem?_append_left q] at hci
      rw [Nat.sub_eq_zero_of_le (Nat.le_of_lt q)] at hR'
      rw [hl0 c (List.mem_of_getElem? hci)]
      refine call_false (by decide) ?_
      rfl'
      refine me_extend hF' ?_
      rfl'
      refine wc_form_sorted (n := n) (l := []) L hR' (by simp) (d.sub s).tab fun E H2 s2 hE hE2 => ?_
      rfl'
      refine wv_extend (s2 _ _ hF') hE2 (by rw [List.length_map]; exact Nat.le_trans (hlm i) (by decide)) (by simp) ?_
      have hF3 : upd H2 F (.list ((l.take i).map V.int ++ (([] : List (Int × Int)).map (·.2)).map V.int)) F = some (.list ((l.take i).map V.int)) := by rw [uS]; simp
      have s3 := (s.trans s2).put (ob := .list ((l.take i).map V.int ++ (([] : List (Int × Int)).map (·.2)).map V.int)) hF
      generalize upd H2 F (.list ((l.take i).map V.int ++ (([] : List (Int × Int)).map (·.2)).map V.int)) = H3 at hF3 s3
      clear hR' hF' hE2 s2 s hE
      rfl'
      refine me_append hF3 ?_
      rfl'
      refine wv_append hF3 (by rw [List.length_map]; exact Nat.le_trans (hlm i) (by decide)) ?_
      have hF4 : upd H3 F (.list ((l.take i).map V.int ++ [.int c])) F = some (.list ((l.take (i + 1)).map V.int)) := by
        rw [uS, take_succ' hci, List.map_append]; rfl
      have s4 := s3.put (ob := .list ((l.take i).map V.int ++ [.int c])) hF
      generalize upd H3 F (.list ((l.take i).map V.int ++ [.int c])) = H4 at hF4 s4
      rfl'
      intro R' hR'
      rfl'
      refine hK.next (.mk (i + 1) R' _ _ _ (s4.new hR') (s4.none hR') (by rintro rfl; rw [hR'] at hF4; cases hF4) (uO hR' hF4) ?_)
      rw [uS, Nat.sub_eq_zero_of_le q]; rfl
    · rw [List.getElem?_append_right q] at hci
      have e1 : i + 1 - l.length = (i - l.length) + 1 := by lia
      refine call_true (by simpa using hm0 c (List.mem_of_getElem? hci)) ?_
      rfl'
      refine me_append hR' ?_
      rfl'
      refine wv_append hR' (by rw [List.length_map, List.length_map]; exact Nat.le_trans (List.length_take_le' _ _) (Nat.le_trans hml (by decide))) ?_
      rfl'
      refine hK.next (.mk (i + 1) R _ _ _ (s.put hRn) hRn hRF ?_ ?_)
      · rw [upd_ne _ _ (Ne.symm hRF), hF', List.take_of_length_le q, List.take_of_length_le (Nat.le_succ_of_le q)]
      · rw [uS, e1, take_succ' hci]; simp [wcV]
  · obtain ⟨R, x, y, _, s, hRn, hRF, hF', hR'⟩ := q
    have e0 : ((l ++ m).map V.int).length - l.length = m.length := by rw [List.length_map, List.length_append, Nat.add_sub_cancel_left]
    rw [e0, List.take_length] at hR'
    rw [List.take_of_length_le (by rw [List.length_map, List.length_append]; exact Nat.le_add_right _ _)] at hF'
    rfl'
    refine me_extend hF' ?_
    rfl'
    refine wc_form_sorted (n := n) L hR' (by rw [List.length_map]; exact hml) (d.sub s).tab fun E H2 s2 hE hE2 => ?_
    rfl'
    refine wv_extend (s2 _ _ hF') hE2 (by rw [List.length_map]; exact Nat.le_trans hll (by decide)) (by simp; lia) ?_
    rfl'
    refine h _ F ((s.trans s2).put hF) hF ?_
    rw [uS]
    simp [Function.comp_def]
theorem exp_split {c : Int} (hc : c ∈ txL) : ∃ l m, expL c = l ++ m ∧ (∀ c ∈ l, rk c = 0) ∧ (∀ c ∈ m, 0 < rk c) ∧ (∀ x ∈ l ++ m, x ∈ txL) ∧ l.length ≤ 1 ∧ m.length ≤ 1 := by
  have all : ∀ c ∈ txL, ((expL c).filter (fun x => rk x == 0) ++ (expL c).filter (fun x => decide (0 < rk x)) = expL c ∧ (∀ x ∈ expL c, x ∈ txL) ∧ ((expL c).filter (fun x => rk x == 0)).length ≤ 1 ∧ ((expL c).filter (fun x => decide (0 < rk x))).length ≤ 1) := by decide +kernel
  obtain ⟨h1, h2, h3, h4⟩ := all c hc
  refine ⟨_, _, h1.symm, fun x hx => ?_, fun x hx => ?_, fun x hx => ?_, h3, h4⟩
  · have := (List.mem_filter.mp hx).2; simpa using this
  · have := (List.mem_filter.mp hx).2; simpa using this
  · rw [h1] at hx; exact h2 x hx
theorem exp_len (c : Int) : (expL c).length ≤ 2 := by unfold expL; split <;> (try split) <;> simp
inductive DcI (a D F : Addr) (c : Int) (H : AH) : Nat → Loc → AH → Prop
  | mk (i : Nat) (x : Option V) (H' : AH) (s : Sub H H') (hF : H' F = some (.list (if i = 0 then [] else (expL c).map .int))) : DcI a D F c H i [some (.ref a), some (.ref D), some (.bool false), some (.ref F), x] H'
theorem wc_decomposed (L : IsL W) {a D : Addr} {c : Int} (d : IsData H D) (ha : H a = some (.list [.int c])) (hc : c ∈ txL) (h : ∀ H' F, Sub H H' → H F = none → H' F = some (.list ((expL c).map .int)) → Q (.ref F) H') :
    WC W (n + 6) 123 [.ref a, .ref D, .bool false] H Q := by
  refine fc0_decomposed (n := n + 5) L ?_
  unfold ss_decomposed
  rfl'
  intro F hF
  have s0 := (Sub.refl H).new (o := .list []) hF
  have hF0 : upd H F (.list []) F = some (.list []) := uS _ _ _
  generalize upd H F (.list []) = H1 at s0 hF0
  rfl'
  refine vs_for (by rfl) ?_
  refine vi_list ?_
  rfl'
  refine ⟨a, _, rfl, s0 _ _ ha, DcI a D F c H, .mk 0 none H1 s0 hF0, fun i ρ H' q => ?_, fun i v ρ H' K hv q hK => ?_, fun ρ H' q => ?_⟩
  · obtain ⟨_, _, s⟩ := q
    exact s _ _ ha
  · obtain ⟨x, _, s, hF'⟩ := q
    have hi : i = 0 := by
      cases i with
      | zero => rfl
      | succ i => simp at hv
    subst hi
    cases hv
    rfl'
    refine me_extend hF' ?_
    rfl'
    refine wc_form_expanded (n := n) L (d.sub s) hc fun H2 E s2 hE hE2 => ?_
    rfl'
    refine wv_extend (s2 _ _ hF') hE2 (by simp) (by rw [List.length_map]; exact Nat.le_trans (exp_len c) (by decide)) ?_
    rfl'
    refine hK.next (.mk 1 _ _ ((s.trans s2).put hF) ?_)
    rw [uS]; simp
  · obtain ⟨x, _, s, hF'⟩ := q
    have hF2 : H' F = some (.list ((expL c).map .int)) := hF'
    obtain ⟨l, m, e, e1, e2, e3, e4, e5⟩ := exp_split hc
    rw [e] at hF2 h
    rfl'
    refine wc_ordered (n := n) L (d.sub s) hF2 e1 e2 e3 (Nat.le_trans e4 (by decide)) e5 fun H2 E s2 hE hE2 => ?_
    exact h H2 E (s.trans s2) (s.none hE) hE2
theorem nfd_in1 : CmpOk W n .In (.str "nfd") (.tup [.str "nfkd", .str "nfkc"]) H false := by
  have h := cmp_ind (W := W) (n := n) (H := H) (ds := [.str "nfkd", .str "nfkc"]) (.str "nfd") (.inr (.tupCons (.str "nfkd") (.tupCons (.str "nfkc") .tupNil))) (by decide +kernel) (by decide +kernel) (by decide +kernel)
  have e : ([PyData.str "nfkd", .str "nfkc"].any fun y => PyData.eqv y (.str "nfd")) = false := by decide +kernel
  rwa [e] at h
theorem nfd_in2 : CmpOk W n .In (.str "nfd") (.tup [.str "nfd", .str "nfkd"]) H true := by
  have h := cmp_ind (W := W) (n := n) (H := H) (ds := [.str "nfd", .str "nfkd"]) (.str "nfd") (.inr (.tupCons (.str "nfd") (.tupCons (.str "nfkd") .tupNil))) (by decide +kernel) (by decide +kernel) (by decide +kernel)
  have e : ([PyData.str "nfd", .str "nfkd"].any fun y => PyData.eqv y (.str "nfd")) = true := by decide +kernel
  rwa [e] at h
theorem wc_form_of (L : IsL W) {a D : Addr} {c : Int} (d : IsData H D) (ha : H a = some (.list [.int c])) (hc : c ∈ txL) (h : ∀ H' F, Sub H H' → H F = none → H' F = some (.list ((expL c).map .int)) → Q (.ref F) H') :
    WC W (n + 7) 188 [.ref a, .ref D, .str "nfd"] H Q := by
  refine fc1_form_of (n := n + 6) L ?_
  unfold ss_form_of
  rfl'
  refine ⟨_, nfd_in1, ?_⟩
  rfl'
  refine wc_decomposed (n := n) L d ha hc fun H2 F s2 hF hF2 => ?_
  rfl'
  refine ⟨_, nfd_in2, ?_⟩
  refine call_true rfl ?_
  rfl'
  exact h H2 F s2 hF hF2
theorem wc_nfd (L : IsL W) {a D : Addr} {c : Int} (d : IsData H D) (ha : H a = some (.list [.int c])) (hc : c ∈ txL) (h : ∀ H' F, Sub H H' → H F = none → H' F = some (.list ((expL c).map .int)) → Q (.ref F) H') :
    WC W (n + 8) 195 [.ref a, .ref D] H Q := by
  refine fc_nfd (n := n + 7) L ?_
  unfold ss_nfd
  rfl'
  exact wc_form_of (n := n) L d ha hc h
end
section
variable {W : Wd} {n : Nat} {cx : Cx} {ρ : Loc} {H : AH} {Q : V → AH → Prop}
noncomputable def pr (x : Int × Nat) : Int := rk x.1
noncomputable def partsFrom : Nat → List Int → List (Int × Nat)
  | _, [] => []
  | k, c :: t => (expL c).map (fun p => (p, k)) ++ partsFrom (k + 1) t
theorem partsFrom_snoc (c : Int) : ∀ (l : List Int) (k : Nat), partsFrom k (l ++ [c]) = partsFrom k l ++ (expL c).map (fun p => (p, k + l.length))
  | [], k => by simp [partsFrom]
  | x :: l, k => by
    rw [List.cons_append, partsFrom, partsFrom, partsFrom_snoc c l, List.append_assoc, List.length_cons]
    simp only [show k + 1 + l.length = k + (l.length + 1) by lia]
noncomputable def decF (text : List Int) : List (Int × Nat) := insAll pr (partsFrom 0 text)
theorem insR_len {α : Type} (r : α → Int) (x : α) : ∀ l : List α, (insR r x l).length = l.length + 1
  | [] => rfl
  | y :: l => by
    unfold insR
    split
    · simp [insR_len r x l]
    · simp
theorem foldR_len {α : Type} (r : α → Int) : ∀ (l acc : List α), (l.foldl (fun acc x => insR r x acc) acc).length = acc.length + l.length
  | [], acc => rfl
  | x :: l, acc => by
    rw [List.foldl_cons, foldR_len r l, insR_len]; simp; lia
theorem insAll_len {α : Type} (r : α → Int) (l : List α) : (insAll r l).length = l.length := by
  unfold insAll
  rw [List.length_reverse, foldR_len]; simp
theorem insAll_snoc {α : Type} (r : α → Int) (l : List α) (x : α) : insAll r (l ++ [x]) = (insR r x (insAll r l).reverse).reverse := by
  unfold insAll
  rw [List.foldl_append]; simp
theorem insR_pass {α : Type} {r : α → Int} {x : α} {C : List α} : ∀ {B : List α}, (∀ y ∈ B, 0 < r x ∧ r x < r y) → insR r x (B ++ C) = B ++ insR r x C
  | [], _ => rfl
  | y :: B, h => by
    rw [List.cons_append, insR, if_pos (h y (.head _)), insR_pass fun z hz => h z (.tail _ hz)]; rfl
theorem ins_at {α : Type} {r : α → Int} {x : α} {acc : List α} {i : Nat} (hi : i ≤ acc.length) (h1 : ∀ y ∈ acc.drop i, 0 < r x ∧ r x < r y) (h2 : ∀ j y, i = j + 1 → acc[j]? = some y → ¬ (0 < r x ∧ r x < r y)) :
    (insR r x acc.reverse).reverse = acc.take i ++ x :: acc.drop i := by
  have e : acc.reverse = (acc.drop i).reverse ++ (acc.take i).reverse := by rw [← List.reverse_append, List.take_append_drop]
  rw [e, insR_pass (fun y hy => h1 y (List.mem_reverse.mp hy))]
  have : insR r x (acc.take i).reverse = x :: (acc.take i).reverse := by
    cases i with
    | zero => simp [insR]
    | succ j =>
      have hj : acc[j]? = some (acc[j]'(by lia)) := List.getElem?_eq_getElem _
      rw [List.take_add_one, hj]
      simp only [Option.toList_some, List.reverse_append, List.reverse_cons, List.reverse_nil, List.nil_append, List.cons_append]
      rw [insR, if_neg (h2 j _ rfl hj)]
  rw [this]
  simp
noncomputable def row3V (x : Int × Nat) : V := .tup [.int x.1, .int (x.2 : Int), .int (rk x.1)]
theorem partsFrom_len : ∀ (l : List Int) (k : Nat), (partsFrom k l).length ≤ 2 * l.length
  | [], _ => by simp [partsFrom]
  | c :: l, k => by
    have := partsFrom_len l (k + 1)
    have h2 : (expL c).length ≤ 2 := by unfold expL; split <;> (try split) <;> simp
    simp only [partsFrom, List.length_append, List.length_map, List.length_cons]
    lia
theorem enumV_at {l : List V} {i : Nat} : (enumV l)[i]? = (l[i]?).map fun v => .tup [.int (i : Int), v] := by
  unfold enumV; rw [List.getElem?_mapIdx]
theorem sl2_adj : Builtin.Slice.sliceAdjust none (some 2) ((none : Option Int).getD 1) ((3 : Nat) : Int) = (0, 2) := by decide +kernel
theorem sl2_pl : Builtin.Slice.slicePlaces 0 2 ((none : Option Int).getD 1) = 2 := by decide +kernel
theorem exp_tx : ∀ c ∈ txL, ∀ p ∈ expL c, p ∈ txL := by decide
noncomputable def rowV (r : Int × Nat) : V := .tup [.int r.1, .int (r.2 : Int)]
inductive CdO (text : List Int) (a D R : Addr) (H : AH) : Nat → Loc → AH → Prop
  | mk (i : Nat) (x3 x4 x5 x6 x7 : Option V) (H' : AH) (s : Sub H H') (hR : H' R = some (.list ((insAll pr (partsFrom 0 (text.take i))).map row3V))) : CdO text a D R H i [some (.ref a), some (.ref D), some (.ref R), x3, x4, x5, x6, x7, none] H'
inductive CdI (text : List Int) (a D R E : Addr) (i : Nat) (c : Int) (H : AH) : Nat → Loc → AH → Prop
  | mk (j : Nat) (x5 x6 x7 : Option V) (H' : AH) (s : Sub H H') (hE : H' E = some (.list ((expL c).map .int))) (hR : H' R = some (.list ((insAll pr (partsFrom 0 (text.take i) ++ ((expL c).take j).map fun p => (p, i))).map row3V))) :
    CdI text a D R E i c H j [some (.ref a), some (.ref D), some (.ref R), some (.int (i : Int)), some (.int c), x5, x6, x7, none] H'
inductive CdW (acc : List (Int × Nat)) (a D R : Addr) (i : Nat) (c p : Int) (H : AH) : Nat → Loc → AH → Prop
  | mk (m : Nat) (hm : m ≤ acc.length) (hall : ∀ y ∈ acc.drop m, 0 < rk p ∧ rk p < pr y) : CdW acc a D R i c p H m [some (.ref a), some (.ref D), some (.ref R), some (.int (i : Int)), some (.int c), some (.int p), some (.int (rk p)), some (.int (m : Int)), none] H
inductive CdE (acc : List (Int × Nat)) (a D R : Addr) (i : Nat) (c p : Int) (H : AH) : AF → Loc → AH → Prop
  | mk (m : Nat) (hm : m ≤ acc.length) (hall : ∀ y ∈ acc.drop m, 0 < rk p ∧ rk p < pr y) (hno : ∀ k y, m = k + 1 → acc[k]? = some y → ¬ (0 < rk p ∧ rk p < pr y)) :
    CdE acc a D R i c p H .next [some (.ref a), some (.ref D), some (.ref R), some (.int (i : Int)), some (.int c), some (.int p), some (.int (rk p)), some (.int (m : Int)), none] H
theorem insAll_le (text : List Int) (i : Nat) (hl : text.length ≤ 20) : (insAll pr (partsFrom 0 (text.take i))).length ≤ 40 := by
  rw [insAll_len]
  have := partsFrom_len (text.take i) 0
  have h2 : (text.take i).length ≤ text.length := List.length_take_le' _ _
  lia
theorem wc_coll_decomposed (L : IsL W) {a D : Addr} {text : List Int} (ha : H a = some (.list (text.map .int))) (hx : ∀ c ∈ text, c ∈ txL) (hl : text.length ≤ 20) (d : IsData H D)
    (h : ∀ H' r, Sub H H' → H r = none → H' r = some (.list ((decF text).map rowV)) → Q (.ref r) H') : WC W (n + 9) 373 [.ref a, .ref D] H Q := by
  refine fc_coll_decomposed (n := n + 8) L ?_
  unfold ss_coll_decomposed
  rfl'
  intro R hR
  have s0 := (Sub.refl H).new (o := .list []) hR
  have hR0 : upd H R (.list []) R = some (.list []) := uS _ _ _
  generalize upd H R (.list []) = H1 at s0 hR0
  rfl'
  refine vs_for (by rfl) ?_
  refine vi_enum ?_
  rfl'
  refine ⟨a, _, rfl, s0 _ _ ha, CdO text a D R H, .mk 0 none none none none none H1 s0 hR0, fun i ρ H' q => ?_, fun i v ρ H' K hv q hK => ?_, fun ρ H' q => ?_⟩
  · obtain ⟨_, _, _, _, _, _, s⟩ := q
    exact s _ _ ha
  · obtain ⟨x3, x4, x5, x6, x7, _, s, hR'⟩ := q
    rw [enumV_at, List.getElem?_map, Option.map_map] at hv
    obtain ⟨c, hci, rfl⟩ := Option.map_eq_some_iff.mp hv
    clear hv
    have hcx := hx c (List.mem_of_getElem? hci)
    have hlen := insAll_le text i hl
    have hsn : partsFrom 0 (text.take (i + 1)) = partsFrom 0 (text.take i) ++ (expL c).map fun p => (p, i) := by
      rw [take_succ' hci, partsFrom_snoc]
      simp [Nat.min_eq_left (Nat.le_of_lt (List.getElem?_eq_some_iff.mp hci).1)]
    dsimp only [Function.comp]
    rfl'
    refine vs_for (by rfl) ?_
    refine vi_list ?_
    rfl'
    intro A1 hA1
    rfl'
    refine wc_nfd (n := n) L ((d.sub s).sub ((Sub.refl H').new hA1)) (uS _ _ _) hcx fun H2 E s2 hE hE2 => ?_
    have s12 := ((Sub.refl H').new hA1).trans s2
    replace hE := ((Sub.refl H').new hA1).none hE
    have hER : E ≠ R := by rintro rfl; rw [hE] at hR'; cases hR'
    have el2 := exp_len c
    refine ⟨E, _, rfl, hE2, CdI text a D R E i c H, .mk 0 _ _ _ H2 (s.trans s12) hE2 (by rw [s12 _ _ hR', List.take_zero, List.map_nil, List.append_nil]), fun i ρ H' q => ?_, fun j v ρ H3 K2 hv q hK2 => ?_, fun ρ H3 q => ?_⟩
    · obtain ⟨_, _, _, _, _, e⟩ := q
      exact e
    · obtain ⟨x5, x6, x7, _, s3, hE3, hR3⟩ := q
      rw [List.getElem?_map] at hv
      obtain ⟨p, hpj, rfl⟩ := Option.map_eq_some_iff.mp hv
      clear hv s2 s12 hE2 hE hR' s hA1 hsn
      have hp0 := exp_tx c hcx p (List.mem_of_getElem? hpj)
      have hsn2 : insAll pr (partsFrom 0 (text.take i) ++ ((expL c).take (j + 1)).map fun p => (p, i)) = (insR pr (p, i) (insAll pr (partsFrom 0 (text.take i) ++ ((expL c).take j).map fun p => (p, i))).reverse).reverse := by
        rw [take_succ' hpj, List.map_append, ← List.append_assoc]
        exact insAll_snoc pr _ _
      have hacc : (insAll pr (partsFrom 0 (text.take i) ++ ((expL c).take j).map fun p => (p, i))).length ≤ 50 := by
        rw [insAll_len] at hlen ⊢
        simp only [List.length_append, List.length_map, List.length_take]
        lia
      generalize insAll pr (partsFrom 0 (text.take i) ++ ((expL c).take j).map fun p => (p, i)) = acc at hR3 hacc hsn2
      have hacc1 : (acc.map row3V).length ≤ 1000 := by rw [List.length_map]; exact Nat.le_trans hacc (by decide)
      rfl'
      refine (d.sub s3).me L (by rfl) ?_
      rfl'
      refine (wc_Data_get_ccc (n := n + 5) L (d.sub s3) hp0 ?_).wv
      rfl'
      refine wv_len_list hR3 hacc1 ?_
      rw [List.length_map]
      rfl'
      refine WS.mono (Q := CdE acc a D R i c p H3) (vs_whl (CdW acc a D R i c p H3) acc.length (.mk acc.length (Nat.le_refl _) (by simp)) ?_) ?_
      · rintro m ρ H4 K4 ⟨hm, hall⟩ hK4
        clear hsn2 hacc hpj hlen
        rfl'
        refine ⟨fun e => ?_, fun e => ?_⟩
        · have hrp : 0 < rk p := by simpa using e
          clear e
          rfl'
          refine ⟨fun e => ?_, fun e => ?_⟩
          · obtain ⟨k, rfl⟩ : ∃ k, m = k + 1 := ⟨m - 1, by simp at e; lia⟩
            clear e
            have hk : acc[k]? = some acc[k] := List.getElem?_eq_getElem hm
            have hd : acc.drop k = acc[k] :: acc.drop (k + 1) := List.drop_eq_getElem_cons hm
            generalize acc[k] = y at hk hd
            rfl'
            with_reducible conv => whnf
            rw [show ((k + 1 : Nat) : Int) - 1 = (k : Int) by lia]
            refine idx_list hR3 (seq_nat (by rw [List.length_map]; exact hm)) (by rw [List.getElem?_map, hk]; rfl) (small_nat (by rw [List.length_map]; exact hm) hacc1) ?_
            unfold row3V
            rfl'
            refine idx_tupN (by decide) (by decide) (by rfl) ?_
            rfl'
            refine ⟨fun e => ?_, fun e => ?_⟩
            · have hlt : rk p < rk y.1 := by simpa using e
              rfl'
              with_reducible conv => whnf
              rw [show ((k + 1 : Nat) : Int) - 1 = (k : Int) by lia]
              refine hK4.next k (Nat.lt_succ_self k) (.mk k (Nat.le_of_succ_le hm) fun z hz => ?_)
              rw [hd] at hz
              rcases List.mem_cons.mp hz with rfl | hz
              · exact ⟨hrp, hlt⟩
              · exact hall z hz
            · have hlt : ¬ rk p < rk y.1 := by simpa using e
              rfl'
              refine .mk (k + 1) hm hall fun k' y' hk' hy' => ?_
              cases hk'
              rw [hk] at hy'; cases hy'
              exact fun q => hlt q.2
          · have hm0 : m = 0 := by
              have : ¬ 0 < m := by simpa using e
              lia
            subst hm0
            rfl'
            exact .mk 0 hm hall fun k' y' hk' => absurd hk' (Nat.succ_ne_zero k').symm
        · have hrp : ¬ 0 < rk p := by simpa using e
          rfl'
          exact .mk m hm hall fun k' y' _ _ q => hrp q.1
      rintro a1 ρ' _ ⟨m, hat, hall, hno⟩
      rfl'
      refine me_insert hR3 ?_
      rfl'
      refine wv_insert hR3 hacc1 (by rw [List.length_map]; exact hat) ?_
      rfl'
      refine hK2.next (.mk (j + 1) _ _ _ _ (s3.put hR) (by rw [upd_ne _ _ hER]; exact hE3) ?_)
      rw [uS, hsn2, ins_at (r := pr) (x := (p, i)) hat hall hno]
      simp [row3V]
    · obtain ⟨x5, x6, x7, _, s3, hE3, hR3⟩ := q
      rfl'
      rw [List.length_map, List.take_length, ← hsn] at hR3
      exact hK.next (.mk (i + 1) _ _ _ _ _ H3 s3 hR3)
  · obtain ⟨x3, x4, x5, x6, x7, _, s, hR'⟩ := q
    have hz : (enumV (text.map V.int)).length = text.length := by unfold enumV; simp
    rw [hz, List.take_length] at hR'
    have hlen := insAll_le text text.length hl
    rw [List.take_length] at hlen
    rfl'
    refine we_comp (by rfl) (own1 rfl) (sub1 rfl) ?_
    refine vi_list ?_
    rfl'
    refine ⟨R, _, rfl, hR', ?_⟩
    refine cb_map (f := fun v => match v with | .tup [a, b, _] => .tup [a, b] | v => v) (by rw [List.length_map]; exact Nat.le_trans hlen (by decide)) hR' (fun v hv => ?_) (fun E hE => ?_)
    · obtain ⟨q, hq, rfl⟩ := List.mem_map.mp hv
      unfold row3V
      rfl'
      refine sl_tup (l' := [.int q.1, .int (q.2 : Int)]) (by decide) (by simp) (fun k hk => by subst hk; rw [show [V.int q.1, V.int (q.2 : Int), V.int (rk q.1)].length = 3 from rfl, sl2_adj, sl2_pl]; decide) (fun h xs r => ?_) ⟨rfl, rfl⟩
      obtain ⟨x, y, z, e, r1, r2, r3⟩ := r.three_inv
      have hx : xs = #[x, y, z] := by rw [← Array.toArray_toList (xs := xs), e]
      subst hx
      rw [show [V.int q.1, V.int (q.2 : Int), V.int (rk q.1)].length = 3 from rfl, sl2_adj, sl2_pl]
      exact .cons r1 (.cons r2 .nil)
    · refine h _ E (s.new hE) (s.none hE) ?_
      rw [uS, List.map_map]
      rfl
end
section
variable {W : Wd} {n : Nat} {cx : Cx} {ρ : Loc} {H : AH} {Q : V → AH → Prop}
noncomputable def locF (T : List (List Int × List Ele)) (cs : List Int) : Nat → List Bool → Nat → List (List Ele)
  | 0, _, _ => []
  | f + 1, gone, i => match gone[i]? with
    | none => []
    | some true => locF T cs f gone (i + 1)
    | some false => (mt T cs gone i).1 :: locF T cs f (mt T cs gone i).2.1 (mt T cs gone i).2.2.2
structure WmL (cs : List Int) (a m : Nat) (r : List Int × List Bool × List Nat) : Prop where
  a : r.2.1.length = a
  b : ∀ p ∈ r.2.2, p < cs.length
  c : r.2.2 ≠ []
  d : r.2.2.length ≤ m
theorem wm_len {has : List Int → Bool} {cs : List Int} {f : Nat} : ∀ {i : Nat} {key : List Int} {gone : List Bool} {ps : List Nat} {st : Int}, (∀ p ∈ ps, p < cs.length) → ps ≠ [] → WmL cs gone.length (ps.length + f) (wm has cs f i key gone ps st) := by
  induction f with
  | zero => intro i key gone ps st h h'; exact ⟨rfl, h, h', Nat.le_refl _⟩
  | succ f ih =>
    intro i key gone ps st h h'
    have z : WmL cs gone.length (ps.length + (f + 1)) (key, gone, ps) := ⟨rfl, h, h', Nat.le_add_right _ _⟩
    have y : ∀ {st : Int}, WmL cs gone.length (ps.length + (f + 1)) (wm has cs f (i + 1) key gone ps st) := fun {st} =>
      have x := ih (i := i + 1) (key := key) (gone := gone) (st := st) h h'; ⟨x.a, x.b, x.c, Nat.le_succ_of_le x.d⟩
    unfold wm
    cases hc : cs[i]? with
    | none => exact z
    | some c =>
      refine iteInduction (fun _ => z) fun _ => iteInduction (fun _ => iteInduction (fun _ => ?_) fun _ => y) fun _ => y
      have x := ih (i := i + 1) (key := key ++ [c]) (gone := gone.set i true) (ps := ps ++ [i]) (st := st) (fun p hp => (List.mem_append.mp hp).elim (h p) fun hp => List.mem_singleton.mp hp ▸ g_lt hc) (List.append_ne_nil_of_right_ne_nil ps (List.cons_ne_nil i []))
      exact ⟨x.a.trans List.length_set, x.b, x.c, Nat.le_trans x.d (Nat.le_of_eq (by rw [List.length_append]; exact Nat.succ_add_eq_add_succ _ _))⟩
theorem mt_ok {T : List (List Int × List Ele)} {cs : List Int} {gone : List Bool} {i : Nat} (hg : gone[i]? = some false) (hl : gone.length = cs.length) :
    (mt T cs gone i).2.1.length = cs.length ∧ (∀ p ∈ (mt T cs gone i).2.2.1, p < cs.length) ∧ (mt T cs gone i).2.2.1 ≠ [] ∧ (mt T cs gone i).2.2.1.length ≤ 2 * cs.length ∧ i < (mt T cs gone i).2.2.2 ∧ (mt T cs gone i).2.2.2 ≤ cs.length := by
  have hi : i < gone.length := g_lt hg
  have hic : i < cs.length := hl ▸ hi
  unfold mt
  simp only
  split
  · exact ⟨hl, fun p hp => List.mem_singleton.mp hp ▸ hic, List.cons_ne_nil _ _, two_le (Nat.lt_of_le_of_lt (Nat.zero_le i) hic), Nat.lt_succ_self i, hic⟩
  · rename_i hs
    have hb := big_le (has := hasK T) (cs := cs) (lv := liveAll gone i) (liveAll gone i).length
    generalize big (hasK T) cs (liveAll gone i) (liveAll gone i).length = s at hs hb
    have hlt : s - 1 < (liveAll gone i).length := pr_lt (Nat.pos_of_ne_zero hs) hb
    have hp : (liveAll gone i)[s - 1]? = some (liveAll gone i)[s - 1] := List.getElem?_eq_getElem hlt
    have hpl := liveAll_lt (List.getElem_mem hlt)
    have hlen : (liveAll gone i).length ≤ cs.length := by
      unfold liveAll
      refine Nat.le_trans (List.length_filter_le _ _) ?_
      rw [List.length_range']; exact hl ▸ Nat.sub_le _ _
    refine Eq.symm hp ▸ ?_
    simp only [Option.getD_some]
    generalize (liveAll gone i)[s - 1] = p at hp hpl
    obtain ⟨a, b, c, d⟩ := wm_len (has := hasK T) (cs := cs) (f := cs.length - (p + 1)) (i := p + 1) (key := codesAt cs ((liveAll gone i).take s)) (gone := gone) (ps := (liveAll gone i).take s) (st := 0) (fun q hq => by rw [← hl]; exact (liveAll_lt (List.mem_of_mem_take hq)).1) (by
      intro e
      have := congrArg List.length e
      rw [List.length_take, Nat.min_eq_left hb] at this; exact hs this)
    exact ⟨a.trans hl, b, c, Nat.le_trans d (Nat.two_mul cs.length ▸ Nat.add_le_add (ltake hlen) (Nat.sub_le _ _)), Nat.lt_succ_of_le hpl.2, hl ▸ hpl.1⟩
inductive LocR (H : AH) (ok : Addr → Prop) : List V → List (List Ele) → Prop where
  | nil : LocR H ok [] []
  | cons {E : Addr} {a b : Int} {l : List V} {es : List Ele} {L : List (List Ele)} : H E = some (.list (es.map eV)) → ok E → LocR H ok l L → LocR H ok (.tup [.ref E, .int a, .int b] :: l) (es :: L)
theorem LocR.imp {H' : AH} {ok : Addr → Prop} {l : List V} {L : List (List Ele)} (x : LocR H ok l L) (k : ∀ b ob, H b = some ob → ok b → H' b = some ob) : LocR H' ok l L := by
  induction x with
  | nil => exact .nil
  | cons a b _ ih => exact .cons (k _ _ a b) b ih
theorem LocR.snoc {ok : Addr → Prop} {E : Addr} {a b : Int} {l : List V} {es : List Ele} {L : List (List Ele)} (x : LocR H ok l L) (h : H E = some (.list (es.map eV))) (h1 : ok E) : LocR H ok (l ++ [.tup [.ref E, .int a, .int b]]) (L ++ [es]) := by
  induction x with
  | nil => exact .cons h h1 .nil
  | cons a b _ ih => exact .cons a b ih
theorem LocR.len {ok : Addr → Prop} {l : List V} {L : List (List Ele)} (x : LocR H ok l L) : l.length = L.length := by
  induction x with
  | nil => rfl
  | cons _ _ _ ih => simp [ih]
noncomputable abbrev LcK (HX H H' : AH) (Gn F : Addr) (l : List V) (L : List (List Ele)) : Prop := LocR H' (fun E => E ≠ Gn ∧ E ≠ F ∧ (HX E ≠ none ∨ H E = none)) l L
inductive LcI (T : List (List Int × List Ele)) (cs : List Int) (o a D R C Gn F : Addr) (HX H H2 : AH) (fin : List (List Ele)) : Nat → Loc → AH → Prop
  | mk (m i : Nat) (gn : List Bool) (l : List V) (LL : List (List Ele)) (x y : Option V) (H' : AH) (hi : i ≤ cs.length) (him : cs.length - i ≤ m) (hgn : gn.length = cs.length) (s : Sub H2 H') (hG : H' Gn = some (.list (gn.map .bool))) (hF : H' F = some (.list l))
    (hLR : LcK HX H H' Gn F l LL) (hli : l.length ≤ i) (hlo : LL ++ locF T cs m gn i = fin) :
    LcI T cs o a D R C Gn F HX H H2 fin m [some (.ref o), some (.ref a), some (.ref D), some (.ref R), some (.ref C), some (.ref Gn), some (.ref F), some (.int (i : Int)), x, y, none, none] H'
noncomputable def ogF (rows : List (Int × Nat)) (ps : List Nat) : List Int := ps.map fun q => (((rows[q]?.map (·.2)).getD 0 : Nat) : Int)
noncomputable def ogV (rows : List (Int × Nat)) : V → V
  | .int i => .int (((rows[i.toNat]?.map (·.2)).getD 0 : Nat) : Int)
  | v => v
theorem og_map (rows : List (Int × Nat)) (ps : List Nat) : (ps.map nV).map (ogV rows) = (ogF rows ps).map V.int := by
  unfold ogF
  rw [List.map_map, List.map_map]
  exact List.map_congr_left fun q _ => rfl
theorem og_at {rows : List (Int × Nat)} {q : Nat} (h : q < rows.length) : V.int ((rows[q].2 : Nat) : Int) = ogV rows (nV q) := by
  show _ = V.int (((rows[Int.toNat (q : Int)]?.map (·.2)).getD 0 : Nat) : Int)
  rw [Int.toNat_natCast, List.getElem?_eq_getElem h]; rfl
theorem wc_located (L : IsL W) {o t lg D a : Addr} {T : List (List Int × List Ele)} {N : Nat} {text : List Int} {HX : AH} (x : El HX o t lg T N) (hX : Sub HX H) (d : IsData H D)
    (ha : H a = some (.list (text.map .int))) (hx : ∀ c ∈ text, c ∈ txL) (hl : text.length ≤ 20) (hcd : ∀ r ∈ decF text, r.1 ∈ cdL) (hdl : (decF text).length ≤ 100)
    (h : ∀ H' F l, Sub H H' → H F = none → H' F = some (.list l) → (∃ Gn, LcK HX H H' Gn F l (locF T ((decF text).map (·.1)) (decF text).length (List.replicate (decF text).length false) 0)) → Q (.ref F) H') :
    WC W (n + 10) 347 [.ref o, .ref a, .ref D] H Q := by
  refine fc_Elements_located (n := n + 9) L ?_
  unfold ss_Elements_located
  rfl'
  refine wc_coll_decomposed L ha hx hl d fun H1 R s1 hR hR1 => ?_
  generalize decF text = rows at h hcd hdl hR1
  have hdl1 : rows.length ≤ 1000 := Nat.le_trans hdl (by decide)
  rfl'
  refine we_comp (by rfl) (own1 rfl) (sub1 rfl) ?_
  refine vi_list ?_
  rfl'
  refine ⟨R, _, rfl, hR1, ?_⟩
  refine cb_map (f := fun v => match v with | .tup (.int i :: _) => .int i | v => v) (by rw [List.length_map]; exact hdl1) hR1 (fun v hv => ?_) (fun C hC => ?_)
  · obtain ⟨q, hq, rfl⟩ := List.mem_map.mp hv
    unfold rowV
    rfl'
    refine idx_tupN (by decide) (by decide) (by rfl) ?_
    exact ⟨rfl, rfl⟩
  have hmap : ((rows.map rowV).map fun v => match v with | .tup (.int i :: _) => .int i | v => v) = (rows.map (·.1)).map V.int := by
    rw [List.map_map, List.map_map]
    exact List.map_congr_left fun q _ => rfl
  refine Eq.symm hmap ▸ ?_
  clear hmap
  have hcl : (rows.map (·.1)).length = rows.length := List.length_map _
  have hcd' : ∀ c ∈ rows.map (·.1), c ∈ cdL := fun c hc => by
    obtain ⟨r, hr, rfl⟩ := List.mem_map.mp hc
    exact hcd r hr
  generalize rows.map (·.1) = cs at h hcl hcd'
  clear hcd
  have s2 := (Sub.refl H1).new (o := .list (cs.map V.int)) hC
  have hC2 : upd H1 C (.list (cs.map V.int)) C = some (.list (cs.map V.int)) := uS _ _ _
  generalize upd H1 C (.list (cs.map V.int)) = H2 at s2 hC2
  have s02 := s1.trans s2
  have hR2 := s2 _ _ hR1
  clear hR1 s1 s2 hC hR
  rfl'
  intro F1 hF1
  rfl'
  refine wv_len_list (uO hF1 hR2) (by rw [List.length_map]; exact hdl1) ?_
  rw [List.length_map]
  rfl'
  refine op_list_mul (uS _ _ _) hdl1 fun Gn hGn => ?_
  rfl'
  intro F hF
  rfl'
  have hGn2 : H2 Gn = none := (upd_new hGn).1
  have hF2 : H2 F = none := (upd_new (upd_new hF).1).1
  have hGF : F ≠ Gn := (upd_new hF).2
  have s3 := (((Sub.refl H2).new (o := .list [.bool false]) hF1).new (o := .list (List.replicate rows.length (.bool false))) hGn).new (o := .list []) hF
  have hG3 : upd (upd (upd H2 F1 (.list [.bool false])) Gn (.list (List.replicate rows.length (.bool false)))) F (.list []) Gn = some (.list ((List.replicate rows.length false).map .bool)) := by
    rw [upd_ne _ _ (Ne.symm hGF), uS, List.map_replicate]
  have hF3 : upd (upd (upd H2 F1 (.list [.bool false])) Gn (.list (List.replicate rows.length (.bool false)))) F (.list []) F = some (.list []) := uS _ _ _
  generalize upd (upd (upd H2 F1 (.list [.bool false])) Gn (.list (List.replicate rows.length (.bool false)))) F (.list []) = H3 at s3 hG3 hF3
  clear hF hGn hF1
  rw [← hcl] at h hG3 hdl hdl1
  generalize hfin : locF T cs cs.length (List.replicate cs.length false) 0 = fin at h
  refine vs_whl (LcI T cs o a D R C Gn F HX H H2 fin) cs.length (.mk cs.length 0 (List.replicate cs.length false) [] [] none none H3 (Nat.zero_le _) (Nat.le_refl _) List.length_replicate s3 hG3 hF3 .nil (Nat.le_refl _) hfin) ?_
  clear hfin s3 hG3 hF3
  rintro m ρ H4 K ⟨i, gn, l, LL, μ, ν, _, hi, him, hgn, s4, hG4, hF4, hLR, hli, hlo⟩ hK
  have hC4 := s4 _ _ hC2
  rfl'
  refine wv_len_list hC4 (by rw [List.length_map]; exact hdl1) ?_
  rw [List.length_map]
  rfl'
  refine ⟨fun e => ?_, fun e => ?_⟩
  · have hic : i < cs.length := by simpa using e
    clear e hi
    obtain ⟨f, rfl⟩ : ∃ f, m = f + 1 := ⟨m - 1, pr_eq (Nat.ne_of_gt (Nat.lt_of_lt_of_le (Nat.sub_pos_of_lt hic) him))⟩
    have him' : cs.length - (i + 1) ≤ f := sb_le him
    have hgi : gn[i]? = some (gn[i]'(hgn ▸ hic)) := List.getElem?_eq_getElem _
    rfl'
    refine idx_list hG4 (seq_nat (by rw [List.length_map, hgn]; exact hic)) (by rw [List.getElem?_map, hgi]; rfl) (small_nat hic hdl1) ?_
    unfold locF at hlo
    generalize gn[i]'(hgn ▸ hic) = g at hgi
    rw [hgi] at hlo
    cases g with
    | true =>
      rfl'
      exact hK.next f (Nat.lt_succ_self f) (.mk f (i + 1) gn l LL μ ν H4 hic him' hgn s4 hG4 hF4 hLR (Nat.le_succ_of_le hli) hlo)
    | false =>
      obtain ⟨m1, m2, m3, m4, m5, m6⟩ := mt_ok (T := T) hgi hgn
      obtain ⟨c, hc⟩ : ∃ c, cs[i]? = some c := ⟨_, List.getElem?_eq_getElem hic⟩
      have x2 := x.sub (hX.trans s02)
      dsimp only at hlo
      rfl'
      refine (x2.sub s4).me L (by rfl) ?_
      rfl'
      refine ((wc_match (n := n) L x (hX.trans s02) (d.sub s02) hC2 s4 hGn2 hG4 hcd' (Nat.le_trans hdl (by decide)) hgn hc hgi fun H5 y E P bt hy hE cm hE5 hP5 hG5 => ?_).mono (Nat.add_le_add_left (by decide) n) fun _ _ q => q).wv
      have s5 : Sub H2 H5 := bt.sub s4 hGn2
      have hF5 := bt _ _ hF4 hGF
      have hEG : E ≠ Gn := by
        rintro rfl
        rcases hE with q | q
        · exact q ((hX.trans s02).none hGn2)
        · rw [q] at hG4; cases hG4
      have hEF : E ≠ F := by
        rintro rfl
        rcases hE with q | q
        · exact q ((hX.trans s02).none hF2)
        · rw [q] at hF4; cases hF4
      replace hE := hE.imp id fun q => (s02.trans s4).none q
      replace hLR := hLR.imp fun b ob e n1 => bt _ _ e n1.1
      clear bt hc hgi hG4 hF4 hC4 hy
      generalize mt T cs gn i = r at m1 m2 m3 m4 m5 m6 cm hE5 hP5 hG5 hlo
      obtain ⟨cdx, cm1, cm2⟩ := cm.has
      have hR5 := s5 _ _ hR2
      rfl'
      refine vs_asgc (by rfl) (own1 rfl) (sub1 rfl) ?_
      refine vi_list ?_
      rfl'
      refine at_ok L cm1 cm2 (by rfl) (by rfl) (by rfl) ?_
      refine ⟨P, _, rfl, hP5, ?_⟩
      refine cb_map (f := ogV rows) (lmap (Nat.le_trans m4 (Nat.le_trans (Nat.mul_le_mul_left 2 hdl) (by decide)))) hP5 (fun v hv => ?_) (fun O hO => ?_)
      · obtain ⟨q, hq, rfl⟩ := List.mem_map.mp hv
        have hqc : q < rows.length := by rw [← hcl]; exact m2 q hq
        rfl'
        refine idx_list hR5 (seq_nat (by rw [List.length_map]; exact hqc)) (v := rowV rows[q]) (by rw [List.getElem?_map, List.getElem?_eq_getElem hqc]; rfl) (small_nat (hcl ▸ hqc) hdl1) ?_
        unfold rowV
        rfl'
        refine idx_tupN (by decide) (by decide) (by rfl) ?_
        exact ⟨og_at hqc, rfl⟩
      rw [og_map]
      have hOne : ogF rows r.2.2.1 ≠ [] := by unfold ogF; simpa using m3
      generalize ogF rows r.2.2.1 = og at hOne
      have s6 := (Sub.refl H5).new (o := .list (og.map .int)) hO
      have hO6 : upd H5 O (.list (og.map .int)) O = some (.list (og.map .int)) := uS _ _ _
      generalize upd H5 O (.list (og.map .int)) = H6 at s6 hO6
      have hF6 := s6 _ _ hF5
      clear hO hF5 hR5 hP5
      rfl'
      refine me_append hF6 ?_
      rfl'
      refine at_ok L (s6 _ _ cm1) (s6 _ _ cm2) (by rfl) (by rfl) (by rfl) ?_
      rfl'
      refine wv_min_list hO6 hOne fun M1 _ _ => ?_
      rfl'
      refine wv_max_list hO6 hOne fun M2 _ _ => ?_
      rfl'
      refine wv_append hF6 (Nat.le_trans hli (Nat.le_trans (Nat.le_of_lt hic) hdl1)) ?_
      have k7 : ∀ b ob, H6 b = some ob → b ≠ F → upd H6 F (.list (l ++ [.tup [.ref E, .int M1, .int (M2 + 1)]])) b = some ob := fun b ob e ne => by rw [upd_ne _ _ ne]; exact e
      have hF7 : upd H6 F (.list (l ++ [.tup [.ref E, .int M1, .int (M2 + 1)]])) F = some (.list (l ++ [.tup [.ref E, .int M1, .int (M2 + 1)]])) := uS _ _ _
      generalize upd H6 F (.list (l ++ [.tup [.ref E, .int M1, .int (M2 + 1)]])) = H7 at k7 hF7
      have q1 := k7 _ _ (s6 _ _ cm1) (by rintro rfl; have := s6 _ _ cm1; rw [hF6] at this; cases this)
      have q2 := k7 _ _ (s6 _ _ cm2) (by rintro rfl; have := s6 _ _ cm2; rw [hF6] at this; cases this)
      rfl'
      refine at_ok L q1 q2 (by rfl) (by rfl) (by rfl) ?_
      rfl'
      refine hK.next f (Nat.lt_succ_self f) (.mk f r.2.2.2 r.2.1 _ (LL ++ [r.1]) _ _ H7 m6 (Nat.le_trans (Nat.sub_le_sub_left m5 _) him') m1 (fun b ob e => k7 _ _ (s6 _ _ (s5 _ _ e)) ?_) (k7 _ _ (s6 _ _ hG5) (Ne.symm hGF)) hF7
        ((hLR.imp fun b ob e n1 => k7 _ _ (s6 _ _ e) n1.2.1).snoc (k7 _ _ (s6 _ _ hE5) hEF) ⟨hEG, hEF, hE⟩) (by rw [List.length_append]; exact Nat.le_trans (Nat.succ_le_succ hli) m5) (by rw [List.append_assoc]; exact hlo))
      rintro rfl; rw [hF2] at e; cases e
  · have hic : cs.length ≤ i := by
      exact Nat.not_lt.mp (by simpa using e)
    rfl'
    have hnone : gn[i]? = none := List.getElem?_eq_none (hgn ▸ hic)
    have : LL = fin := by
      refine hlo ▸ ?_
      cases m with
      | zero => simp [locF]
      | succ m => unfold locF; rw [hnone]; simp
    subst this
    exact h _ F l (s02.trans s4) (s02.none hF2) hF4 ⟨Gn, hLR⟩
end
section
variable {W : Wd} {n : Nat} {cx : Cx} {ρ : Loc} {H : AH} {Q : V → AH → Prop}
noncomputable def elF (T : List (List Int × List Ele)) (cs : List Int) : List Ele := (locF T cs cs.length (List.replicate cs.length false) 0).flatten
theorem LocR.get {ok : Addr → Prop} {l : List V} {L : List (List Ele)} (x : LocR H ok l L) : ∀ {i : Nat} {v : V}, l[i]? = some v → ∃ E a b es, v = .tup [.ref E, .int a, .int b] ∧ L[i]? = some es ∧ H E = some (.list (es.map eV)) ∧ ok E := by
  induction x with
  | nil => intro i v h; simp at h
  | @cons E a b l es L h1 h2 _ ih =>
    intro i v h
    cases i with
    | zero => simp at h; subst h; exact ⟨E, a, b, es, rfl, rfl, h1, h2⟩
    | succ i => simp at h; obtain ⟨E', a', b', es', e⟩ := ih h; exact ⟨E', a', b', es', by simpa using e⟩
inductive EoI (o a D F0 : Addr) (H2 : AH) (LL : List (List Ele)) : Nat → Loc → AH → Prop
  | mk (i : Nat) (x y z : Option V) (H' : AH) (k : ∀ b ob, H2 b = some ob → b ≠ F0 → H' b = some ob) (hF : H' F0 = some (.list ((LL.take i).flatten.map eV))) : EoI o a D F0 H2 LL i [some (.ref o), some (.ref a), some (.ref D), some (.ref F0), x, y, z] H'
theorem wc_elements_of (L : IsL W) {o t lg D a : Addr} {T : List (List Int × List Ele)} {N : Nat} {text : List Int} (x : El H o t lg T N) (d : IsData H D)
    (ha : H a = some (.list (text.map .int))) (hx : ∀ c ∈ text, c ∈ txL) (hl : text.length ≤ 20) (hcd : ∀ r ∈ decF text, r.1 ∈ cdL) (hdl : (decF text).length ≤ 100)
    (hsz : ∀ j, ((locF T ((decF text).map (·.1)) (decF text).length (List.replicate (decF text).length false) 0).take j).flatten.length ≤ 900 ∧ ∀ es ∈ (locF T ((decF text).map (·.1)) (decF text).length (List.replicate (decF text).length false) 0), es.length ≤ 900)
    (h : ∀ H' F, Sub H H' → H F = none → H' F = some (.list ((elF T ((decF text).map (·.1))).map eV)) → Q (.ref F) H') :
    WC W (n + 11) 354 [.ref o, .ref a, .ref D] H Q := by
  refine fc_Elements_elements_of (n := n + 10) L ?_
  unfold ss_Elements_elements_of
  rfl'
  intro F0 hF0
  have s1 := (Sub.refl H).new (o := .list []) hF0
  have hF1 : upd H F0 (.list []) F0 = some (.list []) := uS _ _ _
  rw [show elF T ((decF text).map (·.1)) = (locF T ((decF text).map (·.1)) (decF text).length (List.replicate (decF text).length false) 0).flatten by unfold elF; rw [List.length_map]] at h
  generalize upd H F0 (.list []) = H1 at s1 hF1
  rfl'
  refine vs_for (by rfl) ?_
  refine vi_list ?_
  rfl'
  refine (x.sub s1).me L (by rfl) ?_
  rfl'
  refine (wc_located L x s1 (d.sub s1) (s1 _ _ ha) hx hl hcd hdl fun H2 F l s2 hF hF2 q => ?_).wv
  obtain ⟨Gn, hLR⟩ := q
  generalize locF T ((decF text).map (·.1)) (decF text).length (List.replicate (decF text).length false) 0 = LL at h hLR hsz
  have hF02 := s2 _ _ hF1
  have hne : F ≠ F0 := by rintro rfl; rw [hF] at hF1; cases hF1
  refine ⟨F, l, rfl, hF2, EoI o a D F0 H2 LL, .mk 0 none none none H2 (fun _ _ e _ => e) hF02, fun i ρ H' q => ?_, fun i v ρ H' K hv q hK => ?_, fun ρ H' q => ?_⟩
  · obtain ⟨_, _, _, _, k⟩ := q
    exact k _ _ hF2 hne
  · obtain ⟨μ1, μ2, μ3, _, k, hk⟩ := q
    obtain ⟨E, q1, q2, es, rfl, hes, hE, _, _, hok⟩ := hLR.get hv
    have hEF : E ≠ F0 := by
      rintro rfl
      rcases hok with q | q
      · exact q hF0
      · rw [q] at hF1; cases hF1
    rfl'
    refine me_extend hk ?_
    rfl'
    refine wv_extend hk (k _ _ hE hEF) (by rw [List.length_map]; exact Nat.le_trans (hsz i).1 (by decide)) (by rw [List.length_map]; exact Nat.le_trans ((hsz 0).2 es (List.mem_of_getElem? hes)) (by decide)) ?_
    rfl'
    refine hK.next (.mk (i + 1) _ _ _ _ (fun b ob e ne => by rw [upd_ne _ _ ne]; exact k _ _ e ne) ?_)
    rw [uS, take_succ' hes]
    simp
  · obtain ⟨μ1, μ2, μ3, _, k, hk⟩ := q
    rfl'
    rw [hLR.len, List.take_length] at hk
    refine h H' F0 (fun b ob e => k _ _ (s2 _ _ (s1 _ _ e)) (by rintro rfl; rw [hF0] at e; cases e)) hF0 hk
end
section
variable {W : Wd} {n : Nat} {cx : Cx} {ρ : Loc} {H : AH} {Q : V → AH → Prop}
noncomputable def rowT (r : BRow) : V := .tup [.int r.1, .int r.2.1, .int r.2.2]
noncomputable def pairV (p : Int × Int) : V := .tup [.int p.1, .int p.2]
noncomputable def extR (p : Int × Int) : BRow := (p.1, p.2, 64384)
noncomputable def ideoBody : Ss := (.cons (.exp (.meth (.loc 0) "append" (.cons (.tup (.cons (.loc 1) (.cons (.loc 2) (.cons (.glb 64384) .nil)))) .nil))) .nil)
inductive IdI (R : Addr) (bs : List BRow) (L : List (Int × Int)) (H : AH) : Nat → Loc → AH → Prop
  | mk (i : Nat) (x y : Option V) (H' : AH) (e : H' = upd H R (.list ((bs ++ (L.take i).map extR).map rowT))) : IdI R bs L H i [some (.ref R), x, y] H'
theorem ideo_for {e : E} {L : List (Int × Int)} {R : Addr} {bs : List BRow} {ρ : Loc} {μ1 μ2 : Option V} {Q : AF → Loc → AH → Prop} (hρ : ρ = [some (.ref R), μ1, μ2]) (hs : vE W n cx_coll_ideographs e ρ H fun v H1 => v = .tup (L.map pairV) ∧ H1 = H) (hR : H R = some (.list (bs.map rowT))) (hl : bs.length + L.length ≤ 900)
    (h : ∀ μ1 μ2, Q .next [some (.ref R), μ1, μ2] (upd H R (.list ((bs ++ L.map extR).map rowT)))) : WS W n cx_coll_ideographs (.for (.tup (.cons (.slot 1) (.cons (.slot 2) .nil))) (.plain e) ideoBody) ρ H Q := by
  subst hρ
  refine vs_for (by rfl) ?_
  refine wi_tup ?_
  refine (vE_sound e hs).mono fun v H1 q => ?_
  obtain ⟨e1, e2⟩ := q
  subst e1 e2
  refine ⟨_, rfl, IdI R bs L H1, .mk 0 _ _ _ (by rw [List.take_zero, List.map_nil, List.append_nil, upd_self hR]), fun _ _ _ _ => trivial, fun i v ρ H' K hv q hK => ?_, fun ρ H' q => ?_⟩
  · obtain ⟨x, y, _, rfl⟩ := q
    rw [List.getElem?_map] at hv
    obtain ⟨p, hp, rfl⟩ := Option.map_eq_some_iff.mp hv
    unfold ideoBody pairV
    rfl'
    refine me_append (uS _ _ _) ?_
    rfl'
    refine wv_append (uS _ _ _) (by simp; lia) ?_
    rfl'
    refine hK.next (.mk (i + 1) _ _ _ ?_)
    rw [upd_upd, take_succ' hp]
    simp [extR, rowT]
  · obtain ⟨x, y, _, rfl⟩ := q
    rw [List.length_map, List.take_length]
    exact h _ _
theorem wc_coll_ideographs (L : IsL W) (h : ∀ H' R, Sub H H' → H R = none → H' R = some (.list (ideoL.map rowT)) → Q (.ref R) H') : WC W (n + 1) 202 [] H Q := by
  refine fc_coll_ideographs L ?_
  unfold ss_coll_ideographs
  rfl'
  intro A1 h1
  have s1 := (Sub.refl H).new (o := .list ((ideoL.take 3).map rowT)) h1
  replace h1 : upd H A1 (.list ((ideoL.take 3).map rowT)) A1 = some (.list ((ideoL.take 3).map rowT)) := uS _ _ _
  change vG _ _ _ _ _ _ (upd H A1 (.list ((ideoL.take 3).map rowT))) _
  generalize upd H A1 (.list ((ideoL.take 3).map rowT)) = H1 at h1 s1
  rfl'
  intro A2 h2
  have s2 := s1.new (o := .list (((ideoL.drop 3).take 3).map rowT)) h2
  have h12 := uO (o' := .list (((ideoL.drop 3).take 3).map rowT)) h2 h1
  replace h2 : upd H1 A2 (.list (((ideoL.drop 3).take 3).map rowT)) A2 = some (.list (((ideoL.drop 3).take 3).map rowT)) := uS _ _ _
  change vOp _ _ _ _ _ (upd H1 A2 (.list (((ideoL.drop 3).take 3).map rowT))) _
  generalize upd H1 A2 (.list (((ideoL.drop 3).take 3).map rowT)) = H2 at h12 h2 s2
  clear h1 s1
  rfl'
  refine op_list_add h12 h2 (Nat.le_of_ble_eq_true rfl) (Nat.le_of_ble_eq_true rfl) fun A3 h3 => ?_
  have s3 := s2.new (o := .list ((ideoL.take 6).map rowT)) h3
  replace h3 : upd H2 A3 (.list ((ideoL.take 6).map rowT)) A3 = some (.list ((ideoL.take 6).map rowT)) := uS _ _ _
  change vG _ _ _ _ _ _ (upd H2 A3 (.list ((ideoL.take 6).map rowT))) _
  generalize upd H2 A3 (.list ((ideoL.take 6).map rowT)) = H3 at h3 s3
  clear h2 h12 s2
  rfl'
  intro A4 h4
  have s4 := s3.new (o := .list (((ideoL.drop 6).take 2).map rowT)) h4
  have h34 := uO (o' := .list (((ideoL.drop 6).take 2).map rowT)) h4 h3
  replace h4 : upd H3 A4 (.list (((ideoL.drop 6).take 2).map rowT)) A4 = some (.list (((ideoL.drop 6).take 2).map rowT)) := uS _ _ _
  change vOp _ _ _ _ _ (upd H3 A4 (.list (((ideoL.drop 6).take 2).map rowT))) _
  generalize upd H3 A4 (.list (((ideoL.drop 6).take 2).map rowT)) = H4 at h34 h4 s4
  clear h3 s3
  rfl'
  refine op_list_add h34 h4 (Nat.le_of_ble_eq_true rfl) (Nat.le_of_ble_eq_true rfl) fun A5 h5 => ?_
  have h50 : H A5 = none := s4.none h5
  have s5 := s4.new (o := .list ((ideoL.take 8).map rowT)) h5
  replace h5 : upd H4 A5 (.list ((ideoL.take 8).map rowT)) A5 = some (.list ((ideoL.take 8).map rowT)) := uS _ _ _
  change vG _ _ _ _ _ _ (upd H4 A5 (.list ((ideoL.take 8).map rowT))) _
  generalize upd H4 A5 (.list ((ideoL.take 8).map rowT)) = H5 at h5 s5
  clear h4 h34 s4
  rfl'
  refine ideo_for (L := [(13312, 19903), (131072, 173791), (173824, 177977), (177984, 178205)]) (bs := ideoL.take 8) rfl ?_ h5 (by decide) fun μ1 μ2 => ?_
  · rfl'
    exact ⟨rfl, rfl⟩
  rfl'
  refine ideo_for (L := [(178208, 183969), (183984, 191456), (191472, 192093)]) (bs := ideoL.take 12) rfl ?_ (uS _ _ _) (by decide) fun μ1 μ2 => ?_
  · rfl'
    exact ⟨rfl, rfl⟩
  rfl'
  refine ideo_for (L := [(196608, 201546), (201552, 205743)]) (bs := ideoL.take 15) rfl ?_ (uS _ _ _) (by decide) fun μ1 μ2 => ?_
  · rfl'
    exact ⟨rfl, rfl⟩
  rfl'
  refine h _ A5 (((s5.put h50).put h50).put h50) h50 ?_
  rw [uS]; rfl
theorem wv_CollBase (L : IsL W) {f l b : Int} {vs : List V} (hvs : vs = [.int f, .int l, .int b] ∨ vs = [.int f, .int l, .int b, .none]) (h : ∀ x dx H', Sub H H' → H x = none → H dx = none → H' x = some (.inst 227 dx) → H' dx = some (.ns [(0, .int f), (1, .int l), (2, .int b), (3, .none)]) → Q (.ref x) H') : WV W (n + 2) (.ref 227) vs H Q := by
  refine wv_new (f := 217) (by rw [L.cplain]; rfl) (by rw [L.cinit]; rfl) fun x dx hx hdx hne => ?_
  have h2 : ∀ l, upd (upd H dx (.ns l)) x (.inst 227 dx) dx = some (.ns l) := fun l => by rw [upd_ne _ _ hne, uS]
  have body : vSs W n cx_CollBase__init_ ss_CollBase__init_ [some (.ref x), some (.int f), some (.int l), some (.int b), some .none] (upd (upd H dx (.ns [])) x (.inst 227 dx)) (rK fun v H' => v = .none ∧ Q (.ref x) H') := by
    unfold ss_CollBase__init_
    rfl'
    refine as_ok L (uS _ _ _) (h2 _) (by rfl) (by rfl) (Nat.le_of_ble_eq_true rfl) ?_
    rw [make_ns hne]
    rfl'
    refine as_ok L (uS _ _ _) (h2 _) (by rfl) (by rfl) (Nat.le_of_ble_eq_true rfl) ?_
    rw [make_ns hne]
    rfl'
    refine as_ok L (uS _ _ _) (h2 _) (by rfl) (by rfl) (Nat.le_of_ble_eq_true rfl) ?_
    rw [make_ns hne]
    rfl'
    refine as_ok L (uS _ _ _) (h2 _) (by rfl) (by rfl) (Nat.le_of_ble_eq_true rfl) ?_
    rw [make_ns hne]
    rfl'
    refine ⟨rfl, h x dx _ ?_ hx hdx (uS _ _ _) (h2 _)⟩
    refine (Sub.new (Sub.refl H) hdx).new ?_
    rw [upd_ne _ _ (Ne.symm hne)]; exact hx
  rcases hvs with rfl | rfl
  · exact fc1_CollBase__init_ L body
  · exact fc0_CollBase__init_ L body
end
section
variable {W : Wd} {n : Nat} {cx : Cx} {ρ : Loc} {H : AH} {Q : V → AH → Prop}
theorem ne_of {a b : Addr} {o o' : O} (h : H a = some o) (h' : H b = some o') (hne : o ≠ o') : a ≠ b := by
  rintro rfl; rw [h] at h'; cases h'; exact hne rfl
theorem upd_keep {a b : Addr} {o o' : O} (h : H b = some o) (hne : b ≠ a) : upd H a o' b = some o := by rw [upd_ne _ _ hne]; exact h
inductive PiQ (H H' : AH) (bs : Addr) (bl : List V) (f l b : Int) : Prop
  | mk (x bx : Addr) (k : ∀ b ob, H b = some ob → b ≠ bs → H' b = some ob) (h1 : H' bs = some (.list (bl ++ [.ref x]))) (h2 : H x = none) (h3 : H bx = none) (h4 : H' x = some (.inst 227 bx)) (h5 : H' bx = some (.ns [(0, .int f), (1, .int l), (2, .int b), (3, .none)]))
theorem wc_put_implicit (L : IsL W) {o dx bs : Addr} {ls : List (Nat × V)} {bl : List V} {f l b : Int} (h1 : H o = some (.inst 357 dx)) (h2 : H dx = some (.ns ls)) (h3 : alook ls 10 = some (.ref bs)) (h4 : H bs = some (.list bl)) (hl : bl.length ≤ 900)
    (h : ∀ H', PiQ H H' bs bl f l b → Q .none H') : WC W (n + 3) 318 [.ref o, .int f, .int l, .int b] H Q := by
  refine fc1_Elements_put_implicit (n := n + 2) L ?_
  unfold ss_Elements_put_implicit
  rfl'
  refine at_ok L h1 h2 (by rfl) (by rfl) h3 ?_
  refine me_append h4 ?_
  rfl'
  refine wv_CollBase (n := n) L (.inr rfl) fun x bx H' s hx hbx k1 k2 => ?_
  rfl'
  refine wv_append (s _ _ h4) (Nat.le_trans hl (by decide)) ?_
  rfl'
  refine h _ (.mk x bx (fun b ob e ne => upd_keep (s _ _ e) ne) (uS _ _ _) hx hbx (upd_keep k1 ?_) (upd_keep k2 ?_))
  · exact ne_of k1 (s _ _ h4) (by simp)
  · exact ne_of k2 (s _ _ h4) (by simp)
theorem BR.snoc {l : List V} {m : List BRow} {b bx : Addr} {r : BRow} (x : BR H l m) (h1 : H b = some (.inst 227 bx)) (h2 : H bx = some (.ns [(0, .int r.1), (1, .int r.2.1), (2, .int r.2.2), (3, .none)])) : BR H (l ++ [.ref b]) (m ++ [r]) :=
  x.append (.cons h1 h2 .nil)
structure Bld (H H' : AH) (C x dx : Addr) (l : List (Nat × V)) : Prop where
  s : Sub H H'
  i : H' x = some (.inst C dx)
  n : H' dx = some (.ns l)
  hx : H x = none
  hd : H dx = none
section
variable {H' H'' : AH} {C x dx : Addr} {l l' : List (Nat × V)}
theorem Bld.start (hx : H x = none) (hd : H dx = none) (hne : dx ≠ x) : Bld H (upd (upd H dx (.ns l)) x (.inst C dx)) C x dx l :=
  ⟨(Sub.new (Sub.refl H) hd).new (by rw [upd_ne _ _ (Ne.symm hne)]; exact hx), uS _ _ _, by rw [upd_ne _ _ hne, uS], hx, hd⟩
theorem Bld.ne (b : Bld H H' C x dx l) : x ≠ dx := by
  rintro rfl
  have := b.i
  rw [b.n] at this; cases this
theorem Bld.set (b : Bld H H' C x dx l) : Bld H (upd H' dx (.ns l')) C x dx l' := ⟨b.s.put b.hd, upd_keep b.i b.ne, uS _ _ _, b.hx, b.hd⟩
theorem Bld.new (b : Bld H H' C x dx l) {c : Addr} {o : O} (hc : H' c = none) : Bld H (upd H' c o) C x dx l := ⟨b.s.new hc, uO hc b.i, uO hc b.n, b.hx, b.hd⟩
theorem Bld.sub (b : Bld H H' C x dx l) (s : Sub H' H'') : Bld H H'' C x dx l := ⟨b.s.trans s, s _ _ b.i, s _ _ b.n, b.hx, b.hd⟩
theorem Bld.other (b : Bld H H' C x dx l) {a : Addr} {ob : O} (h : H' a = some ob) (hn : ∀ l, ob ≠ .ns l) : upd H' dx (.ns l') a = some ob := upd_keep h (by rintro rfl; rw [b.n] at h; cases h; exact hn _ rfl)
end
inductive EiI (x : Addr) (fl : V) (bs : Addr) (H9 : AH) : Nat → Loc → AH → Prop
  | mk (i : Nat) (μ2 μ3 μ4 : Option V) (l : List V) (H' : AH) (k : ∀ b ob, H9 b = some ob → b ≠ bs → H' b = some ob) (hb : H' bs = some (.list l)) (br : BR H' l ((0, 1114111, 64448) :: ideoL.take i)) (hl : l.length = i + 1) : EiI x fl bs H9 i [some (.ref x), some fl, μ2, μ3, μ4] H'
theorem wv_Elements (L : IsL W) {vs : List V} {fl : Bool} (hvs : (vs = [] ∧ fl = true) ∨ vs = [.bool fl]) (h : ∀ H' o t lg, Sub H H' → H o = none → H t = none → H lg = none → (∃ dx, H dx = none ∧ H' o = some (.inst 357 dx)) → ElB (if fl then baseL else [(0, 1114111, 64448)]) H' o t lg [] 0 → Q (.ref o) H') : WV W (n + 5) (.ref 357) vs H Q := by
  refine wv_new (f := 272) (by rw [L.cplain]; rfl) (by rw [L.cinit]; rfl) fun x dx hx hdx hne => ?_
  have b : Bld H (upd (upd H dx (.ns [])) x (.inst 357 dx)) 357 x dx [] := .start hx hdx hne
  generalize upd (upd H dx (.ns [])) x (.inst 357 dx) = H0 at b
  clear hne hx
  have body : vSs W (n + 3) cx_Elements__init_ ss_Elements__init_ [some (.ref x), some (.bool fl), none, none, none] H0 (rK fun v H' => v = .none ∧ Q (.ref x) H') := by
    unfold ss_Elements__init_
    rfl'
    intro t ht
    have ht0 : H t = none := b.s.none ht
    replace b := b.new (o := emptyOf .t) ht
    replace ht : upd H0 t (emptyOf .t) t = some (.tdict [] none) := uS _ _ _
    generalize upd H0 t (emptyOf .t) = H1 at b ht
    rfl'
    refine as_ok L b.i b.n (by rfl) (by rfl) (Nat.le_of_ble_eq_true rfl) ?_
    replace ht := b.other (l' := nput [] 7 (.ref t)) ht nofun
    replace b : Bld H (upd H1 dx (.ns (nput [] 7 (.ref t)))) 357 x dx [(7, .ref t)] := b.set
    generalize upd H1 dx (.ns (nput [] 7 (.ref t))) = H2 at b ht
    rfl'
    intro lg hlg
    have hlg0 : H lg = none := b.s.none hlg
    replace b := b.new (o := emptyOf .i) hlg
    replace ht := uO (o' := emptyOf .i) hlg ht
    replace hlg : upd H2 lg (emptyOf .i) lg = some (.idict []) := uS _ _ _
    generalize upd H2 lg (emptyOf .i) = H3 at b ht hlg
    rfl'
    refine as_ok L b.i b.n (by rfl) (by rfl) (Nat.le_of_ble_eq_true rfl) ?_
    replace ht := b.other (l' := nput [(7, .ref t)] 8 (.ref lg)) ht nofun
    replace hlg := b.other (l' := nput [(7, .ref t)] 8 (.ref lg)) hlg nofun
    replace b : Bld H (upd H3 dx (.ns (nput [(7, .ref t)] 8 (.ref lg)))) 357 x dx [(7, .ref t), (8, .ref lg)] := b.set
    generalize upd H3 dx (.ns (nput [(7, .ref t)] 8 (.ref lg))) = H4 at b ht hlg
    rfl'
    refine as_ok L b.i b.n (by rfl) (by rfl) (Nat.le_of_ble_eq_true rfl) ?_
    replace ht := b.other (l' := nput [(7, .ref t), (8, .ref lg)] 9 (.tup [.int 1, .int 1, .int 1])) ht nofun
    replace hlg := b.other (l' := nput [(7, .ref t), (8, .ref lg)] 9 (.tup [.int 1, .int 1, .int 1])) hlg nofun
    replace b : Bld H (upd H4 dx (.ns (nput [(7, .ref t), (8, .ref lg)] 9 (.tup [.int 1, .int 1, .int 1])))) 357 x dx [(7, .ref t), (8, .ref lg), (9, .tup [.int 1, .int 1, .int 1])] := b.set
    generalize upd H4 dx (.ns (nput [(7, .ref t), (8, .ref lg)] 9 (.tup [.int 1, .int 1, .int 1]))) = H5 at b ht hlg
    rfl'
    refine wv_CollBase (n := n + 1) L (.inl rfl) fun c cx H6 s6 hc hcx k1 k2 => ?_
    replace b := b.sub s6
    replace ht := s6 _ _ ht
    replace hlg := s6 _ _ hlg
    have hcd : cx ≠ dx := ne_of k2 b.n (by simp)
    clear s6 hc hcx
    rfl'
    intro bs hbs
    have hbs0 : H bs = none := b.s.none hbs
    replace b := b.new (o := .list [.ref c]) hbs
    replace ht := uO (o' := .list [.ref c]) hbs ht
    replace hlg := uO (o' := .list [.ref c]) hbs hlg
    replace k1 := uO (o' := .list [.ref c]) hbs k1
    replace k2 := uO (o' := .list [.ref c]) hbs k2
    replace hbs : upd H6 bs (.list [.ref c]) bs = some (.list [.ref c]) := uS _ _ _
    generalize upd H6 bs (.list [.ref c]) = H7 at b ht hlg k1 k2 hbs
    rfl'
    refine as_ok L b.i b.n (by rfl) (by rfl) (Nat.le_of_ble_eq_true rfl) ?_
    replace ht := b.other (l' := nput [(7, .ref t), (8, .ref lg), (9, .tup [.int 1, .int 1, .int 1])] 10 (.ref bs)) ht nofun
    replace hlg := b.other (l' := nput [(7, .ref t), (8, .ref lg), (9, .tup [.int 1, .int 1, .int 1])] 10 (.ref bs)) hlg nofun
    replace k1 := b.other (l' := nput [(7, .ref t), (8, .ref lg), (9, .tup [.int 1, .int 1, .int 1])] 10 (.ref bs)) k1 nofun
    replace k2 := upd_keep (o' := .ns (nput [(7, .ref t), (8, .ref lg), (9, .tup [.int 1, .int 1, .int 1])] 10 (.ref bs))) k2 hcd
    replace hbs := b.other (l' := nput [(7, .ref t), (8, .ref lg), (9, .tup [.int 1, .int 1, .int 1])] 10 (.ref bs)) hbs nofun
    replace b : Bld H (upd H7 dx (.ns (nput [(7, .ref t), (8, .ref lg), (9, .tup [.int 1, .int 1, .int 1])] 10 (.ref bs)))) 357 x dx [(7, .ref t), (8, .ref lg), (9, .tup [.int 1, .int 1, .int 1]), (10, .ref bs)] := b.set
    generalize upd H7 dx (.ns (nput [(7, .ref t), (8, .ref lg), (9, .tup [.int 1, .int 1, .int 1])] 10 (.ref bs))) = H8 at b ht hlg k1 k2 hbs
    have br : BR H8 [.ref c] [(0, 1114111, 64448)] := .cons k1 k2 .nil
    clear k1 k2 hcd
    cases fl with
    | false =>
      rfl'
      exact ⟨rfl, h _ x t lg b.s b.hx ht0 hlg0 ⟨dx, b.hd, b.i⟩ (.mk dx bs _ [] none [] b.i b.n hbs br ht .nil hlg (fun p hp => by cases hp) (Nat.le_refl _))⟩
    | true =>
      rfl'
      refine vs_for (by rfl) ?_
      refine vi_list ?_
      rfl'
      refine wc_coll_ideographs (n := n + 2) L fun H9 R s9 hR hR9 => ?_
      have hRb : R ≠ bs := by rintro rfl; rw [hR] at hbs; cases hbs
      replace b := b.sub s9
      replace ht := s9 _ _ ht
      replace hlg := s9 _ _ hlg
      replace hbs := s9 _ _ hbs
      replace br := br.imp (fun _ _ e => s9 _ _ e) (fun _ _ e => s9 _ _ e)
      clear s9 hR
      refine ⟨R, _, rfl, hR9, EiI x (.bool true) bs H9, .mk 0 none none none [.ref c] H9 (fun _ _ e _ => e) hbs br rfl, fun i ρ H' q => ?_, fun i v ρ H' K hv q hK => ?_, fun ρ H' q => ?_⟩
      · obtain ⟨_, _, _, _, _, k⟩ := q
        exact k _ _ hR9 hRb
      · obtain ⟨μ2, μ3, μ4, l, _, k, hb', br', hl'⟩ := q
        rw [List.getElem?_map] at hv
        obtain ⟨r, hr, rfl⟩ := Option.map_eq_some_iff.mp hv
        have hi17 : i < 17 := (List.getElem?_eq_some_iff.mp hr).1
        unfold rowT
        have hx' := k _ _ b.i (ne_of b.i hbs (by simp))
        have hd' := k _ _ b.n (ne_of b.n hbs (by simp))
        rfl'
        refine me_ok L hx' hd' (by rfl) (by rfl) ?_
        rfl'
        refine (wc_put_implicit (n := n) L hx' hd' (by rfl) hb' (by lia) fun H10 q => ?_).wv
        obtain ⟨y, yx, k10, hbs10, hy, hyx, y1, y2⟩ := q
        rfl'
        refine hK.next (.mk (i + 1) _ _ _ _ _ (fun b ob e ne => k10 _ _ (k _ _ e ne) ne) hbs10 ?_ (by rw [List.length_append, hl']; rfl))
        rw [take_succ' hr, ← List.cons_append]
        exact (br'.imp (fun _ _ e => k10 _ _ e (ne_of e hb' (by simp))) (fun _ _ e => k10 _ _ e (ne_of e hb' (by simp)))).snoc y1 y2
      · obtain ⟨μ2, μ3, μ4, l, _, k, hb', br', hl'⟩ := q
        rfl'
        rw [List.length_map, List.take_length] at br'
        refine ⟨rfl, h _ x t lg (fun b1 ob e => k _ _ (b.s _ _ e) ?_) b.hx ht0 hlg0 ⟨dx, b.hd, k _ _ b.i (ne_of b.i hbs (by simp))⟩ (.mk dx bs l [] none [] (k _ _ b.i (ne_of b.i hbs (by simp))) (k _ _ b.n (ne_of b.n hbs (by simp))) hb' br' (k _ _ ht (ne_of ht hbs (by simp))) .nil (k _ _ hlg (ne_of hlg hbs (by simp))) (fun p hp => by cases hp) (Nat.le_refl _))⟩
        rintro rfl; rw [hbs0] at e; cases e
  rcases hvs with ⟨rfl, rfl⟩ | rfl
  · exact fc1_Elements__init_ L body
  · exact fc0_Elements__init_ L body
end
section
variable {W : Wd} {n : Nat} {cx : Cx} {ρ : Loc} {H : AH} {Q : V → AH → Prop}
noncomputable def eD (e : Ele) : PyData := .tuple [.int e.1, .int e.2.1, .int e.2.2.1, .bool e.2.2.2]
noncomputable def kD (k : List Int) : PyData := .tuple (k.map .int)
noncomputable def esD (es : List Ele) : PyData := .list (es.map eD)
noncomputable def rowD (p : List Int × List Ele) : PyData := .tuple [kD p.1, esD p.2]
noncomputable def rowsD (L : List (List Int × List Ele)) : PyData := .list (L.map rowD)
theorem den_all {α : Type} {f : α → V} {g : α → PyData} : ∀ {l : List α}, (∀ x ∈ l, Den H (f x) (g x)) → Den H (.tup (l.map f)) (.tuple (l.map g))
  | [], _ => .tupNil
  | x :: l, h => .tupCons (h x (.head _)) (den_all fun y hy => h y (.tail _ hy))
theorem lay_all {α : Type} {g : α → PyData} : ∀ {l : List α}, (∀ x ∈ l, (g x).canLay0 = true) → PyData.canLayAll0 (l.map g) = true
  | [], _ => rfl
  | x :: l, h => by
    rw [List.map_cons, PyData.canLayAll0, h x (.head _), lay_all fun y hy => h y (.tail _ hy)]; rfl
theorem depth_all {α : Type} {g : α → PyData} {k : Nat} : ∀ {l : List α}, (∀ x ∈ l, (g x).depth ≤ k) → PyData.depthAll (l.map g) ≤ k
  | [], _ => by simp [PyData.depthAll]
  | x :: l, h => by
    rw [List.map_cons, PyData.depthAll]
    have h1 := h x (.head _)
    have h2 := depth_all (l := l) fun y hy => h y (.tail _ hy)
    lia
theorem den_e (e : Ele) : Den H (eV e) (eD e) := .tupCons (.int _) (.tupCons (.int _) (.tupCons (.int _) (.tupCons (.bool _) .tupNil)))
theorem lay_e (e : Ele) : (eD e).canLay0 = true := rfl
theorem depth_e (e : Ele) : (eD e).depth ≤ 1 := by simp [eD, PyData.depth, PyData.depthAll]
theorem den_k (k : List Int) : Den H (tupI k) (kD k) := den_all fun x _ => .int x
theorem lay_k (k : List Int) : (kD k).canLay0 = true := by unfold kD; rw [PyData.canLay0]; exact lay_all fun _ _ => rfl
theorem depth_k (k : List Int) : (kD k).depth ≤ 1 := by
  have : PyData.depthAll (k.map .int) ≤ 0 := depth_all fun _ _ => Nat.le_refl _
  unfold kD; rw [PyData.depth]; lia
theorem den_es {a : Addr} {es : List Ele} (h : H a = some (.list (es.map eV))) : Den H (.ref a) (esD es) := .list h (den_all fun e _ => den_e e)
theorem lay_es (es : List Ele) : (esD es).canLay0 = true := by unfold esD; rw [PyData.canLay0]; exact lay_all fun e _ => lay_e e
theorem depth_es (es : List Ele) : (esD es).depth ≤ 2 := by
  have : PyData.depthAll (es.map eD) ≤ 1 := depth_all fun e _ => depth_e e
  unfold esD; rw [PyData.depth]; lia
theorem lay_row (p : List Int × List Ele) : (rowD p).canLay0 = true := by
  unfold rowD
  rw [PyData.canLay0, PyData.canLayAll0, PyData.canLayAll0, lay_k, lay_es]; rfl
theorem depth_row (p : List Int × List Ele) : (rowD p).depth ≤ 3 := by
  have h1 := depth_k p.1
  have h2 := depth_es p.2
  unfold rowD
  rw [PyData.depth, PyData.depthAll, PyData.depthAll, PyData.depthAll]
  lia
theorem lay_rows (L : List (List Int × List Ele)) : (rowsD L).canLay0 = true := by unfold rowsD; rw [PyData.canLay0]; exact lay_all fun p _ => lay_row p
theorem depth_rows (L : List (List Int × List Ele)) : (rowsD L).depth ≤ 4 := by
  have : PyData.depthAll (L.map rowD) ≤ 3 := depth_all fun e _ => depth_row e
  unfold rowsD; rw [PyData.depth]; lia
theorem Den.sub {H' : AH} (s : Sub H H') {v : V} {d : PyData} (x : Den H v d) : Den H' v d := by
  induction x with
  | none => exact .none
  | bool b => exact .bool b
  | int i => exact .int i
  | str x => exact .str x
  | tupNil => exact .tupNil
  | tupCons _ _ a b => exact .tupCons a b
  | list h _ ih => exact .list (s _ _ h) ih
theorem cmp_eq_same {v u : V} {d : PyData} (hv : Den H v d) (hu : Den H u d) (hl : d.canLay0 = true) (hd : d.depth ≤ 100) : CmpOk W n .Eq v u H true := by
  have h := cmp_eqd (W := W) (n := n) hv hu hl hl (by lia)
  rwa [PySem.SeqAt.eqv_refl d hl] at h
theorem cmp_ne_same {v u : V} {d : PyData} (hv : Den H v d) (hu : Den H u d) (hl : d.canLay0 = true) (hd : d.depth ≤ 100) : CmpOk W n .NotEq v u H false := by
  have h := cmp_ned (W := W) (n := n) hv hu hl hl (by lia)
  rwa [PySem.SeqAt.eqv_refl d hl] at h
noncomputable def keyOf : V → List Int
  | .tup l => l.filterMap fun v => match v with | .int i => some i | _ => none
  | _ => []
theorem keyOf_tupI (k : List Int) : keyOf (tupI k) = k := by
  unfold tupI keyOf
  simp only [List.filterMap_map]
  simp [Function.comp_def]
noncomputable def srows (T : List (List Int × List Ele)) : List (List Int × List Ele) := (isort (T.map (·.1))).map fun k => (k, (alook T k).getD [])
theorem isort_mem {l : List (List Int)} {k : List Int} : k ∈ isort l ↔ k ∈ l := (isort_perm l).mem_iff
theorem key_look {α : Type} {T : List (List Int × α)} {k : List Int} (h : k ∈ T.map (·.1)) : ∃ v, alook T k = some v := by
  unfold alook
  obtain ⟨p, hp, rfl⟩ := List.mem_map.mp h
  cases q : T.find? fun x => decide (x.1 = p.1) with
  | none => rw [List.find?_eq_none] at q; exact absurd (q p hp) (by simp)
  | some x => exact ⟨x.2, rfl⟩
noncomputable def rowF (T' : List (List Int × V)) (v : V) : V := .tup [v, (alook T' (keyOf v)).getD .none]
theorem rows_den {H0 H' : AH} {T' : List (List Int × V)} {T : List (List Int × List Ele)} (b : TabR H0 T' T) (s : Sub H0 H') {F : Addr} (hF : H' F = some (.list (((isort (T'.map (·.1))).map tupI).map (rowF T')))) : Den H' (.ref F) (rowsD (srows T)) := by
  refine .list hF ?_
  unfold srows
  rw [List.map_map, List.map_map, b.keys]
  refine den_all fun k hk => ?_
  have hk' := isort_mem.mp hk
  obtain ⟨es, he⟩ := key_look hk'
  rcases b.look k with ⟨e1, e2⟩ | ⟨a, es', e1, e2, e3⟩
  · rw [he] at e2; cases e2
  · simp only [Function.comp, rowF, keyOf_tupI, e1, e2, Option.getD_some]
    exact .tupCons (den_k k) (.tupCons (den_es (s _ _ e3)) .tupNil)
theorem wc_rows (L : IsL W) {B : List BRow} {o t lg : Addr} {T : List (List Int × List Ele)} {N : Nat} (x : ElB B H o t lg T N) (hT : T.length < 64) (hne : ∀ p ∈ T, p.1 ≠ [])
    (h : ∀ H' F, Sub H H' → H F = none → Den H' (.ref F) (rowsD (srows T)) → Q (.ref F) H') : WC W (n + 1) 296 [.ref o] H Q := by
  obtain ⟨T', ep, b1, b2⟩ := x.tab
  refine fc_Elements_rows L ?_
  unfold ss_Elements_rows
  rfl'
  refine we_comp (by rfl) (own1 rfl) (sub1 rfl) ?_
  refine vi_list ?_
  rfl'
  refine x.at7 L ?_
  rfl'
  have hlen := b2.len
  refine wv_sorted_t b1 (by lia) (fun p hp => ?_) fun c hc => ?_
  · have : p.1 ∈ T'.map (·.1) := List.mem_map_of_mem hp
    rw [b2.keys] at this
    obtain ⟨q, hq, e⟩ := List.mem_map.mp this
    rw [← e]; exact hne q hq
  have s1 := (Sub.refl H).new (o := .list ((isort (T'.map (·.1))).map tupI)) hc
  refine ⟨c, _, rfl, uS _ _ _, ?_⟩
  have hc1 : upd H c (.list ((isort (T'.map (·.1))).map tupI)) c = some (.list ((isort (T'.map (·.1))).map tupI)) := uS _ _ _
  have hlen2 : (isort (T'.map (·.1))).length = T.length := by rw [(isort_perm _).length_eq, List.length_map, hlen]
  generalize upd H c (.list ((isort (T'.map (·.1))).map tupI)) = H1 at s1 hc1
  refine cb_map (f := rowF T') (by rw [List.length_map]; lia) hc1 (fun v hv => ?_) (fun F hF => ?_)
  · obtain ⟨k, hk, rfl⟩ := List.mem_map.mp hv
    obtain ⟨u, hu⟩ := key_look (isort_mem.mp hk)
    rfl'
    refine (x.sub s1).at7 L ?_
    rfl'
    refine idx_tdict (s1 _ _ b1) hu ?_
    rfl'
    exact ⟨by simp only [rowF, keyOf_tupI, hu]; rfl, rfl⟩
  · exact h _ F (s1.new hF) (s1.none hF) (rows_den b2 (s1.new hF) (uS _ _ _))
end
section
variable {W : Wd} {n : Nat} {cx : Cx} {ρ : Loc} {H : AH} {Q : V → AH → Prop}
theorem astore_new {K' : Type} [DecidableEq K'] {α : Type} {l : List (K' × α)} {k : K'} {v : α} (h : k ∉ l.map (·.1)) : astore l k v = l ++ [(k, v)] := by
  unfold astore
  rw [if_neg]
  rw [List.any_eq_true]
  rintro ⟨p, hp, e⟩
  exact h (List.mem_map.mpr ⟨p, hp, by simpa using e⟩)
theorem Kp.trans {H1 H2 H3 : AH} {t lg : Addr} (x : Kp H1 H2 t lg) (y : Kp H2 H3 t lg) : Kp H1 H3 t lg := ⟨fun b ob e n1 n2 => y.keep b ob (x.keep b ob e n1 n2) n1 n2, x.tab, x.lon⟩
theorem ElB.keep1 {B : List BRow} {H H' : AH} {o t lg : Addr} {T : List (List Int × List Ele)} {N : Nat} (x : ElB B H o t lg T N) (k : Bt1 H H' t) (ht : ∀ T' e, H t = some (.tdict T' e) → ∃ e', H' t = some (.tdict T' e')) : ElB B H' o t lg T N := by
  obtain ⟨dx, bs, l, T', ep, G, a1, a2, a3, a4, b1, b2, c1, c2, c3⟩ := x
  obtain ⟨e', b1'⟩ := ht _ _ b1
  have ne : ∀ {b ob}, H b = some ob → (∀ T e, ob ≠ .tdict T e) → H' b = some ob := fun e q => k _ _ e (by rintro rfl; rw [b1] at e; cases e; exact q _ _ rfl)
  exact .mk dx bs l T' e' G (ne a1 nofun) (ne a2 nofun) (ne a3 nofun) (a4.imp (fun _ _ e => ne e nofun) fun _ _ e => ne e nofun) b1' (b2.imp fun _ _ e => ne e nofun) (ne c1 nofun) c2 c3
theorem br_keep {l : List V} {m : List BRow} {dx : Addr} {ls ls' : List (Nat × V)} (x : BR H l m) (hd : H dx = some (.ns ls)) (hn : ∀ r : BRow, ls ≠ [(0, .int r.1), (1, .int r.2.1), (2, .int r.2.2), (3, .none)]) : BR (upd H dx (.ns ls')) l m := by
  induction x with
  | nil => exact .nil
  | @cons b bx r l m h1 h2 _ ih =>
    refine .cons (upd_keep h1 (ne_of h1 hd nofun)) (upd_keep h2 ?_) ih
    rintro rfl
    rw [hd] at h2
    cases h2
    exact hn r rfl
theorem look_mem {α : Type} {T : List (List Int × α)} {p : List Int × α} (hnd : (T.map (·.1)).Nodup) (h : p ∈ T) : alook T p.1 = some p.2 := by
  induction T with
  | nil => cases h
  | cons q T ih =>
    rw [List.map_cons, List.nodup_cons] at hnd
    unfold alook
    rcases List.mem_cons.mp h with rfl | h
    · rw [List.find?_cons_of_pos (by simp)]; rfl
    · rw [List.find?_cons_of_neg]
      · exact ih hnd.2 h
      · intro e
        have e' : q.1 = p.1 := by simpa using e
        rw [e'] at hnd
        exact hnd.1 (List.mem_map.mpr ⟨p, h, rfl⟩)
inductive ScI (o o' t' lg' : Addr) (H2 : AH) (T : List (List Int × List Ele)) : Nat → Loc → AH → Prop
  | mk (i : Nat) (μ : Option V) (H' : AH) (k : Kp H2 H' t' lg') (x : ElB [(0, 1114111, 64448)] H' o' t' lg' (T.take i) i) : ScI o o' t' lg' H2 T i [some (.ref o), some (.int 1), some (.int 1), some (.int 1), some (.ref o'), μ] H'
theorem key_new {T : List (List Int × List Ele)} {i : Nat} {p : List Int × List Ele} (hnd : (T.map (·.1)).Nodup) (hp : T[i]? = some p) : p.1 ∉ (T.take i).map (·.1) := by
  intro q
  rw [List.map_take] at q
  obtain ⟨j, hj⟩ := List.getElem?_of_mem q
  have hji : j < i := by
    rcases Nat.lt_or_ge j i with q | q
    · exact q
    · rw [List.getElem?_take_eq_none q] at hj; cases hj
  rw [List.getElem?_take_of_lt hji] at hj
  have h2 : (T.map (·.1))[i]? = some p.1 := by rw [List.getElem?_map, hp]; rfl
  obtain ⟨q1, e1⟩ := List.getElem?_eq_some_iff.mp hj
  obtain ⟨q2, e2⟩ := List.getElem?_eq_some_iff.mp h2
  exact (List.pairwise_iff_getElem.mp hnd) j i q1 q2 hji (e1.trans e2.symm)
theorem TabR.at {T' : List (List Int × V)} {T : List (List Int × List Ele)} (b2 : TabR H T' T) {i : Nat} {p' : List Int × V} (hp' : T'[i]? = some p') : ∃ p, T[i]? = some p ∧ p.1 = p'.1 := by
  have hkeys := congrArg (fun z : List (List Int) => z[i]?) b2.keys
  simp only [List.getElem?_map, hp', Option.map_some] at hkeys
  exact Option.map_eq_some_iff.mp hkeys.symm
theorem TabR.here {T' : List (List Int × V)} {T : List (List Int × List Ele)} (b2 : TabR H T' T) (hnd : (T.map (·.1)).Nodup) {p : List Int × List Ele} (hp : p ∈ T) : ∃ a, alook T' p.1 = some (.ref a) ∧ H a = some (.list (p.2.map eV)) := by
  have key := look_mem hnd hp
  rcases b2.look p.1 with ⟨e1, e2⟩ | ⟨a, es, e1, e2, e3⟩
  · rw [key] at e2; cases e2
  · rw [key] at e2; cases e2; exact ⟨a, e1, e3⟩
inductive CpQ (H H' : AH) (o t lg : Addr) (T : List (List Int × List Ele)) (N : Nat) (o' : Addr) : Prop
  | mk (t' lg' : Addr) (k : Bt1 H H' t) (h1 : H o' = none) (h2 : H t' = none) (h3 : H lg' = none) (x : El H' o t lg T N) (x' : El H' o' t' lg' T T.length)
theorem wc_scaled (L : IsL W) {o t lg : Addr} {T : List (List Int × List Ele)} {N : Nat} (x : El H o t lg T N) (hT : T.length ≤ 100) (hne : ∀ p ∈ T, p.1 ≠ [] ∧ p.1.length ≤ 50 ∧ p.2.length ≤ 900) (hnd : (T.map (·.1)).Nodup)
    (h : ∀ H' o', CpQ H H' o t lg T N o' → Q (.ref o') H') : WC W (n + 6) 310 [.ref o, .int 1, .int 1, .int 1] H Q := by
  obtain ⟨T', ep0, b1, b2⟩ := x.tab
  obtain ⟨G, c1, c2, c3⟩ := x.lon
  have hlen := b2.len
  refine fc_Elements_scaled (n := n + 5) L ?_
  unfold ss_Elements_scaled
  rfl'
  refine wv_Elements (n := n) (fl := false) L (.inr rfl) fun H1 o' t' lg' s1 ho' ht' hlg' q x' => ?_
  obtain ⟨dx', hdx', hi'⟩ := q
  rfl'
  refine vs_for (by rfl) ?_
  refine vi_dict ?_
  rfl'
  refine (x.sub s1).at7 L ?_
  refine ⟨t, T', _, rfl, s1 _ _ b1, fun ep => ?_⟩
  have tne : t ≠ t' := by rintro rfl; rw [b1] at ht'; cases ht'
  have bt1 : Bt1 H (upd H1 t (.tdict T' (some ep))) t := fun b ob e ne => upd_keep (s1 _ _ e) ne
  have ht2 : upd H1 t (.tdict T' (some ep)) t = some (.tdict T' (some ep)) := uS _ _ _
  have hk2 : ∀ {b ob}, H1 b = some ob → (∀ T e, ob ≠ .tdict T e) → upd H1 t (.tdict T' (some ep)) b = some ob := fun e q => upd_keep e (by rintro rfl; rw [s1 _ _ b1] at e; cases e; exact q _ _ rfl)
  have x2 : ElB [(0, 1114111, 64448)] (upd H1 t (.tdict T' (some ep))) o' t' lg' [] 0 := by
    obtain ⟨_, g1, _⟩ := x'.lon
    exact x'.imp (fun a C dx e => hk2 e nofun) (fun a l e => hk2 e nofun) (fun a l e => hk2 e nofun) (fun ob e => upd_keep e (Ne.symm tne)) fun ob e => upd_keep e (ne_of g1 (s1 _ _ b1) (by simp))
  have hi2 := hk2 hi' nofun
  clear x' hi' hk2
  generalize upd H1 t (.tdict T' (some ep)) = H2 at bt1 ht2 x2 hi2
  have el2 : El H2 o t lg T N := x.keep1 bt1 fun T'' e e1 => by rw [b1] at e1; cases e1; exact ⟨_, ht2⟩
  clear s1
  obtain ⟨Ta, ea, ta, _⟩ := x2.tab
  obtain ⟨Ga, ga, _⟩ := x2.lon
  refine ⟨ScI o o' t' lg' H2 T, .mk 0 none H2 ⟨fun _ _ e _ _ => e, ⟨_, _, ta⟩, ⟨_, ga⟩⟩ x2, fun i ρ H' q => ?_, fun i v ρ H' K hv q hK => ?_, fun ρ H' q => ?_⟩
  · obtain ⟨_, _, k⟩ := q
    exact k.keep _ _ ht2 tne (ne_of ht2 ga nofun)
  · obtain ⟨μ5, _, k, xi⟩ := q
    rw [List.getElem?_map] at hv
    obtain ⟨p', hp', rfl⟩ := Option.map_eq_some_iff.mp hv
    clear hv
    obtain ⟨p, hp, hpe⟩ := b2.at hp'
    have hpm := List.mem_of_getElem? hp
    obtain ⟨n1, n2, n3⟩ := hne p hpm
    have hilt : i < T.length := (List.getElem?_eq_some_iff.mp hp).1
    obtain ⟨c, r, hcr⟩ : ∃ c r, p.1 = c :: r := List.exists_cons_of_ne_nil n1
    have elk : El H' o t lg T N := el2.kp k tne (by rintro rfl; rw [c1] at hlg'; cases hlg')
    obtain ⟨T3, e3, t3, b3⟩ := elk.tab
    have hno := key_new hnd hp
    obtain ⟨a, la1, la2⟩ := b3.here hnd hpm
    refine hpe ▸ ?_
    clear hp' hpe hpm n1
    rfl'
    refine xi.me L (by rfl) ?_
    rfl'
    refine elk.at7 L ?_
    rfl'
    refine idx_tdict t3 la1 ?_
    rfl'
    refine wc_coll_scaled L la2 (Nat.le_trans n3 (by decide)) fun E hE => ?_
    rfl'
    have sE := (Sub.refl H').new (o := .list (p.2.map eV)) hE
    rw [hcr] at n2 hno ⊢
    refine (wc_Elements_put (n := n + 4) L (xi.sub sE) (by lia) (by rw [List.length_take]; lia) (by rw [List.length_cons] at n2; lia) (uS _ _ _) (Nat.le_trans n3 (by decide)) fun H3 x3 k3 => ?_).wv
    rfl'
    refine hK.next (.mk (i + 1) _ H3 ⟨fun b ob e q1 q2 => k3.keep _ _ (sE _ _ (k.keep _ _ e q1 q2)) q1 q2, k.tab, k.lon⟩ ?_)
    rw [astore_new hno, ← hcr] at x3
    rw [take_succ' hp]
    exact x3
  · obtain ⟨μ5, _, k, xi⟩ := q
    have hlv : (T'.map fun y => tupI y.1).length = T.length := by rw [List.length_map, hlen]
    rw [hlv, List.take_length] at xi
    have lgne : lg ≠ lg' := by rintro rfl; rw [c1] at hlg'; cases hlg'
    have elk : El H' o t lg T N := el2.kp k tne lgne
    have hi3 := k.inst hi2
    have htt := k.keep _ _ ht2 tne (ne_of ht2 ga nofun)
    have hold : ∀ b ob, H b = some ob → b ≠ t → H' b = some ob := fun b ob e q => k.keep _ _ (bt1 _ _ e q) (by rintro rfl; rw [ht'] at e; cases e) (by rintro rfl; rw [hlg'] at e; cases e)
    obtain ⟨dx, bs, l, d1, d2, d3, d4⟩ := elk.bases
    obtain ⟨dx8, bs8, l8, T8, ep8, G8, f1, f2, f3, f4, g1, g2, g3, g4, g5⟩ := xi
    rw [f1] at hi3
    obtain rfl : dx8 = dx' := by cases hi3; rfl
    have dne : dx ≠ dx8 := by
      obtain ⟨dx0, _, _, a1, a2, _⟩ := x.bases
      rintro rfl
      have := hold _ _ a1 (ne_of a1 b1 nofun)
      rw [d1] at this; cases this
      rw [hdx'] at a2; cases a2
    have hl : l.length = 18 := d4.len
    clear hi3 k hi2 el2 bt1 ta ga hlv c1 c2 x2 ht2 f3 f4
    rfl'
    refine at_ok L d1 d2 (by rfl) (by rfl) (by rfl) ?_
    rfl'
    refine wv_list_list d3 (by lia) fun D hD => ?_
    have sD := (Sub.refl H').new (o := .list l) hD
    have hDl : upd H' D (.list l) D = some (.list l) := uS _ _ _
    replace d1 := sD _ _ d1
    replace d2 := sD _ _ d2
    replace d4 := d4.imp (fun _ _ e => sD _ _ e) (fun _ _ e => sD _ _ e)
    replace f1 := sD _ _ f1
    replace f2 := sD _ _ f2
    replace g1 := sD _ _ g1
    replace g2 := g2.imp fun _ _ e => sD _ _ e
    replace g3 := sD _ _ g3
    replace htt := sD _ _ htt
    replace hold : ∀ b ob, H b = some ob → b ≠ t → upd H' D (.list l) b = some ob := fun b ob e q => sD _ _ (hold _ _ e q)
    clear sD elk hD d3
    generalize upd H' D (.list l) = H3 at d1 d2 d4 f1 f2 g1 g2 g3 hDl htt hold
    rfl'
    refine as_ok L f1 f2 (by rfl) (by rfl) (Nat.le_of_ble_eq_true rfl) ?_
    have kp : ∀ {b ob}, H3 b = some ob → b ≠ dx8 → upd H3 dx8 (.ns [(7, .ref t'), (8, .ref lg'), (9, .tup [.int 1, .int 1, .int 1]), (10, .ref D)]) b = some ob := fun e ne => upd_keep e ne
    have nx : ∀ {b ob}, H3 b = some ob → (∀ l, ob ≠ .ns l) → upd H3 dx8 (.ns [(7, .ref t'), (8, .ref lg'), (9, .tup [.int 1, .int 1, .int 1]), (10, .ref D)]) b = some ob := fun e ne => kp e (by rintro rfl; rw [f2] at e; cases e; exact ne _ rfl)
    replace d1 := nx d1 nofun
    replace d2 := kp d2 dne
    replace d4 : BR (upd H3 dx8 (.ns [(7, .ref t'), (8, .ref lg'), (9, .tup [.int 1, .int 1, .int 1]), (10, .ref D)])) l baseL := br_keep d4 f2 (by rintro ⟨_, _, _⟩; simp)
    replace g2 := g2.imp fun _ _ e => nx e nofun
    replace g1 := nx g1 nofun
    replace g3 := nx g3 nofun
    replace hDl := nx hDl nofun
    replace htt := nx htt nofun
    replace f1 := nx f1 nofun
    replace hold : ∀ b ob, H b = some ob → b ≠ t → upd H3 dx8 (.ns [(7, .ref t'), (8, .ref lg'), (9, .tup [.int 1, .int 1, .int 1]), (10, .ref D)]) b = some ob := fun b ob e q => kp (hold _ _ e q) (by rintro rfl; rw [hdx'] at e; cases e)
    replace f2 : upd H3 dx8 (.ns [(7, .ref t'), (8, .ref lg'), (9, .tup [.int 1, .int 1, .int 1]), (10, .ref D)]) dx8 = some (.ns [(7, .ref t'), (8, .ref lg'), (9, .tup [.int 1, .int 1, .int 1]), (10, .ref D)]) := uS _ _ _
    clear kp nx
    change seqK _ _ _ _ (upd H3 dx8 (.ns [(7, .ref t'), (8, .ref lg'), (9, .tup [.int 1, .int 1, .int 1]), (10, .ref D)]))
    generalize upd H3 dx8 (.ns [(7, .ref t'), (8, .ref lg'), (9, .tup [.int 1, .int 1, .int 1]), (10, .ref D)]) = H4 at d1 d2 d4 f1 f2 g1 g2 g3 hDl htt hold
    rfl'
    refine at_ok L d1 d2 (by rfl) (by rfl) (by rfl) ?_
    rfl'
    refine idx_tupN (by decide) (by decide) (by rfl) ?_
    rfl'
    refine at_ok L d1 d2 (by rfl) (by rfl) (by rfl) ?_
    rfl'
    refine idx_tupN (by decide) (by decide) (by rfl) ?_
    rfl'
    refine at_ok L d1 d2 (by rfl) (by rfl) (by rfl) ?_
    rfl'
    refine idx_tupN (by decide) (by decide) (by rfl) ?_
    rfl'
    refine as_ok L f1 f2 (by rfl) (by rfl) (Nat.le_of_ble_eq_true rfl) ?_
    rfl'
    have kp : ∀ {b ob}, H4 b = some ob → b ≠ dx8 → upd H4 dx8 (.ns [(7, .ref t'), (8, .ref lg'), (9, .tup [.int (1 * 1), .int (1 * 1), .int (1 * 1)]), (10, .ref D)]) b = some ob := fun e ne => upd_keep e ne
    have nx : ∀ {b ob}, H4 b = some ob → (∀ l, ob ≠ .ns l) → upd H4 dx8 (.ns [(7, .ref t'), (8, .ref lg'), (9, .tup [.int (1 * 1), .int (1 * 1), .int (1 * 1)]), (10, .ref D)]) b = some ob := fun e ne => kp e (by rintro rfl; rw [f2] at e; cases e; exact ne _ rfl)
    have bt : Bt1 H (upd H4 dx8 (.ns [(7, .ref t'), (8, .ref lg'), (9, .tup [.int (1 * 1), .int (1 * 1), .int (1 * 1)]), (10, .ref D)])) t := fun b ob e q => kp (hold _ _ e q) (by rintro rfl; rw [hdx'] at e; cases e)
    refine h _ o' (.mk t' lg' bt ho' ht' hlg' (x.keep1 bt fun T'' e e1 => ?_) (.mk dx8 D l T8 ep8 G8 (nx f1 nofun) (uS _ _ _) (nx hDl nofun) (br_keep d4 f2 (by rintro ⟨_, _, _⟩; simp)) (nx g1 nofun) (g2.imp fun _ _ e => nx e nofun) (nx g3 nofun) g4 g5))
    rw [b1] at e1; cases e1
    exact ⟨_, nx htt nofun⟩
theorem wc_copy (L : IsL W) {o t lg : Addr} {T : List (List Int × List Ele)} {N : Nat} (x : El H o t lg T N) (hT : T.length ≤ 100) (hne : ∀ p ∈ T, p.1 ≠ [] ∧ p.1.length ≤ 50 ∧ p.2.length ≤ 900) (hnd : (T.map (·.1)).Nodup)
    (h : ∀ H' o', CpQ H H' o t lg T N o' → Q (.ref o') H') : WC W (n + 7) 303 [.ref o] H Q := by
  refine fc_Elements_copy (n := n + 6) L ?_
  unfold ss_Elements_copy
  rfl'
  refine x.me L (by rfl) ?_
  rfl'
  exact (wc_scaled (n := n) L x hT hne hnd h).wv
end
section
variable {W : Wd} {n : Nat} {cx : Cx} {ρ : Loc} {H : AH} {Q : V → AH → Prop}
theorem adel_look {α : Type} {T : List (List Int × α)} {k k' : List Int} (h : k' ≠ k) : alook (adel T k) k' = alook T k' := by
  unfold alook adel
  induction T with
  | nil => rfl
  | cons p T ih =>
    by_cases e : p.1 = k
    · rw [List.filter_cons_of_neg (by simpa using e), List.find?_cons_of_neg (by rw [e]; simpa using Ne.symm h)]; exact ih
    · rw [List.filter_cons_of_pos (by simpa using e)]
      by_cases e' : p.1 = k'
      · rw [List.find?_cons_of_pos (by simpa using e'), List.find?_cons_of_pos (by simpa using e')]
      · rw [List.find?_cons_of_neg (by simpa using e'), List.find?_cons_of_neg (by simpa using e')]; exact ih
theorem adel_self {α : Type} {T : List (List Int × α)} {k : List Int} : alook (adel T k) k = none := by
  unfold alook adel
  rw [Option.map_eq_none_iff, List.find?_eq_none]
  intro p hp
  have := (List.mem_filter.mp hp).2
  simpa using this
theorem adel_len {α : Type} (T : List (List Int × α)) (k : List Int) : (adel T k).length ≤ T.length := List.length_filter_le _ _
theorem adel_mem {α : Type} {T : List (List Int × α)} {k : List Int} {p : List Int × α} (h : p ∈ adel T k) : p ∈ T := (List.mem_filter.mp h).1
noncomputable def firstIs (c : Int) (v : V) : Bool := match keyOf v with | x :: _ => decide (x = c) | [] => false
noncomputable def lenV (v : V) : V := .int ((keyOf v).length : Int)
noncomputable def szF (c : Int) (l : List (List Int)) : List Int := (l.filter fun k => firstIs c (tupI k)).map fun k => (k.length : Int)
theorem sz_map (c : Int) {α : Type} (U : List (List Int × α)) : (((U.map fun y => tupI y.1).filter (firstIs c)).map lenV) = (szF c (U.map (·.1))).map V.int := by
  unfold szF
  have : (U.map fun y => tupI y.1) = (U.map (·.1)).map tupI := by rw [List.map_map]; rfl
  rw [this, List.filter_map, List.map_map, List.map_map]
  refine List.map_congr_left fun k _ => ?_
  simp [lenV, keyOf_tupI]
theorem sz_mem {c : Int} {r : List Int} {l : List (List Int)} (h : c :: r ∈ l) : ((c :: r).length : Int) ∈ szF c l :=
  List.mem_map.mpr ⟨_, List.mem_filter.mpr ⟨h, by simp [firstIs, keyOf_tupI]⟩, rfl⟩
theorem sz_len (c : Int) (l : List (List Int)) : (szF c l).length ≤ l.length := by
  unfold szF
  rw [List.length_map]
  exact List.length_filter_le _ _
theorem wc_take_out (L : IsL W) {B : List BRow} {o t lg : Addr} {T : List (List Int × List Ele)} {c : Int} {r : List Int} {N : Nat} (x : ElB B H o t lg T N) (hin : hasK T (c :: r) = true) (hT : T.length ≤ 100) (hne : ∀ p ∈ T, p.1 ≠ [] ∧ p.1.length ≤ 50) (hN : N ≤ 900) (hr : r.length ≤ 50)
    (h : ∀ H', ElB B H' o t lg (adel T (c :: r)) (N + 1) → Kp H H' t lg → Q .none H') : WC W (n + 1) 284 [.ref o, tupI (c :: r)] H Q := by
  obtain ⟨dx, bs, l, T', ep, G, a1, a2, a3, a4, b1, b2, c1, c2, c3⟩ := x
  have hlen := b2.len
  refine fc_Elements_take_out L ?_
  unfold ss_Elements_take_out
  rfl'
  refine wv_tuple_tup ?_
  rfl'
  refine at_ok L a1 a2 (by rfl) (by rfl) (by rfl) ?_
  refine ⟨_, cmp_in_t (k := c :: r) b1, ?_⟩
  rw [b2.has, hin]
  rfl'
  refine at_ok L a1 a2 (by rfl) (by rfl) (by rfl) ?_
  refine me_pop_t b1 ?_
  rfl'
  obtain ⟨v, hv⟩ : ∃ v, alook T' (c :: r) = some v := by
    have := b2.has (c :: r)
    rw [hin] at this
    exact Option.isSome_iff_exists.mp this
  refine wv_pop_t (k := c :: r) b1 (by lia) hv ?_
  have nt : ∀ {b : Addr} {ob : O}, H b = some ob → (∀ T e, ob ≠ .tdict T e) → upd H t (.tdict (adel T' (c :: r)) none) b = some ob := fun e q => upd_keep e (by rintro rfl; rw [b1] at e; cases e; exact q _ _ rfl)
  have kp : Kp H (upd H t (.tdict (adel T' (c :: r)) none)) t lg := ⟨fun b ob e q1 q2 => upd_keep e q1, ⟨_, _, b1⟩, ⟨_, c1⟩⟩
  replace b2 := (b2.imp fun _ _ e => nt e nofun).del (c :: r)
  replace a4 := a4.imp (fun _ _ e => nt e nofun) (fun _ _ e => nt e nofun)
  replace a1 := nt a1 nofun
  replace a2 := nt a2 nofun
  replace a3 := nt a3 nofun
  replace c1 := nt c1 nofun
  replace b1 : upd H t (.tdict (adel T' (c :: r)) none) t = some (.tdict (adel T' (c :: r)) none) := uS _ _ _
  clear nt hv
  generalize upd H t (.tdict (adel T' (c :: r)) none) = H1 at a1 a2 a3 c1 a4 b1 b2 kp
  have hkeys := b2.keys
  have hlen2 := b2.len
  have hlen3 := adel_len T (c :: r)
  generalize adel T' (c :: r) = U' at b1 b2 hkeys hlen2
  rfl'
  refine vs_asgc (by rfl) (own1 rfl) (sub1 rfl) ?_
  refine vi_dict ?_
  rfl'
  refine at_ok L a1 a2 (by rfl) (by rfl) (by rfl) ?_
  refine ⟨t, U', _, rfl, b1, fun ep => ?_⟩
  have nt : ∀ {b : Addr} {ob : O}, H1 b = some ob → (∀ T e, ob ≠ .tdict T e) → upd H1 t (.tdict U' (some ep)) b = some ob := fun e q => upd_keep e (by rintro rfl; rw [b1] at e; cases e; exact q _ _ rfl)
  replace b2 := b2.imp fun _ _ e => nt e nofun
  replace kp : Kp H (upd H1 t (.tdict U' (some ep))) t lg := ⟨fun b ob e q1 q2 => upd_keep (kp.keep _ _ e q1 q2) q1, kp.tab, kp.lon⟩
  replace a4 := a4.imp (fun _ _ e => nt e nofun) (fun _ _ e => nt e nofun)
  replace a1 := nt a1 nofun
  replace a2 := nt a2 nofun
  replace a3 := nt a3 nofun
  replace c1 := nt c1 nofun
  replace b1 : upd H1 t (.tdict U' (some ep)) t = some (.tdict U' (some ep)) := uS _ _ _
  clear nt
  generalize upd H1 t (.tdict U' (some ep)) = H2 at a1 a2 a3 c1 a4 b1 b2 kp
  refine cb_filter (f := lenV) (p := firstIs c) (by rw [List.length_map]; lia) b1 (fun v hv => ?_) (fun D hD => ?_)
  · obtain ⟨p, hp, rfl⟩ := List.mem_map.mp hv
    have hpk : p.1 ∈ (adel T (c :: r)).map (·.1) := by rw [← hkeys]; exact List.mem_map_of_mem hp
    obtain ⟨q, hq, hqe⟩ := List.mem_map.mp hpk
    obtain ⟨n1, n2⟩ := hne q (adel_mem hq)
    rw [hqe] at n1 n2
    obtain ⟨c', r', hcr⟩ : ∃ c' r', p.1 = c' :: r' := List.exists_cons_of_ne_nil n1
    rw [hcr] at n2 ⊢
    clear hq hqe hpk hp hv n1
    rfl'
    refine idx_tupN (by decide) (by decide) (v := .int c') (by rfl) ?_
    rfl'
    refine idx_tupN (by decide) (by decide) (v := .int c) (by rfl) ?_
    rfl'
    refine ⟨by simp only [firstIs, keyOf_tupI]; rfl, rfl, fun _ => ?_⟩
    rfl'
    refine wv_len_tup (l := (c' :: r').map V.int) (by rw [List.length_map]; lia) ?_
    refine ⟨?_, rfl⟩
    unfold lenV
    rw [keyOf_tupI, List.length_map]
  rw [sz_map]
  have hnl : (szF c (U'.map (·.1))).length ≤ 100 := by
    refine Nat.le_trans (sz_len _ _) ?_
    rw [List.length_map]; lia
  have hn0 : ∀ i ∈ szF c (U'.map (·.1)), 0 ≤ i := fun i hi => by obtain ⟨k, _, rfl⟩ := List.mem_map.mp hi; exact Int.natCast_nonneg _
  have hnm : ∀ r', c :: r' ∈ U'.map (·.1) → ((c :: r').length : Int) ∈ szF c (U'.map (·.1)) := fun r' h => sz_mem h
  generalize szF c (U'.map (·.1)) = ns at hnl hnm hn0
  have sD := (Sub.refl H2).new (o := .list (ns.map V.int)) hD
  have hDl : upd H2 D (.list (ns.map V.int)) D = some (.list (ns.map V.int)) := uS _ _ _
  generalize upd H2 D (.list (ns.map V.int)) = H3 at sD hDl
  rfl'
  intro E hE
  rfl'
  refine op_list_add (uS _ _ _) (uO hE hDl) (by simp) (by rw [List.length_map]; exact Nat.le_trans hnl (by decide)) fun F hF => ?_
  have sF := (sD.new (o := .list [.int 0]) hE).new (o := .list ([.int 0] ++ ns.map V.int)) hF
  have hFl : upd (upd H3 E (.list [.int 0])) F (.list ([.int 0] ++ ns.map V.int)) F = some (.list (((0 : Int) :: ns).map V.int)) := uS _ _ _
  generalize upd (upd H3 E (.list [.int 0])) F (.list ([.int 0] ++ ns.map V.int)) = H4 at sF hFl
  clear hF hE hDl sD hD hnl hn0 hlen hlen2 hlen3 hT
  rfl'
  refine wv_max_list hFl (List.cons_ne_nil _ _) fun M hM1 hM2 => ?_
  obtain ⟨m, rfl⟩ : ∃ m : Nat, M = m := ⟨M.toNat, (Int.toNat_of_nonneg (hM2 0 (.head _))).symm⟩
  rfl'
  refine at_ok L (sF _ _ a1) (sF _ _ a2) (by rfl) (by rfl) (by rfl) ?_
  rfl'
  refine idx_tupN (by decide) (by decide) (v := .int c) (by rfl) ?_
  refine ⟨_, set_i (sF _ _ c1) (by unfold gV; rw [List.length_map]; lia), ?_⟩
  rw [← gV_store]
  rfl'
  have nt : ∀ {b : Addr} {ob : O}, H2 b = some ob → (∀ T, ob ≠ .idict T) → upd H4 lg (.idict (gV (astore G c m))) b = some ob := fun e q => upd_keep (sF _ _ e) (by rintro rfl; rw [c1] at e; cases e; exact q _ rfl)
  refine h _ (.mk dx bs l U' _ _ (nt a1 nofun) (nt a2 nofun) (nt a3 nofun) (a4.imp (fun _ _ e => nt e nofun) (fun _ _ e => nt e nofun)) (nt b1 nofun) (b2.imp fun _ _ e => nt e nofun) (uS _ _ _) (fun p hp => ?_) (Nat.le_trans (astore_len _ _ _) (Nat.succ_le_succ c3)))
    ⟨fun b ob e q1 q2 => upd_keep (sF _ _ (kp.keep _ _ e q1 q2)) q2, kp.tab, kp.lon⟩
  obtain ⟨c', r', m', e1, e2, e3⟩ := c2 p (adel_mem hp)
  by_cases ec' : c' = c
  · subst ec'
    refine ⟨c', r', m, e1, by rw [alook_store, if_pos rfl], ?_⟩
    have hpk : p.1 ∈ U'.map (·.1) := by rw [hkeys]; exact List.mem_map_of_mem hp
    rw [e1] at hpk ⊢
    exact Int.ofNat_le.mp (hM2 _ (.tail _ (hnm _ hpk)))
  · exact ⟨c', r', m', e1, by rw [alook_store, if_neg ec']; exact e2, e3⟩
end
section
variable {W : Wd} {n : Nat} {cx : Cx} {ρ : Loc} {H : AH} {Q : V → AH → Prop}
noncomputable def LikeOk (W : Wd) (v u : V) (b : Bool) : Prop := ∀ (n : Nat) (H : AH) (Q : V → AH → Prop), Q (.bool b) H → WC W (n + 1) 380 [v, u] H Q
theorem cmp_bools {a b : Bool} : CmpOk W n .Eq (.bool a) (.bool b) H (a == b) := by
  have h := cmp_eqd (W := W) (n := n) (H := H) (.bool a) (.bool b) rfl rfl (by simp [PyData.depth])
  exact h
theorem like_of (L : IsL W) {v u : V} {d e : PyData} {a b r : Bool} (hv : ∀ H, Den H v d) (hu : ∀ H, Den H u e) (hd : d.canLay0 = true) (he : e.canLay0 = true) (hr : d.depth ≤ 50) (ha : isBoolV v = some a) (hb : isBoolV u = some b) (e1 : PyData.eqv d e = r) (e2 : r = true → a = b) : LikeOk W v u r := by
  intro n H Q h
  refine fc_range_are_like L ?_
  unfold ss_range_are_like
  rfl'
  refine we_and2 (we_cmp (we_loc (by rfl) (we_loc (by rfl) ⟨_, cmp_eqd (hv H) (hu H) hd he (by lia), ⟨_, rfl, fun q => ?_, fun q => vE_sound _ ?_⟩⟩)))
  · rw [e1] at q; subst q; exact h
  · rw [e1] at q; subst q
    rfl'
    refine ⟨_, ha, ?_⟩
    rfl'
    refine ⟨_, hb, ?_⟩
    refine ⟨_, cmp_bools, ?_⟩
    rw [e2 rfl, show (b == b) = true by simp]
    exact h
theorem like_ii (L : IsL W) {i j : Int} {r : Bool} (h : (i == j) = r) : LikeOk W (.int i) (.int j) r :=
  like_of L (d := .int i) (e := .int j) (a := false) (b := false) (fun _ => .int i) (fun _ => .int j) rfl rfl (by simp [PyData.depth]) rfl rfl (by rw [PyData.eqv]; exact h) fun _ => rfl
noncomputable def dmD (b : Int) : PyData := .tuple [.str "", .tuple [.int 97, .int b]]
theorem den_dm (b : Int) (H : AH) : Den H (dmT b) (dmD b) := .tupCons (.str "") (.tupCons (.tupCons (.int _) (.tupCons (.int _) .tupNil)) .tupNil)
theorem lay_dm (b : Int) : (dmD b).canLay0 = true := by
  unfold dmD
  have : PyData.canLay0 (.str "") = true := by decide +kernel
  rw [PyData.canLay0, PyData.canLayAll0, this]; rfl
theorem like_nt (L : IsL W) {b : Int} : LikeOk W .none (dmT b) false :=
  like_of L (d := .none) (e := dmD b) (a := false) (b := false) (fun _ => .none) (fun H => den_dm b H) rfl (lay_dm b) (by simp [PyData.depth]) rfl rfl rfl fun _ => rfl
theorem like_tt (L : IsL W) : LikeOk W (dmT 768) (dmT 769) false :=
  like_of L (d := dmD 768) (e := dmD 769) (a := false) (b := false) (fun H => den_dm _ H) (fun H => den_dm _ H) (lay_dm _) (lay_dm _) (by decide +kernel) rfl rfl (by decide +kernel) fun _ => rfl
theorem Bt1.trans {H H' H'' : AH} {g : Addr} (x : Bt1 H H' g) (y : Bt1 H' H'' g) : Bt1 H H'' g := fun b ob e ne => y b ob (x b ob e ne) ne
@[reducible] noncomputable def ssDrop : Nat → Ss → Ss
  | 0, c => c
  | k + 1, .cons _ cs => ssDrop k cs
  | _, .nil => .nil
noncomputable def rpL (r : Addr) (f l : Int) (low high : Nat) (value behind : V) (S U : Addr) : Loc := [some (.ref r), some (.int f), some (.int l), some value, some (.int (low : Int)), some (.int (high : Int)), some behind, some (.ref S), some (.ref U)]
theorem rp_tail (L : IsL W) {r dx S U : Addr} {d value behind : V} {ss st2 : List Int} {vs ut2 : List V} {f l : Int} {low high : Nat} (x : RM H r dx d ss vs) (hl : ss.length ≤ 100) (hvl : vs.length ≤ 100) (hlow' : low ≤ ss.length) (hhigh' : high ≤ ss.length)
    (hS3 : H S = some (.list (st2.map .int))) (hU3 : H U = some (.list ut2)) (hsl2 : st2.length ≤ 2) (hul2 : ut2.length ≤ 2)
    (h : ∀ H', Bt1 H H' dx → RM H' r dx d (ss.take low ++ st2 ++ ss.drop high) (vs.take low ++ ut2 ++ vs.drop high) → Q .none H') :
    vSs W (n + 1) cx_RangeMap_put (ssDrop 7 ss_RangeMap_put) (rpL r f l low high value behind S U) H (rK Q) := by
  obtain ⟨s, v, a1, a2, a3⟩ := x.lists
  have a0 := x.inst
  have hl1 : (ss.map V.int).length ≤ 1000 := lmap (Nat.le_trans hl (by decide))
  have hv1 : vs.length ≤ 1000 := Nat.le_trans hvl (by decide)
  unfold rpL ss_RangeMap_put
  rfl'
  refine at_ok L a0 a1 (by rfl) (by rfl) (by rfl) ?_
  rfl'
  refine sl_list_to (k := low) a2 hl1 fun C1 hC1 => ?_
  rfl'
  have s4 := (Sub.refl H).new (o := .list (List.take low (ss.map V.int))) hC1
  have hS4 := uO (o' := .list (List.take low (ss.map V.int))) hC1 hS3
  have hU4 := uO (o' := .list (List.take low (ss.map V.int))) hC1 hU3
  replace hC1 : upd H C1 (.list (List.take low (ss.map V.int))) C1 = some (.list (List.take low (ss.map V.int))) := uS _ _ _
  generalize upd H C1 (.list (List.take low (ss.map V.int))) = H4 at s4 hS4 hU4 hC1
  refine op_list_add hC1 hS4 (ltake hl1) (lmap (Nat.le_trans hsl2 (by decide))) fun C2 hC2 => ?_
  have s5 := s4.new (o := .list (List.take low (ss.map V.int) ++ st2.map V.int)) hC2
  have hU5 := uO (o' := .list (List.take low (ss.map V.int) ++ st2.map V.int)) hC2 hU4
  replace hC2 : upd H4 C2 (.list (List.take low (ss.map V.int) ++ st2.map V.int)) C2 = some (.list (List.take low (ss.map V.int) ++ st2.map V.int)) := uS _ _ _
  generalize upd H4 C2 (.list (List.take low (ss.map V.int) ++ st2.map V.int)) = H5 at s5 hU5 hC2
  rfl'
  refine at_ok L (s5 _ _ a0) (s5 _ _ a1) (by rfl) (by rfl) (by rfl) ?_
  rfl'
  refine sl_list_from (k := high) (s5 _ _ a2) hl1 fun C3 hC3 => ?_
  rfl'
  have s6 := s5.new (o := .list (List.drop high (ss.map V.int))) hC3
  have hU6 := uO (o' := .list (List.drop high (ss.map V.int))) hC3 hU5
  have hC26 := uO (o' := .list (List.drop high (ss.map V.int))) hC3 hC2
  replace hC3 : upd H5 C3 (.list (List.drop high (ss.map V.int))) C3 = some (.list (List.drop high (ss.map V.int))) := uS _ _ _
  generalize upd H5 C3 (.list (List.drop high (ss.map V.int))) = H6 at s6 hU6 hC26 hC3
  refine op_list_add hC26 hC3 (lapp (ltake (lmap hl)) (lmap hsl2) (by decide)) (ldrop hl1) fun C4 hC4 => ?_
  have s7 := s6.new (o := .list (List.take low (ss.map V.int) ++ st2.map V.int ++ List.drop high (ss.map V.int))) hC4
  have hU7 := uO (o' := .list (List.take low (ss.map V.int) ++ st2.map V.int ++ List.drop high (ss.map V.int))) hC4 hU6
  replace hC4 : upd H6 C4 (.list (List.take low (ss.map V.int) ++ st2.map V.int ++ List.drop high (ss.map V.int))) C4 = some (.list ((ss.take low ++ st2 ++ ss.drop high).map V.int)) := by rw [uS]; simp
  generalize upd H6 C4 (.list (List.take low (ss.map V.int) ++ st2.map V.int ++ List.drop high (ss.map V.int))) = H7 at s7 hU7 hC4
  rfl'
  refine as_ok L (s7 _ _ a0) (s7 _ _ a1) (by rfl) (by rfl) (by simp) ?_
  rfl'
  have b7 : Bt1 H (upd H7 dx (.ns (nput [(11, d), (12, .ref s), (13, .ref v)] 12 (.ref C4)))) dx := fun b ob e ne => upd_keep (s7 _ _ e) ne
  have nL : ∀ {b : Addr} {l : List V}, H7 b = some (.list l) → b ≠ dx := fun e => ne_of e (s7 _ _ a1) (by simp)
  have c0 := b7 _ _ a0 (ne_of a0 a1 (by simp))
  have c3 := b7 _ _ a3 (ne_of a3 a1 (by simp))
  replace hU7 : upd H7 dx (.ns (nput [(11, d), (12, .ref s), (13, .ref v)] 12 (.ref C4))) U = some (.list ut2) := upd_keep hU7 (nL hU7)
  replace hC4 : upd H7 dx (.ns (nput [(11, d), (12, .ref s), (13, .ref v)] 12 (.ref C4))) C4 = some (.list ((ss.take low ++ st2 ++ ss.drop high).map V.int)) := upd_keep hC4 (nL hC4)
  have c1 : upd H7 dx (.ns (nput [(11, d), (12, .ref s), (13, .ref v)] 12 (.ref C4))) dx = some (.ns [(11, d), (12, .ref C4), (13, .ref v)]) := uS _ _ _
  clear nL
  generalize upd H7 dx (.ns (nput [(11, d), (12, .ref s), (13, .ref v)] 12 (.ref C4))) = H8 at b7 c0 c3 hU7 hC4 c1
  refine at_ok L c0 c1 (by rfl) (by rfl) (by rfl) ?_
  rfl'
  refine sl_list_to (k := low) c3 hv1 fun D1 hD1 => ?_
  rfl'
  have s9 := (Sub.refl H8).new (o := .list (vs.take low)) hD1
  replace hD1 : upd H8 D1 (.list (vs.take low)) D1 = some (.list (vs.take low)) := uS _ _ _
  generalize upd H8 D1 (.list (vs.take low)) = H9 at s9 hD1
  refine op_list_add hD1 (s9 _ _ hU7) (ltake hv1) (Nat.le_trans hul2 (by decide)) fun D2 hD2 => ?_
  have s10 := s9.new (o := .list (vs.take low ++ ut2)) hD2
  replace hD2 : upd H9 D2 (.list (vs.take low ++ ut2)) D2 = some (.list (vs.take low ++ ut2)) := uS _ _ _
  generalize upd H9 D2 (.list (vs.take low ++ ut2)) = H10 at s10 hD2
  rfl'
  refine at_ok L (s10 _ _ c0) (s10 _ _ c1) (by rfl) (by rfl) (by rfl) ?_
  rfl'
  refine sl_list_from (k := high) (s10 _ _ c3) hv1 fun D3 hD3 => ?_
  rfl'
  have s11 := s10.new (o := .list (vs.drop high)) hD3
  have hD2' := uO (o' := .list (vs.drop high)) hD3 hD2
  replace hD3 : upd H10 D3 (.list (vs.drop high)) D3 = some (.list (vs.drop high)) := uS _ _ _
  generalize upd H10 D3 (.list (vs.drop high)) = H11 at s11 hD2' hD3
  refine op_list_add hD2' hD3 (lapp (ltake hvl) hul2 (by decide)) (ldrop hv1) fun D4 hD4 => ?_
  have s12 := s11.new (o := .list (vs.take low ++ ut2 ++ vs.drop high)) hD4
  replace hD4 : upd H11 D4 (.list (vs.take low ++ ut2 ++ vs.drop high)) D4 = some (.list (vs.take low ++ ut2 ++ vs.drop high)) := uS _ _ _
  generalize upd H11 D4 (.list (vs.take low ++ ut2 ++ vs.drop high)) = H12 at s12 hD4
  rfl'
  refine as_ok L (s12 _ _ c0) (s12 _ _ c1) (by rfl) (by rfl) (by simp) ?_
  rfl'
  refine h _ (b7.trans fun b ob e ne => upd_keep (s12 _ _ e) ne) ⟨upd_keep (s12 _ _ c0) (ne_of c0 c1 (by simp)), C4, D4, uS _ _ _, upd_keep (s12 _ _ hC4) (ne_of hC4 c1 (by simp)), upd_keep hD4 (ne_of hD4 (s12 _ _ c1) (by simp))⟩
theorem rp_second (L : IsL W) {r dx S U : Addr} {d value behind prev : V} {ss st : List Int} {vs ut : List V} {f l : Int} {b2 : Bool} {low high : Nat} (x : RM H r dx d ss vs) (hl : ss.length ≤ 100) (hvl : vs.length ≤ 100) (hlow' : low ≤ ss.length) (hhigh' : high ≤ ss.length) (h0 : 0 < low)
    (hprev : vs[low - 1]? = some prev) (k2 : LikeOk W prev value b2)
    (hS2 : H S = some (.list (st.map .int))) (hU2 : H U = some (.list ut)) (hsl : st.length ≤ 2) (hul : ut.length ≤ 2)
    (h : ∀ H', Bt1 H H' dx → RM H' r dx d (ss.take low ++ (if b2 then st.drop 1 else st) ++ ss.drop high) (vs.take low ++ (if b2 then ut.drop 1 else ut) ++ vs.drop high) → Q .none H') :
    vSs W (n + 1) cx_RangeMap_put (ssDrop 6 ss_RangeMap_put) (rpL r f l low high value behind S U) H (rK Q) := by
  obtain ⟨s, v, a1, a2, a3⟩ := x.lists
  have a0 := x.inst
  have hp' : low - 1 < vs.length := g_lt hprev
  unfold rpL ss_RangeMap_put
  rfl'
  refine call_true (by simpa using h0) ?_
  rfl'
  refine at_ok L a0 a1 (by rfl) (by rfl) (by rfl) ?_
  rfl'
  refine idx_list a3 (j := low - 1) (v := prev) (by rw [cast_pr h0]; exact seq_nat hp') hprev (nabs2 (Nat.le_trans hlow' hl)) ?_
  rfl'
  refine k2 n _ _ ?_
  rfl'
  cases b2 with
  | false =>
    refine pr_f (pr_f ?_)
    exact rp_tail L x hl hvl hlow' hhigh' hS2 hU2 hsl hul h
  | true =>
    refine pr_t ?_
    rfl'
    refine sl_list_from (k := 1) hS2 (lmap (Nat.le_trans hsl (by decide))) fun S' hS' => ?_
    rfl'
    have s3 := (Sub.refl H).new (o := .list (List.drop 1 (st.map V.int))) hS'
    have hU3 := uO (o' := .list (List.drop 1 (st.map V.int))) hS' hU2
    have hS3 : upd H S' (.list (List.drop 1 (st.map V.int))) S' = some (.list ((st.drop 1).map V.int)) := by rw [uS, List.map_drop]
    generalize upd H S' (.list (List.drop 1 (st.map V.int))) = H3 at s3 hU3 hS3
    refine sl_list_from (k := 1) hU3 (Nat.le_trans hul (by decide)) fun U' hU' => ?_
    rfl'
    have s4 := s3.new (o := .list (List.drop 1 ut)) hU'
    exact rp_tail L (x.sub s4) hl hvl hlow' hhigh' (uO hU' hS3) (uS _ _ _) (ldrop hsl) (ldrop hul) fun H' b q => h H' (fun b' ob e ne => b b' ob (s4 _ _ e) ne) q
theorem wc_RangeMap_put (L : IsL W) {r dx : Addr} {d value behind prev : V} {ss : List Int} {vs : List V} {f l : Int} {b1 b2 : Bool} {low high : Nat} (x : RM H r dx d ss vs) (hs : ss.Pairwise (· < ·)) (hl : ss.length ≤ 100) (hvl : vs.length ≤ 100) (hfl : f ≤ l ∧ l < 1114111)
    (hlow : cnt ss (f - 1) = low) (hhigh : cnt ss (l + 1) = high) (h0 : 0 < low) (h1 : 0 < high) (hbehind : vs[high - 1]? = some behind) (hprev : vs[low - 1]? = some prev) (k1 : LikeOk W behind value b1) (k2 : LikeOk W prev value b2)
    (h : ∀ H', Bt1 H H' dx → RM H' r dx d (ss.take low ++ (if b2 then (if b1 then [f] else [f, l + 1]).drop 1 else (if b1 then [f] else [f, l + 1])) ++ ss.drop high) (vs.take low ++ (if b2 then (if b1 then [value] else [value, behind]).drop 1 else (if b1 then [value] else [value, behind])) ++ vs.drop high) → Q .none H') :
    WC W (n + 2) 408 [.ref r, .int f, .int l, value] H Q := by
  obtain ⟨s, v, a1, a2, a3⟩ := x.lists
  have a0 := x.inst
  have hlow' := cnt_le ss (f - 1)
  have hhigh' := cnt_le ss (l + 1)
  rw [hlow] at hlow'
  rw [hhigh] at hhigh'
  refine fc_RangeMap_put (n := n + 1) L ?_
  unfold ss_RangeMap_put
  rfl'
  refine call_false (by simp; lia) ?_
  rfl'
  refine at_ok L a0 a1 (by rfl) (by rfl) (by rfl) ?_
  rfl'
  refine wc_place_by_half L a2 hs (Nat.le_trans hl (by decide)) ?_
  rfl'
  with_reducible conv => whnf
  rw [hlow, Int.sub_add_cancel]
  refine at_ok L a0 a1 (by rfl) (by rfl) (by rfl) ?_
  rfl'
  refine wc_place_by_half L a2 hs (Nat.le_trans hl (by decide)) ?_
  rfl'
  with_reducible conv => whnf
  rw [hhigh, Int.sub_add_cancel]
  refine at_ok L a0 a1 (by rfl) (by rfl) (by rfl) ?_
  rfl'
  have hb' : high - 1 < vs.length := g_lt hbehind
  refine idx_list a3 (j := high - 1) (v := behind) (by rw [cast_pr h1]; exact seq_nat hb') hbehind (nabs2 (Nat.le_trans hhigh' hl)) ?_
  rfl'
  intro S hS
  rfl'
  intro U hU
  have n1 := upd_new hU
  have hUS := n1.2
  have s0 : Sub H (upd (upd H S (.list [.int f])) U (.list [value])) := ((Sub.refl H).new hS).new hU
  have hS0 : upd (upd H S (.list [.int f])) U (.list [value]) S = some (.list [.int f]) := uO hU (uS _ _ _)
  have hU0 : upd (upd H S (.list [.int f])) U (.list [value]) U = some (.list [value]) := uS _ _ _
  clear n1
  generalize upd (upd H S (.list [.int f])) U (.list [value]) = H1 at s0 hS0 hU0
  rfl'
  refine call_true (decide_eq_true hfl.2) ?_
  rfl'
  refine k1 n _ _ ?_
  rfl'
  cases b1 with
  | true =>
    refine pr_f (pr_f ?_)
    exact rp_second L (st := [f]) (x.sub s0) hl hvl hlow' hhigh' h0 hprev k2 hS0 hU0 (Nat.le_of_ble_eq_true rfl) (Nat.le_of_ble_eq_true rfl) fun H' b q => h H' (fun b' ob e ne => b b' ob (s0 _ _ e) ne) q
  | false =>
    refine pr_t ?_
    rfl'
    refine me_append hS0 ?_
    rfl'
    refine wv_append hS0 (Nat.le_of_ble_eq_true rfl) ?_
    have hS1 : H1 S ≠ none := by rw [hS0]; exact nofun
    have hU1 : upd H1 S (.list ([.int f] ++ [.int (l + 1)])) U = some (.list [value]) := upd_keep hU0 hUS
    have hS1 : upd H1 S (.list ([.int f] ++ [.int (l + 1)])) S = some (.list [.int f, .int (l + 1)]) := uS _ _ _
    have s1 : Sub H (upd H1 S (.list ([.int f] ++ [.int (l + 1)]))) := s0.put hS
    generalize upd H1 S (.list ([.int f] ++ [.int (l + 1)])) = H2 at hU1 hS1 s1
    rfl'
    refine me_append hU1 ?_
    rfl'
    refine wv_append hU1 (Nat.le_of_ble_eq_true rfl) ?_
    rfl'
    have s2 := s1.put (ob := .list ([value] ++ [behind])) ((Sub.new (Sub.refl H) hS).none hU)
    exact rp_second L (st := [f, l + 1]) (x.sub s2) hl hvl hlow' hhigh' h0 hprev k2 (upd_keep hS1 (Ne.symm hUS)) (uS _ _ _) (Nat.le_of_ble_eq_true rfl) (Nat.le_of_ble_eq_true rfl) fun H' b q => h H' (fun b' ob e ne => b b' ob (s2 _ _ e) ne) q
end
section
variable {W : Wd} {n : Nat} {cx : Cx} {ρ : Loc} {H : AH} {Q : V → AH → Prop}
theorem wv_RangeMap (L : IsL W) {d : V} (h : ∀ r dx H', Sub H H' → H r = none → H dx = none → RM H' r dx d [0] [d] → Q (.ref r) H') : WV W (n + 2) (.ref 423) [d] H Q := by
  refine wv_new (f := 394) (by rw [L.cplain]; rfl) (by rw [L.cinit]; rfl) fun x dx hx hdx hne => ?_
  have b : Bld H (upd (upd H dx (.ns [])) x (.inst 423 dx)) 423 x dx [] := .start hx hdx hne
  generalize upd (upd H dx (.ns [])) x (.inst 423 dx) = H0 at b
  clear hne hx
  refine fc_RangeMap__init_ L ?_
  unfold ss_RangeMap__init_
  rfl'
  refine as_ok L b.i b.n (by rfl) (by rfl) (Nat.le_of_ble_eq_true rfl) ?_
  replace b : Bld H (upd H0 dx (.ns (nput [] 11 d))) 423 x dx [(11, d)] := b.set
  generalize upd H0 dx (.ns (nput [] 11 d)) = H1 at b
  rfl'
  intro S hS
  replace b := b.new (o := .list [.int 0]) hS
  replace hS : upd H1 S (.list [.int 0]) S = some (.list [.int 0]) := uS _ _ _
  generalize upd H1 S (.list [.int 0]) = H2 at b hS
  rfl'
  refine as_ok L b.i b.n (by rfl) (by rfl) (Nat.le_of_ble_eq_true rfl) ?_
  replace hS := b.other (l' := nput [(11, d)] 12 (.ref S)) hS nofun
  replace b : Bld H (upd H2 dx (.ns (nput [(11, d)] 12 (.ref S)))) 423 x dx [(11, d), (12, .ref S)] := b.set
  generalize upd H2 dx (.ns (nput [(11, d)] 12 (.ref S))) = H3 at b hS
  rfl'
  intro U hU
  replace b := b.new (o := .list [d]) hU
  replace hS := uO (o' := .list [d]) hU hS
  replace hU : upd H3 U (.list [d]) U = some (.list [d]) := uS _ _ _
  generalize upd H3 U (.list [d]) = H4 at b hS hU
  rfl'
  refine as_ok L b.i b.n (by rfl) (by rfl) (Nat.le_of_ble_eq_true rfl) ?_
  rfl'
  replace hS := b.other (l' := nput [(11, d), (12, .ref S)] 13 (.ref U)) hS nofun
  replace hU := b.other (l' := nput [(11, d), (12, .ref S)] 13 (.ref U)) hU nofun
  replace b : Bld H (upd H4 dx (.ns (nput [(11, d), (12, .ref S)] 13 (.ref U)))) 423 x dx [(11, d), (12, .ref S), (13, .ref U)] := b.set
  exact ⟨rfl, h x dx _ b.s b.hx hdx ⟨b.i, S, U, b.n, hS, hU⟩⟩
noncomputable def DfR (ls : List (Str × V)) (k : Nat) : Prop := ls.length ≤ k ∧ alook ls "ccc" = some (.int 0) ∧ (alook ls "dm").getD .none = .none
theorem DfR.store {ls : List (Str × V)} {k : Nat} (x : DfR ls k) {m : Str} {v : V} (h1 : (m == ("ccc" : Str)) = false) (h2 : (m == ("dm" : Str)) = true → v = .none) : DfR (astore ls m v) (k + 1) := by
  obtain ⟨a, b, c⟩ := x
  refine ⟨Nat.le_trans (astore_len _ _ _) (by lia), ?_, ?_⟩
  · rw [alook_store, if_neg]
    · exact b
    · rintro rfl; simp at h1
  · rw [alook_store]
    by_cases e : (("dm" : Str) = m)
    · subst e
      rw [if_pos rfl, h2 (by simp)]; rfl
    · rw [if_neg e]; exact c
inductive DfI (F : Addr) (H1 : AH) (k : Nat) : Nat → Loc → AH → Prop
  | mk (i : Nat) (μ : Option V) (ls' : List (Str × V)) (hd : DfR ls' (k + i)) : DfI F H1 k i [some (.ref F), μ] (upd H1 F (.sdict ls'))
theorem dflt_for {e ve : E} {names : List Str} {v : V} {F : Addr} {μ : Option V} {ls : List (Str × V)} {k : Nat} {Q : AF → Loc → AH → Prop} (he : ∀ {ρ : Loc} {H : AH}, vE W n cx_data_defaults e ρ H fun v H1 => v = .tup (names.map .str) ∧ H1 = H) (hv : ∀ {ρ : Loc} {H : AH} {Q : V → AH → Prop}, Q v H → vE W n cx_data_defaults ve ρ H Q)
    (hn : names.all (fun m => !(m == ("ccc" : Str)) && (!(m == ("dm" : Str)) || v.isNone)) = true) (hF : H F = some (.sdict ls)) (hd : DfR ls k) (hk : k + names.length ≤ 900)
    (h : ∀ ls' μ, DfR ls' (k + names.length) → Q .next [some (.ref F), μ] (upd H F (.sdict ls'))) :
    WS W n cx_data_defaults (.for (.slot 1) (.plain e) (.cons (.asg (.idx (.loc 0) (.loc 1)) ve) .nil)) [some (.ref F), μ] H Q := by
  refine vs_for (by rfl) ?_
  refine wi_tup ?_
  refine (vE_sound e he).mono fun v1 H1 q => ?_
  obtain ⟨e1, e2⟩ := q
  subst e1 e2
  have h0 := DfI.mk (F := F) (H1 := H1) (k := k) 0 μ ls hd
  rw [upd_self hF] at h0
  refine ⟨_, rfl, DfI F H1 k, h0, fun _ _ _ _ => trivial, fun i v1 ρ H' K hv1 q hK => ?_, fun ρ H' q => ?_⟩
  · obtain ⟨μ, ls', hd'⟩ := q
    rw [List.getElem?_map] at hv1
    obtain ⟨m, hm, rfl⟩ := Option.map_eq_some_iff.mp hv1
    have hm1 := List.all_eq_true.mp hn m (List.mem_of_getElem? hm)
    simp only [Bool.and_eq_true, Bool.not_eq_true', Bool.or_eq_true] at hm1
    have hi : i < names.length := (List.getElem?_eq_some_iff.mp hm).1
    refine hv (ρ := [some (.ref F), some (.str m)]) (Q := fun v' H2 => vG W n cx_data_defaults (.idx (.loc 0) (.loc 1)) v' [some (.ref F), some (.str m)] H2 fun ρ2 H2 => seqK (fun ρ1 H1 => vSs W n cx_data_defaults .nil ρ1 H1 K) K .next ρ2 H2) ?_
    rfl'
    refine ⟨_, set_s (uS _ _ _) (by have := hd'.1; lia), ?_⟩
    rfl'
    have hn' := DfI.mk (F := F) (H1 := H1) (k := k) (i + 1) (some (.str m)) (astore ls' m v) (hd'.store hm1.1 fun q => by
      rcases hm1.2 with z | z
      · rw [q] at z; cases z
      · cases v <;> first | rfl | cases z)
    rw [upd_upd]
    exact hK.next hn'
  · obtain ⟨μ, ls', hd'⟩ := q
    rw [List.length_map] at hd'
    exact h _ _ hd'
theorem wc_data_defaults (L : IsL W) (h : ∀ H' F ls, Sub H H' → H F = none → H' F = some (.sdict ls) → DfR ls 100 → Q (.ref F) H') : WC W (n + 1) 441 [] H Q := by
  refine fc_data_defaults L ?_
  unfold ss_data_defaults
  rfl'
  refine we_dict_s nofun ?_
  refine wp_cons ?_
  rfl'
  refine wp_cons ?_
  rfl'
  refine wp_cons ?_
  rfl'
  refine wp_cons ?_
  rfl'
  refine wp_cons ?_
  rfl'
  refine wp_cons ?_
  rfl'
  refine wp_cons ?_
  rfl'
  refine wp_cons ?_
  rfl'
  refine wp_nil ?_
  refine ⟨[("gc", .str "Cn"), ("ccc", .int 0), ("bc", .str "L"), ("lb", .str "XX"), ("ea", .str "N"), ("sc", .str "Zzzz"), ("jt", .str "U"), ("incb", .str "None")], rfl, fun F hF => ?_⟩
  have d0 : DfR (amerge [] [("gc", .str "Cn"), ("ccc", .int 0), ("bc", .str "L"), ("lb", .str "XX"), ("ea", .str "N"), ("sc", .str "Zzzz"), ("jt", .str "U"), ("incb", .str "None")]) 8 := ⟨Nat.le_of_ble_eq_true rfl, rfl, rfl⟩
  have s0 := (Sub.refl H).new (o := .sdict (amerge [] [("gc", .str "Cn"), ("ccc", .int 0), ("bc", .str "L"), ("lb", .str "XX"), ("ea", .str "N"), ("sc", .str "Zzzz"), ("jt", .str "U"), ("incb", .str "None")])) hF
  have hF0 := uS H F (.sdict (amerge [] [("gc", .str "Cn"), ("ccc", .int 0), ("bc", .str "L"), ("lb", .str "XX"), ("ea", .str "N"), ("sc", .str "Zzzz"), ("jt", .str "U"), ("incb", .str "None")]))
  generalize (amerge [] [(("gc" : Str), V.str "Cn"), ("ccc", .int 0), ("bc", .str "L"), ("lb", .str "XX"), ("ea", .str "N"), ("sc", .str "Zzzz"), ("jt", .str "U"), ("incb", .str "None")]) = ls0 at d0 s0 hF0 ⊢
  generalize upd H F (.sdict ls0) = H1 at s0 hF0 ⊢
  rfl'
  refine dflt_for (names := ["gcb", "wb", "sb"]) (v := .str "Other") ?_ ?_ (by decide +kernel) hF0 d0 (by decide) fun ls1 μ d1 => ?_
  · intro ρ H; rfl'
    exact ⟨rfl, rfl⟩
  · intro ρ H Q q; exact q
  rfl'
  refine dflt_for (names := ["ex", "sd", "cased", "ci", "ep", "di", "ids", "idc", "xids", "xidc", "pat_syn", "pat_ws", "idst"]) (v := .bool false) ?_ ?_ (by decide +kernel) (uS _ _ _) d1 (by decide) fun ls2 μ d2 => ?_
  · intro ρ H; rfl'
    exact ⟨rfl, rfl⟩
  · intro ρ H Q q; exact q
  rw [upd_upd]
  rfl'
  refine dflt_for (names := ["dm", "uc", "lc", "tc", "cf", "bm", "bpb", "scx", "nt", "nv", "name", "conf", "nfkc_cf"]) (v := .none) ?_ ?_ (by decide +kernel) (uS _ _ _) d2 (by decide) fun ls3 μ d3 => ?_
  · intro ρ H; rfl'
    exact ⟨rfl, rfl⟩
  · intro ρ H Q q; exact q
  rw [upd_upd]
  rfl'
  refine dflt_for (names := ["suc", "slc", "stc", "alias"]) (v := .tup []) ?_ ?_ (by decide +kernel) (uS _ _ _) d3 (by decide) fun ls4 μ d4 => ?_
  · intro ρ H; rfl'
    exact ⟨rfl, rfl⟩
  · intro ρ H Q q; exact ⟨Nat.le_of_ble_eq_true rfl, q⟩
  rw [upd_upd]
  rfl'
  refine ⟨_, set_s (uS _ _ _) (by have := d4.1; simp at this; lia), ?_⟩
  rfl'
  rw [upd_upd]
  have d5 := d4.store (m := "idna") (v := .tup [.str "disallowed", .tup []]) (by decide +kernel) (fun q => absurd q (by decide +kernel))
  exact h _ F _ (s0.put hF) hF (uS _ _ _) ⟨Nat.le_trans d5.1 (by decide), d5.2⟩
end
section
variable {W : Wd} {n : Nat} {cx : Cx} {ρ : Loc} {H : AH} {Q : V → AH → Prop}
inductive DnA (H : AH) (ddx dflt maps : Addr) : Prop
  | mk (props words : Addr) (e : H ddx = some (.ns [(14, .ref dflt), (15, .ref maps), (16, .ref props), (17, .ref words)]))
structure DataR (H : AH) (D ddx dflt maps : Addr) (ls M : List (Str × V)) : Prop where
  inst : H D = some (.inst 479 ddx)
  ns : DnA H ddx dflt maps
  df : H dflt = some (.sdict ls)
  mp : H maps = some (.sdict M)
  ne : dflt ≠ maps
theorem DataR.keep {H H' : AH} {D ddx dflt maps : Addr} {ls M M' : List (Str × V)} (x : DataR H D ddx dflt maps ls M) (k : ∀ b ob, H b = some ob → b ≠ maps → H' b = some ob) (hm : H' maps = some (.sdict M')) : DataR H' D ddx dflt maps ls M' := by
  obtain ⟨p, w, e⟩ := x.ns
  exact ⟨k _ _ x.inst (ne_of x.inst x.mp (by simp)), ⟨p, w, k _ _ e (ne_of e x.mp (by simp))⟩, k _ _ x.df x.ne, hm, x.ne⟩
theorem wv_Data (L : IsL W) (h : ∀ H' D ddx dflt maps ls, Sub H H' → H D = none → H maps = none → DataR H' D ddx dflt maps ls [] → DfR ls 100 → Q (.ref D) H') : WV W (n + 3) (.ref 479) [] H Q := by
  refine wv_new (f := 455) (by rw [L.cplain]; rfl) (by rw [L.cinit]; rfl) fun x dx hx hdx hne => ?_
  have b : Bld H (upd (upd H dx (.ns [])) x (.inst 479 dx)) 479 x dx [] := .start hx hdx hne
  generalize upd (upd H dx (.ns [])) x (.inst 479 dx) = H0 at b
  clear hne hx
  refine fc_Data__init_ (n := n + 1) L ?_
  unfold ss_Data__init_
  rfl'
  refine wc_data_defaults (n := n) L fun H1 F ls s1 hF hF1 hd => ?_
  replace b := b.sub s1
  replace hF := hF1
  clear s1 hF1
  rfl'
  refine as_ok L b.i b.n (by rfl) (by rfl) (Nat.le_of_ble_eq_true rfl) ?_
  replace hF := b.other (l' := nput [] 14 (.ref F)) hF nofun
  replace b : Bld H (upd H1 dx (.ns (nput [] 14 (.ref F)))) 479 x dx [(14, .ref F)] := b.set
  generalize upd H1 dx (.ns (nput [] 14 (.ref F))) = H2 at b hF
  rfl'
  intro M hM
  have hM0 : H M = none := b.s.none hM
  have hFM : F ≠ M := by rintro rfl; rw [hM] at hF; cases hF
  replace b := b.new (o := emptyOf .s) hM
  replace hF := uO (o' := emptyOf .s) hM hF
  replace hM : upd H2 M (emptyOf .s) M = some (.sdict []) := uS _ _ _
  generalize upd H2 M (emptyOf .s) = H3 at b hF hM
  rfl'
  refine as_ok L b.i b.n (by rfl) (by rfl) (Nat.le_of_ble_eq_true rfl) ?_
  replace hF := b.other (l' := nput [(14, .ref F)] 15 (.ref M)) hF nofun
  replace hM := b.other (l' := nput [(14, .ref F)] 15 (.ref M)) hM nofun
  replace b : Bld H (upd H3 dx (.ns (nput [(14, .ref F)] 15 (.ref M)))) 479 x dx [(14, .ref F), (15, .ref M)] := b.set
  generalize upd H3 dx (.ns (nput [(14, .ref F)] 15 (.ref M))) = H4 at b hF hM
  rfl'
  intro P hP
  replace b := b.new (o := emptyOf .s) hP
  replace hF := uO (o' := emptyOf .s) hP hF
  replace hM := uO (o' := emptyOf .s) hP hM
  generalize upd H4 P (emptyOf .s) = H5 at b hF hM
  clear hP
  rfl'
  refine as_ok L b.i b.n (by rfl) (by rfl) (Nat.le_of_ble_eq_true rfl) ?_
  replace hF := b.other (l' := nput [(14, .ref F), (15, .ref M)] 16 (.ref P)) hF nofun
  replace hM := b.other (l' := nput [(14, .ref F), (15, .ref M)] 16 (.ref P)) hM nofun
  replace b : Bld H (upd H5 dx (.ns (nput [(14, .ref F), (15, .ref M)] 16 (.ref P)))) 479 x dx [(14, .ref F), (15, .ref M), (16, .ref P)] := b.set
  generalize upd H5 dx (.ns (nput [(14, .ref F), (15, .ref M)] 16 (.ref P))) = H6 at b hF hM
  rfl'
  intro Z hZ
  replace b := b.new (o := emptyOf .s) hZ
  replace hF := uO (o' := emptyOf .s) hZ hF
  replace hM := uO (o' := emptyOf .s) hZ hM
  generalize upd H6 Z (emptyOf .s) = H7 at b hF hM
  clear hZ
  rfl'
  refine as_ok L b.i b.n (by rfl) (by rfl) (Nat.le_of_ble_eq_true rfl) ?_
  rfl'
  replace hF := b.other (l' := nput [(14, .ref F), (15, .ref M), (16, .ref P)] 17 (.ref Z)) hF nofun
  replace hM := b.other (l' := nput [(14, .ref F), (15, .ref M), (16, .ref P)] 17 (.ref Z)) hM nofun
  replace b : Bld H (upd H7 dx (.ns (nput [(14, .ref F), (15, .ref M), (16, .ref P)] 17 (.ref Z)))) 479 x dx [(14, .ref F), (15, .ref M), (16, .ref P), (17, .ref Z)] := b.set
  exact ⟨rfl, h _ x dx F M ls b.s b.hx hM0 ⟨b.i, ⟨P, Z, b.n⟩, hF, hM, hFM⟩ hd⟩
theorem wc_map_new (L : IsL W) {D ddx dflt maps : Addr} {ls M : List (Str × V)} {name : Str} {dv : V} (x : DataR H D ddx dflt maps ls M) (hn : alook M name = none) (hdv : (alook ls name).getD .none = dv) (hM : M.length ≤ 10)
    (h : ∀ H' r dx, (∀ b ob, H b = some ob → b ≠ maps → H' b = some ob) → H' maps = some (.sdict (astore M name (.ref r))) → H r = none → H dx = none → RM H' r dx dv [0] [dv] → Q (.ref r) H') : WC W (n + 3) 476 [.ref D, .str name] H Q := by
  obtain ⟨p, w, e⟩ := x.ns
  refine fc_Data_map_of (n := n + 2) L ?_
  unfold ss_Data_map_of
  rfl'
  refine at_ok L x.inst e (by rfl) (by rfl) (by rfl) ?_
  refine ⟨_, cmp_notIn (cmp_in_s x.mp), ?_⟩
  refine Eq.symm hn ▸ ?_
  refine call_true (by rfl) ?_
  rfl'
  refine at_ok L x.inst e (by rfl) (by rfl) (by rfl) ?_
  refine me_get_s x.df ?_
  rfl'
  refine wv_get_s x.df ?_
  refine Eq.symm hdv ▸ ?_
  rfl'
  refine wv_RangeMap (n := n) L fun r dx H1 s1 hr hdx rm => ?_
  rfl'
  refine at_ok L (s1 _ _ x.inst) (s1 _ _ e) (by rfl) (by rfl) (by rfl) ?_
  rfl'
  refine ⟨_, set_s (s1 _ _ x.mp) (by lia), ?_⟩
  have k : ∀ b ob, H b = some ob → b ≠ maps → upd H1 maps (.sdict (astore M name (.ref r))) b = some ob := fun b ob e ne => upd_keep (s1 _ _ e) ne
  have hm : upd H1 maps (.sdict (astore M name (.ref r))) maps = some (.sdict (astore M name (.ref r))) := uS _ _ _
  have x' := x.keep k hm
  have rm' : RM (upd H1 maps (.sdict (astore M name (.ref r)))) r dx dv [0] [dv] := by
    obtain ⟨s, v, a1, a2, a3⟩ := rm.lists
    have hmm := s1 _ _ x.mp
    exact ⟨upd_keep rm.inst (ne_of rm.inst hmm (by simp)), s, v, upd_keep a1 (ne_of a1 hmm (by simp)), upd_keep a2 (ne_of a2 hmm (by simp)), upd_keep a3 (ne_of a3 hmm (by simp))⟩
  generalize upd H1 maps (.sdict (astore M name (.ref r))) = H2 at k hm x' rm'
  obtain ⟨p', w', e'⟩ := x'.ns
  rfl'
  refine at_ok L x'.inst e' (by rfl) (by rfl) (by rfl) ?_
  rfl'
  refine idx_sdict hm (v := .ref r) (by rw [alook_store, if_pos rfl]) ?_
  rfl'
  exact h H2 r dx k hm hr hdx rm'
theorem wc_map_old (L : IsL W) {D ddx dflt maps : Addr} {ls M : List (Str × V)} {name : Str} {v : V} (x : DataR H D ddx dflt maps ls M) (hn : alook M name = some v) (h : Q v H) : WC W (n + 3) 476 [.ref D, .str name] H Q := by
  obtain ⟨p, w, e⟩ := x.ns
  refine fc_Data_map_of (n := n + 2) L ?_
  unfold ss_Data_map_of
  rfl'
  refine at_ok L x.inst e (by rfl) (by rfl) (by rfl) ?_
  refine ⟨_, cmp_notIn (cmp_in_s x.mp), ?_⟩
  refine Eq.symm hn ▸ ?_
  refine call_false (by rfl) ?_
  rfl'
  refine at_ok L x.inst e (by rfl) (by rfl) (by rfl) ?_
  rfl'
  refine idx_sdict x.mp hn ?_
  rfl'
  exact h
theorem cnt0 {x : Int} (h : 0 ≤ x) : cnt [0] x = 1 := by
  unfold cnt
  rw [List.filter_cons_of_pos (by simpa using h)]; rfl
theorem wc_put_new (L : IsL W) {D ddx dflt maps : Addr} {ls M : List (Str × V)} {name : Str} {dv v : V} {f l : Int} (x : DataR H D ddx dflt maps ls M) (hn : alook M name = none) (hdv : (alook ls name).getD .none = dv) (hM : M.length ≤ 10) (hf : 1 ≤ f) (hfl : f ≤ l ∧ l < 1114111) (k1 : LikeOk W dv v false)
    (h : ∀ H' r dx, (∀ b ob, H b = some ob → b ≠ maps → H' b = some ob) → H' maps = some (.sdict (astore M name (.ref r))) → H r = none → H dx = none → RM H' r dx dv [0, f, l + 1] [dv, v, dv] → Q .none H') : WC W (n + 4) 462 [.ref D, .str name, .int f, .int l, v] H Q := by
  obtain ⟨p, w, e⟩ := x.ns
  refine fc_Data_put (n := n + 3) L ?_
  unfold ss_Data_put
  rfl'
  refine me_ok L x.inst e (by rfl) (by rfl) ?_
  rfl'
  refine (wc_map_new (n := n) L x hn hdv hM fun H1 r dx k hm hr hdx rm => ?_).wv
  obtain ⟨s, vv, a1, a2, a3⟩ := rm.lists
  refine me_ok L rm.inst a1 (by rfl) (by rfl) ?_
  rfl'
  refine (wc_RangeMap_put (n := n + 1) (low := 1) (high := 1) (behind := dv) (prev := dv) L rm (List.pairwise_singleton _ _) (Nat.le_of_ble_eq_true rfl) (Nat.le_of_ble_eq_true rfl) hfl (cnt0 (by lia)) (cnt0 (by lia)) (by decide) (by decide) rfl rfl k1 k1 fun H2 b2 rm2 => ?_).wv
  rfl'
  refine h H2 r dx (fun b ob e ne => b2 _ _ (k _ _ e ne) (by rintro rfl; rw [hdx] at e; cases e)) (b2 _ _ hm (ne_of hm a1 (by simp))) hr hdx rm2
theorem wc_put_old (L : IsL W) {D ddx dflt maps r dx : Addr} {ls M : List (Str × V)} {name : Str} {d value behind prev : V} {ss : List Int} {vs : List V} {f l : Int} {b1 b2 : Bool} {low high : Nat} (xd : DataR H D ddx dflt maps ls M) (hn : alook M name = some (.ref r))
    (x : RM H r dx d ss vs) (hs : ss.Pairwise (· < ·)) (hl : ss.length ≤ 100) (hvl : vs.length ≤ 100) (hfl : f ≤ l ∧ l < 1114111)
    (hlow : cnt ss (f - 1) = low) (hhigh : cnt ss (l + 1) = high) (h0 : 0 < low) (h1 : 0 < high) (hbehind : vs[high - 1]? = some behind) (hprev : vs[low - 1]? = some prev) (k1 : LikeOk W behind value b1) (k2 : LikeOk W prev value b2)
    (h : ∀ H', Bt1 H H' dx → RM H' r dx d (ss.take low ++ (if b2 then (if b1 then [f] else [f, l + 1]).drop 1 else (if b1 then [f] else [f, l + 1])) ++ ss.drop high) (vs.take low ++ (if b2 then (if b1 then [value] else [value, behind]).drop 1 else (if b1 then [value] else [value, behind])) ++ vs.drop high) → Q .none H') :
    WC W (n + 4) 462 [.ref D, .str name, .int f, .int l, value] H Q := by
  obtain ⟨p, w, e⟩ := xd.ns
  refine fc_Data_put (n := n + 3) L ?_
  unfold ss_Data_put
  rfl'
  refine me_ok L xd.inst e (by rfl) (by rfl) ?_
  rfl'
  refine (wc_map_old (n := n) L xd hn ?_).wv
  obtain ⟨s, vv, a1, a2, a3⟩ := x.lists
  refine me_ok L x.inst a1 (by rfl) (by rfl) ?_
  rfl'
  refine (wc_RangeMap_put (n := n + 1) L x hs hl hvl hfl hlow hhigh h0 h1 hbehind hprev k1 k2 fun H2 bt rm2 => ?_).wv
  rfl'
  exact h H2 bt rm2
noncomputable def rkD : List (Int × V) := [(768, .int 230), (769, .int 230), (803, .int 220), (807, .int 202)]
theorem wc_law_ranks (L : IsL W) (h : ∀ c, H c = none → Q (.ref c) (upd H c (.idict rkD))) : WC W (n + 1) 490 [] H Q := by
  refine fc_law_ranks L ?_
  unfold ss_law_ranks
  rfl'
  refine we_dict_i nofun ?_
  refine wp_cons ?_
  rfl'
  refine wp_cons ?_
  rfl'
  refine wp_cons ?_
  rfl'
  refine wp_cons ?_
  rfl'
  refine wp_nil ?_
  exact ⟨[(768, .int 230), (769, .int 230), (803, .int 220), (807, .int 202)], rfl, fun c hc => h c hc⟩
end
section
variable {W : Wd} {n : Nat} {cx : Cx} {ρ : Loc} {H : AH} {Q : V → AH → Prop}
theorem int_uniq : ∀ {a b : List Int}, a.Perm b → a.Pairwise (· ≤ ·) → b.Pairwise (· ≤ ·) → a = b
  | [], b, p, _, _ => by have := p.length_eq; cases b with | nil => rfl | cons _ _ => simp at this
  | x :: a, [], p, _, _ => by have := p.length_eq; simp at this
  | x :: a, y :: b, p, h1, h2 => by
    obtain ⟨a1, a2⟩ := List.pairwise_cons.mp h1
    obtain ⟨b1, b2⟩ := List.pairwise_cons.mp h2
    have hx : x ∈ y :: b := p.mem_iff.mp (.head _)
    have hy : y ∈ x :: a := p.mem_iff.mpr (.head _)
    have e : x = y := by
      rcases List.mem_cons.mp hx with e | hx
      · exact e
      · rcases List.mem_cons.mp hy with e | hy
        · exact e.symm
        · have := b1 x hx
          have := a1 y hy
          lia
    subst e
    rw [int_uniq (List.Perm.cons_inv p) a2 b2]
theorem RM.keep {H' : AH} {r dx g : Addr} {d : V} {ss : List Int} {vs : List V} (x : RM H r dx d ss vs) (k : ∀ b ob, H b = some ob → b ≠ g → H' b = some ob) (h1 : r ≠ g) (h2 : dx ≠ g) (h3 : ∀ a l, H a = some (.list l) → a ≠ g) : RM H' r dx d ss vs := by
  obtain ⟨s, v, a1, a2, a3⟩ := x.lists
  exact ⟨k _ _ x.inst h1, s, v, k _ _ a1 h2, k _ _ a2 (h3 _ _ a2), k _ _ a3 (h3 _ _ a3)⟩
theorem DataR.bt {H' : AH} {D ddx dflt maps g : Addr} {ls M : List (Str × V)} {l' : List (Nat × V)} (x : DataR H D ddx dflt maps ls M) (k : Bt1 H H' g) (hg : H g = some (.ns l')) (hne : ddx ≠ g) : DataR H' D ddx dflt maps ls M := by
  obtain ⟨p, w, e⟩ := x.ns
  exact ⟨k _ _ x.inst (ne_of x.inst hg (by simp)), ⟨p, w, k _ _ e hne⟩, k _ _ x.df (ne_of x.df hg (by simp)), k _ _ x.mp (ne_of x.mp hg (by simp)), x.ne⟩
noncomputable def ccAt : Nat → List Int × List V
  | 0 => ([], [])
  | 1 => ([0, 768, 769], [.int 0, .int 230, .int 0])
  | 2 => ([0, 768, 770], [.int 0, .int 230, .int 0])
  | 3 => ([0, 768, 770, 803, 804], [.int 0, .int 230, .int 0, .int 220, .int 0])
  | _ => (cccS, cccV)
theorem dx_ne {D ddx dflt maps r dx : Addr} {ls M : List (Str × V)} {d : V} {ss : List Int} {vs : List V} (x : DataR H D ddx dflt maps ls M) (rm : RM H r dx d ss vs) : ddx ≠ dx := by
  obtain ⟨p, w, e⟩ := x.ns
  obtain ⟨s, v, a1, _⟩ := rm.lists
  rintro rfl
  rw [e] at a1; cases a1
inductive LdI (H : AH) (D ddx dflt maps R C : Addr) (ls : List (Str × V)) : Nat → Loc → AH → Prop
  | zero (μ : Option V) (H' : AH) (s : Sub H H') (hR : H' R = some (.idict rkD)) (hC : H' C = some (.list ([768, 769, 803, 807].map .int))) (x : DataR H' D ddx dflt maps ls []) : LdI H D ddx dflt maps R C ls 0 [some (.ref D), some (.ref R), μ] H'
  | succ (i : Nat) (μ : Option V) (H' : AH) (r dx : Addr) (s : Sub H H') (hR : H' R = some (.idict rkD)) (hC : H' C = some (.list ([768, 769, 803, 807].map .int))) (hdx : H dx = none) (x : DataR H' D ddx dflt maps ls [("ccc", .ref r)]) (rm : RM H' r dx (.int 0) (ccAt (i + 1)).1 (ccAt (i + 1)).2) : LdI H D ddx dflt maps R C ls (i + 1) [some (.ref D), some (.ref R), μ] H'
noncomputable def ldBody : Ss := .cons (.exp (.meth (.loc 0) "put" (.cons (.cst (.str "ccc")) (.cons (.loc 2) (.cons (.loc 2) (.cons (.idx (.loc 1) (.loc 2)) .nil)))))) .nil
theorem ld_turn (L : IsL W) {H H' : AH} {D ddx dflt maps R C r dx : Addr} {ls : List (Str × V)} {i : Nat} {P K : AF → Loc → AH → Prop} (s : Sub H H') (hR' : H' R = some (.idict rkD)) (hC' : H' C = some (.list ([768, 769, 803, 807].map .int))) (hdx : H dx = none) (xd' : DataR H' D ddx dflt maps ls [("ccc", .ref r)]) (rm : RM H' r dx (.int 0) (ccAt (i + 1)).1 (ccAt (i + 1)).2) (hK : FK (LdI H D ddx dflt maps R C ls) (i + 1) P K)
    (c w : Int) (b2 : Bool) (low high : Nat) {prev : V} (hw : alook rkD c = some (.int w)) (hp : (ccAt (i + 1)).2[low - 1]? = some prev) (k1 : LikeOk W (.int 0) (.int w) false) (k2 : LikeOk W prev (.int w) b2) (hb : (ccAt (i + 1)).2[high - 1]? = some (.int 0))
    (q : (ccAt (i + 1)).1.Pairwise (· < ·) ∧ (ccAt (i + 1)).1.length ≤ 100 ∧ (ccAt (i + 1)).2.length ≤ 100 ∧ cnt (ccAt (i + 1)).1 (c - 1) = low ∧ cnt (ccAt (i + 1)).1 (c + 1) = high ∧ 0 < low ∧ 0 < high ∧ c < 1114111)
    (f1 : (ccAt (i + 1)).1.take low ++ (if b2 then ([c, c + 1] : List Int).drop 1 else [c, c + 1]) ++ (ccAt (i + 1)).1.drop high = (ccAt (i + 1 + 1)).1) (f2 : (ccAt (i + 1)).2.take low ++ (if b2 then ([V.int w, .int 0] : List V).drop 1 else [.int w, .int 0]) ++ (ccAt (i + 1)).2.drop high = (ccAt (i + 1 + 1)).2) :
    vSs W (n + 4) cx_law_data ldBody [some (.ref D), some (.ref R), some (.int c)] H' K := by
  obtain ⟨p, wd, e⟩ := xd'.ns
  obtain ⟨sl, vl, a1, _⟩ := id rm.lists
  obtain ⟨q1, q2, q3, q4, q5, q6, q7, q8⟩ := q
  unfold ldBody
  rfl'
  refine me_ok L xd'.inst e (by rfl) (by rfl) ?_
  rfl'
  refine idx_idict hR' hw ?_
  rfl'
  refine (wc_put_old (n := n) L xd' (by rfl) rm q1 q2 q3 ⟨Int.le_refl _, q8⟩ q4 q5 q6 q7 hb hp k1 k2 fun H4 bt rm4 => ?_).wv
  rfl'
  simp only [Bool.false_eq_true, if_false] at rm4
  rw [f1, f2] at rm4
  exact hK.next (.succ (i + 1) _ H4 r dx (fun b ob eb => bt _ _ (s _ _ eb) (by rintro rfl; rw [hdx] at eb; cases eb)) (bt _ _ hR' (ne_of hR' a1 (by simp))) (bt _ _ hC' (ne_of hC' a1 (by simp))) hdx (xd'.bt bt a1 (dx_ne xd' rm)) rm4)
theorem DataR.sub {H' : AH} {D ddx dflt maps : Addr} {ls M : List (Str × V)} (x : DataR H D ddx dflt maps ls M) (s : Sub H H') : DataR H' D ddx dflt maps ls M := by
  obtain ⟨p, w, e⟩ := x.ns
  exact ⟨s _ _ x.inst, ⟨p, w, s _ _ e⟩, s _ _ x.df, s _ _ x.mp, x.ne⟩
theorem wc_law_data (L : IsL W) (hT : H 112 = some (.tab fsPos fsQual)) (h : ∀ H' D, Sub H H' → H D = none → IsData H' D → Q (.ref D) H') : WC W (n + 5) 497 [] H Q := by
  refine fc_law_data (n := n + 4) L ?_
  unfold ss_law_data
  rfl'
  refine wv_Data (n := n + 1) L fun H1 D ddx dflt maps ls s1 hD hmaps xd hdf => ?_
  rfl'
  refine wc_law_ranks (n := n + 3) L fun R hR => ?_
  have s2 := s1.new (o := .idict rkD) hR
  have xd2 := xd.sub ((Sub.refl H1).new (o := .idict rkD) hR)
  replace hR : upd H1 R (.idict rkD) R = some (.idict rkD) := uS _ _ _
  clear xd s1
  generalize upd H1 R (.idict rkD) = H2 at s2 xd2 hR
  rfl'
  refine vs_for (by rfl) ?_
  refine vi_list ?_
  rfl'
  refine wv_sorted_i hR (by decide) fun C ns hC p1 p2 => ?_
  obtain rfl : ns = [768, 769, 803, 807] := int_uniq p1 p2 (by decide)
  clear p1 p2
  have s3 := s2.new (o := .list ([768, 769, 803, 807].map .int)) hC
  have xd3 := xd2.sub ((Sub.refl H2).new (o := .list ([768, 769, 803, 807].map .int)) hC)
  have hR3 := uO (o' := .list ([768, 769, 803, 807].map .int)) hC hR
  replace hC : upd H2 C (.list ([768, 769, 803, 807].map .int)) C = some (.list ([768, 769, 803, 807].map .int)) := uS _ _ _
  clear xd2 s2 hR
  generalize upd H2 C (.list ([768, 769, 803, 807].map .int)) = H3 at s3 xd3 hR3 hC
  have dccc := hdf.2.1
  have ddm := hdf.2.2
  refine ⟨C, _, rfl, hC, LdI H D ddx dflt maps R C ls, .zero _ _ s3 hR3 hC xd3, fun i ρ H' q => ?_, fun i v ρ H' K hv q hK => ?_, fun ρ H' q => ?_⟩
  · cases q <;> assumption
  · cases q with
    | zero μ _ s hR' hC' xd' =>
      cases hv
      obtain ⟨p, wd, e⟩ := xd'.ns
      rfl'
      refine me_ok L xd'.inst e (by rfl) (by rfl) ?_
      rfl'
      refine idx_idict (v := .int 230) hR' (by rfl) ?_
      rfl'
      refine (wc_put_new (n := n) (dv := .int 0) L xd' (by rfl) (by rw [dccc]; rfl) (Nat.le_of_ble_eq_true rfl) (by decide) (by decide) (like_ii L (by decide)) fun H4 r dx k hm hr hdx rm => ?_).wv
      rfl'
      exact hK.next (.succ 0 _ H4 r dx (fun b ob eb => k _ _ (s _ _ eb) (by rintro rfl; rw [hmaps] at eb; cases eb)) (k _ _ hR' (ne_of hR' xd'.mp (by simp))) (k _ _ hC' (ne_of hC' xd'.mp (by simp))) (s.none hdx) (xd'.keep k hm) rm)
    | succ i μ _ r dx s hR' hC' hdx xd' rm =>
      match i, hv, rm, hK with
      | 0, hv, rm, hK => cases hv; exact ld_turn L s hR' hC' hdx xd' rm hK 769 230 true 2 3 (by rfl) (by rfl) (like_ii L (by decide)) (like_ii L (by decide)) rfl (by decide) rfl rfl
      | 1, hv, rm, hK => cases hv; exact ld_turn L s hR' hC' hdx xd' rm hK 803 220 false 3 3 (by rfl) (by rfl) (like_ii L (by decide)) (like_ii L (by decide)) rfl (by decide) rfl rfl
      | 2, hv, rm, hK => cases hv; exact ld_turn L s hR' hC' hdx xd' rm hK 807 202 false 5 5 (by rfl) (by rfl) (like_ii L (by decide)) (like_ii L (by decide)) rfl (by decide) rfl rfl
      | i + 3, hv, _, _ => cases hv
  · generalize hj : ([768, 769, 803, 807].map V.int).length = j at q
    cases q with
    | zero => cases hj
    | succ i μ _ r1 x1 s hR' hC' hx1 xd4 rm4 =>
    cases hj
    have rm4' : RM H' r1 x1 (.int 0) cccS cccV := rm4
    clear rm4
    obtain ⟨p, wd, e⟩ := xd4.ns
    rfl'
    refine me_ok L xd4.inst e (by rfl) (by rfl) ?_
    rfl'
    refine (wc_put_new (n := n) (dv := .none) (v := dmT 768) L xd4 (by rfl) ddm (Nat.le_of_ble_eq_true rfl) (by decide) (by decide) (like_nt L) fun H5 r2 x2 k hm hr2 hx2 rm5 => ?_).wv
    have xd5 := xd4.keep k hm
    have hne : x1 ≠ x2 := by
      obtain ⟨_, _, a1, _⟩ := rm4'.lists
      rintro rfl; rw [hx2] at a1; cases a1
    have rmc := rm4'.keep k (ne_of rm4'.inst xd4.mp (by simp)) (by obtain ⟨_, _, a1, _⟩ := rm4'.lists; exact ne_of a1 xd4.mp (by simp)) (fun a l e => ne_of e xd4.mp (by simp))
    have s5 : Sub H H5 := fun b ob eb => k _ _ (s _ _ eb) (by rintro rfl; rw [hmaps] at eb; cases eb)
    have hx20 := s.none hx2
    clear k rm4' e xd4 hx2 hR' hC' s
    obtain ⟨p, wd, e⟩ := xd5.ns
    rfl'
    refine me_ok L xd5.inst e (by rfl) (by rfl) ?_
    rfl'
    refine (wc_put_old (n := n) (b1 := false) (b2 := false) (low := 2) (high := 3) (value := dmT 769) (prev := dmT 768) (behind := .none) L xd5 (by rfl) rm5 (by decide) (by decide) (by decide) (by decide) (by decide) (by decide) (by decide) (by decide) rfl rfl (like_nt L) (like_tt L) fun H6 bt rm6 => ?_).wv
    obtain ⟨_, _, g2, _⟩ := rm5.lists
    have rmd : RM H6 r1 x1 (.int 0) cccS cccV := rmc.keep bt (ne_of rmc.inst g2 (by simp)) hne fun a l e => ne_of e g2 (by simp)
    have xd6 := xd5.bt bt g2 (dx_ne xd5 rm5)
    have rme : RM H6 r2 x2 .none dmS dmV := rm6
    have s6 : Sub H H6 := fun b ob eb => bt _ _ (s5 _ _ eb) (by rintro rfl; rw [hx20] at eb; cases eb)
    obtain ⟨p6, w6, e6⟩ := xd6.ns
    rfl'
    exact h H6 D s6 hD (.mk ddx dflt maps p6 w6 r1 x1 r2 x2 ls xd6.inst e6 xd6.df xd6.mp rmd rme (s6 _ _ hT))
end
section
variable {W : Wd} {n : Nat} {cx : Cx} {ρ : Loc} {H : AH} {Q : V → AH → Prop}
noncomputable def invN : List Int → Nat
  | [] => 0
  | x :: l => (l.filter fun y => decide (0 < rk y ∧ rk y < rk x)).length + invN l
theorem invN_swap {a b : Int} (h : 0 < rk b ∧ rk b < rk a) : ∀ p q : List Int, invN (p ++ a :: b :: q) = invN (p ++ b :: a :: q) + 1
  | [], q => by
    simp only [List.nil_append, invN]
    rw [List.filter_cons_of_pos (by simpa using h), List.filter_cons_of_neg (by simp; lia), List.length_cons]
    exact (Nat.add_right_comm _ 1 _).trans (congrArg (· + 1) (Nat.add_left_comm ..))
  | x :: p, q => by
    have := invN_swap h p q
    simp only [List.cons_append, invN, this]
    have e : ((p ++ a :: b :: q).filter fun y => decide (0 < rk y ∧ rk y < rk x)).length = ((p ++ b :: a :: q).filter fun y => decide (0 < rk y ∧ rk y < rk x)).length := by
      have pm : (p ++ a :: b :: q).Perm (p ++ b :: a :: q) := List.Perm.append_left p (List.Perm.swap b a q)
      exact (pm.filter _).length_eq
    exact congrArg (· + _) e
theorem split2 {l : List Int} {k : Nat} {a b : Int} (h1 : l[k]? = some a) (h2 : l[k + 1]? = some b) : ∃ p q, l = p ++ a :: b :: q ∧ p.length = k := by
  obtain ⟨q1, e1⟩ := List.getElem?_eq_some_iff.mp h1
  obtain ⟨q2, e2⟩ := List.getElem?_eq_some_iff.mp h2
  refine ⟨l.take k, l.drop (k + 2), ?_, List.length_take_of_le (Nat.le_of_lt q1)⟩
  rw [← e1, ← e2, List.getElem_cons_drop, List.getElem_cons_drop, List.take_append_drop]
theorem set2 {p q : List Int} {a b : Int} : ((p ++ a :: b :: q).set p.length b).set (p.length + 1) a = p ++ b :: a :: q := by
  rw [List.set_append_right _ _ (Nat.le_refl _), Nat.sub_self, List.set_cons_zero, List.set_append_right _ _ (Nat.le_succ _)]
  simp
noncomputable def plF (text : List Int) : List Int := insAll rk (text.flatMap expL)
theorem flat_len : ∀ l : List Int, (l.flatMap expL).length ≤ 2 * l.length
  | [] => by simp
  | c :: l => by
    simp only [List.flatMap_cons, List.length_append, List.length_cons]
    exact Nat.le_trans (Nat.le_of_eq (Nat.add_comm _ _)) (Nat.add_le_add (flat_len l) (exp_len c))
theorem rkD_look (c : Int) : (alook rkD c).getD (.int 0) = .int (rk c) := by
  unfold rk
  by_cases h1 : c = 768
  · subst h1; rfl
  by_cases h2 : c = 769
  · subst h2; rfl
  by_cases h3 : c = 803
  · subst h3; rfl
  by_cases h4 : c = 807
  · subst h4; rfl
  rw [if_neg (by lia), if_neg h3, if_neg h4]
  have : alook rkD c = none := by
    unfold alook rkD
    rw [List.find?_cons_of_neg (by simpa using Ne.symm h1), List.find?_cons_of_neg (by simpa using Ne.symm h2), List.find?_cons_of_neg (by simpa using Ne.symm h3), List.find?_cons_of_neg (by simpa using Ne.symm h4)]; rfl
  rw [this]; rfl
theorem rangeV_at {a : Int} {m i : Nat} {v : V} (h : (rangeV a m)[i]? = some v) : i < m ∧ v = .int (a + (i : Int)) := by
  unfold rangeV at h
  rw [List.getElem?_map] at h
  obtain ⟨j, hj, rfl⟩ := Option.map_eq_some_iff.mp h
  have hlt : i < m := by
    rcases Nat.lt_or_ge i m with q | q
    · exact q
    · rw [List.getElem?_eq_none (by simpa using q)] at hj; cases hj
  rw [List.getElem?_range hlt] at hj
  cases hj
  exact ⟨hlt, rfl⟩
inductive PlI (a R : Addr) (text : List Int) (H : AH) : Nat → Loc → AH → Prop
  | mk (i : Nat) (F : Addr) (μ : Option V) (H' : AH) (s : Sub H H') (hF : H F = none) (hR : H' R = some (.idict rkD)) (hF' : H' F = some (.list (((text.take i).flatMap expL).map .int))) : PlI a R text H i [some (.ref a), some (.ref F), some (.ref R), some (.bool false), μ, none] H'
inductive PwI (a R F : Addr) (l0 : List Int) (μ4 : Option V) (H : AH) : Nat → Loc → AH → Prop
  | mk (l : List Int) (dn : Bool) (μ5 : Option V) (m : Nat) (hm : m = 2 * invN l + (if dn then 0 else 1)) (H' : AH) (s : Sub H H') (hR : H' R = some (.idict rkD)) (hF' : H' F = some (.list (l.map .int))) (hins : insAll rk l = insAll rk l0) (hlen : l.length ≤ 100) (hno : dn = true → NoInv rk l) : PwI a R F l0 μ4 H m [some (.ref a), some (.ref F), some (.ref R), some (.bool dn), μ4, μ5] H'
inductive PsI (a R F : Addr) (l0 l : List Int) (μ4 : Option V) (H : AH) : Nat → Loc → AH → Prop
  | mk (k : Nat) (l' : List Int) (dn : Bool) (μ5 : Option V) (H' : AH) (s : Sub H H') (hR : H' R = some (.idict rkD)) (hF' : H' F = some (.list (l'.map .int))) (hins : insAll rk l' = insAll rk l0) (hlen : l'.length = l.length)
    (hd1 : dn = true → l' = l ∧ ∀ (j : Nat) (x y : Int), j < k → l[j]? = some x → l[j + 1]? = some y → ¬ (0 < rk y ∧ rk y < rk x)) (hd2 : dn = false → invN l' < invN l) : PsI a R F l0 l μ4 H k [some (.ref a), some (.ref F), some (.ref R), some (.bool dn), μ4, μ5] H'
theorem pl_key {G : AH} {A1 A2 A4 : Addr} {c : Int} (k1 : G A1 = some (.list [.int 97, .int 768])) (k2 : G A2 = some (.list [.int 97, .int 769])) (k4 : G A4 = some (.list [.int c])) : ∃ Z, (alook [((224 : Int), V.ref A1), (225, .ref A2)] c).getD (.ref A4) = .ref Z ∧ G Z = some (.list ((expL c).map .int)) := by
  unfold expL
  by_cases e1 : c = 224
  · subst e1; exact ⟨A1, rfl, k1⟩
  by_cases e2 : c = 225
  · subst e2; exact ⟨A2, rfl, k2⟩
  refine ⟨A4, ?_, by rw [if_neg e1, if_neg e2]; exact k4⟩
  unfold alook
  rw [List.find?_cons_of_neg (by simpa using Ne.symm e1), List.find?_cons_of_neg (by simpa using Ne.symm e2)]; rfl
theorem pl_at {l : List Int} {k : Nat} {x : Int} (h : l[k]? = some x) : (l.map V.int)[k]? = some (.int x) := by rw [List.getElem?_map, h]; rfl
theorem pl_seq {l : List Int} {k : Nat} (h : k < l.length) : seqIndex? (k : Int) (l.map V.int).length = some k := seq_nat (by rw [List.length_map]; exact h)
theorem pl_hold {l l' : List Int} {k : Nat} {x y : Int} {dn : Bool} (hx : l'[k]? = some x) (hy : l'[k + 1]? = some y) (hn : ¬ (0 < rk y ∧ rk y < rk x)) (h : dn = true → l' = l ∧ ∀ (j : Nat) (x y : Int), j < k → l[j]? = some x → l[j + 1]? = some y → ¬ (0 < rk y ∧ rk y < rk x)) : dn = true → l' = l ∧ ∀ (j : Nat) (x y : Int), j < k + 1 → l[j]? = some x → l[j + 1]? = some y → ¬ (0 < rk y ∧ rk y < rk x) := by
  intro e
  obtain ⟨rfl, e2⟩ := h e
  refine ⟨rfl, fun j x' y' hj hx' hy' => ?_⟩
  rcases Nat.lt_or_ge j k with q | q
  · exact e2 j x' y' q hx' hy'
  · obtain rfl : j = k := Nat.le_antisymm (Nat.le_of_lt_succ hj) q
    rw [hx'] at hx; cases hx
    rw [hy'] at hy; cases hy
    exact hn
noncomputable def plBody : Ss := (.cons (.ifs (.cmp2 (.meth (.loc 2) "get" (.cons (.idx (.loc 1) (.loc 5)) (.cons (.cst (.int 0)) .nil))) .Gt (.meth (.loc 2) "get" (.cons (.idx (.loc 1) (.bin .Add (.loc 5) (.cst (.int 1)))) (.cons (.cst (.int 0)) .nil))) .Gt (.cst (.int 0))) (.cons (.asg (.tup (.cons (.idx (.loc 1) (.loc 5)) (.cons (.idx (.loc 1) (.bin .Add (.loc 5) (.cst (.int 1)))) (.cons (.slot 3) .nil)))) (.tup (.cons (.idx (.loc 1) (.bin .Add (.loc 5) (.cst (.int 1)))) (.cons (.idx (.loc 1) (.loc 5)) (.cons (.cst (.bool false)) .nil))))) .nil) .nil) .nil)
theorem pl_turn {a R F : Addr} {l0 l l' : List Int} {μ4 : Option V} {H H' : AH} {k : Nat} {dn : Bool} {P K : AF → Loc → AH → Prop} (hF : H F = none) (hk : k + 1 < l.length) (hlen : l.length ≤ 100) (s3 : Sub H H') (hR3 : H' R = some (.idict rkD)) (hF3 : H' F = some (.list (l'.map .int))) (hins3 : insAll rk l' = insAll rk l0) (hlen3 : l'.length = l.length)
    (hd1 : dn = true → l' = l ∧ ∀ (j : Nat) (x y : Int), j < k → l[j]? = some x → l[j + 1]? = some y → ¬ (0 < rk y ∧ rk y < rk x)) (hd2 : dn = false → invN l' < invN l) (hK : FK (PsI a R F l0 l μ4 H) k P K) :
    vSs W n cx_law_plain plBody [some (.ref a), some (.ref F), some (.ref R), some (.bool dn), μ4, some (.int (k : Int))] H' K := by
  have q1 : k + 1 < l'.length := hlen3.symm ▸ hk
  have q0 : k < l'.length := Nat.lt_of_succ_lt q1
  obtain ⟨x, hx⟩ : ∃ x, l'[k]? = some x := ⟨_, List.getElem?_eq_getElem q0⟩
  obtain ⟨y, hy⟩ : ∃ y, l'[k + 1]? = some y := ⟨_, List.getElem?_eq_getElem q1⟩
  have hk1 : ((k : Int) + 1) = ((k + 1 : Nat) : Int) := rfl
  have hm1 : (l'.map V.int).length ≤ 1000 := lmap (Nat.le_trans (Nat.le_of_eq hlen3) (Nat.le_trans hlen (by decide)))
  have hml : (l'.map V.int).length = l'.length := List.length_map _
  unfold plBody
  rfl'
  refine me_get_i hR3 ?_
  rfl'
  refine idx_list hF3 (j := k) (v := .int x) (pl_seq q0) (pl_at hx) (small_nat q0 (hml ▸ hm1)) ?_
  rfl'
  refine wv_get_id hR3 ?_
  rw [rkD_look]
  refine me_get_i hR3 ?_
  rfl'
  with_reducible conv => whnf
  refine Eq.symm hk1 ▸ ?_
  refine idx_list hF3 (j := k + 1) (v := .int y) (pl_seq q1) (pl_at hy) (small_nat q1 (hml ▸ hm1)) ?_
  rfl'
  refine wv_get_id hR3 ?_
  rw [rkD_look]
  rfl'
  refine ⟨fun e => ?_, fun e => ?_⟩
  · have hlt : rk y < rk x := of_decide_eq_true e
    rfl'
    refine ⟨fun e => ?_, fun e => ?_⟩
    · have h0 : 0 < rk y := of_decide_eq_true e
      rfl'
      with_reducible conv => whnf
      refine Eq.symm hk1 ▸ ?_
      refine idx_list hF3 (j := k + 1) (v := .int y) (pl_seq q1) (pl_at hy) (small_nat q1 (hml ▸ hm1)) ?_
      rfl'
      refine idx_list hF3 (j := k) (v := .int x) (pl_seq q0) (pl_at hx) (small_nat q0 (hml ▸ hm1)) ?_
      rfl'
      refine ⟨_, set_list hF3 hm1 (hml ▸ q0), ?_⟩
      have hR4 : upd H' F (.list ((l'.map V.int).set k (.int y))) R = some (.idict rkD) := upd_keep hR3 (ne_of hR3 hF3 (by simp))
      have hF4 : upd H' F (.list ((l'.map V.int).set k (.int y))) F = some (.list ((l'.map V.int).set k (.int y))) := uS _ _ _
      have s4 : Sub H (upd H' F (.list ((l'.map V.int).set k (.int y)))) := s3.put hF
      generalize upd H' F (.list ((l'.map V.int).set k (.int y))) = H4 at hR4 hF4 s4
      rfl'
      with_reducible conv => whnf
      refine Eq.symm hk1 ▸ ?_
      refine ⟨_, set_list hF4 (by rw [List.length_set]; exact hm1) (by rw [List.length_set, hml]; exact q1), ?_⟩
      obtain ⟨p, q, hpq, hpk⟩ := split2 hx hy
      have hset : ((l'.map V.int).set k (.int y)).set (k + 1) (.int x) = (p ++ y :: x :: q).map V.int := by
        rw [← List.map_set, ← List.map_set, hpq, ← hpk, set2]
      refine Eq.symm hset ▸ ?_
      rfl'
      refine hK.next (.mk (k + 1) (p ++ y :: x :: q) false _ _ (s4.put hF) (upd_keep hR4 (ne_of hR4 hF4 (by simp))) (uS _ _ _) ?_ ?_ nofun fun _ => ?_)
      · rw [← hins3, hpq]; exact (insAll_swap h0 hlt p q).symm
      · rw [← hlen3, hpq]; simp
      · have hv := invN_swap ⟨h0, hlt⟩ p q
        rw [← hpq] at hv
        cases dn with
        | true => rw [(hd1 rfl).1] at hv; exact hv ▸ Nat.lt_succ_self _
        | false => exact Nat.lt_of_succ_lt (Nat.lt_of_le_of_lt (Nat.le_of_eq hv.symm) (hd2 rfl))
    · have h0 : ¬ 0 < rk y := of_decide_eq_false e
      rfl'
      exact hK.next (.mk (k + 1) l' dn _ H' s3 hR3 hF3 hins3 hlen3 (pl_hold hx hy (fun z => h0 z.1) hd1) hd2)
  · have hlt : ¬ rk y < rk x := of_decide_eq_false e
    rfl'
    exact hK.next (.mk (k + 1) l' dn _ H' s3 hR3 hF3 hins3 hlen3 (pl_hold hx hy (fun z => hlt z.2) hd1) hd2)
theorem wc_law_plain (L : IsL W) {a : Addr} {text : List Int} (ha : H a = some (.list (text.map .int))) (hl : text.length ≤ 50) (h : ∀ H' F, Sub H H' → H F = none → H' F = some (.list ((plF text).map .int)) → Q (.ref F) H') : WC W (n + 2) 504 [.ref a] H Q := by
  refine fc_law_plain (n := n + 1) L ?_
  unfold ss_law_plain
  rfl'
  intro F0 hF0
  rfl'
  refine wc_law_ranks (n := n) L fun R hR => ?_
  have s1 : Sub H (upd (upd H F0 (.list [])) R (.idict rkD)) := ((Sub.refl H).new hF0).new hR
  have hFe : upd (upd H F0 (.list [])) R (.idict rkD) F0 = some (.list []) := uO hR (uS _ _ _)
  have hRe : upd (upd H F0 (.list [])) R (.idict rkD) R = some (.idict rkD) := uS _ _ _
  generalize upd (upd H F0 (.list [])) R (.idict rkD) = H1 at s1 hFe hRe
  rfl'
  refine vs_for (by rfl) ?_
  refine vi_list ?_
  rfl'
  refine ⟨a, _, rfl, s1 _ _ ha, PlI a R text H, .mk 0 F0 none H1 s1 hF0 hRe hFe, fun i ρ H' q => ?_, fun i v ρ H' K hv q hK => ?_, fun ρ H' q => ?_⟩
  · obtain ⟨_, _, _, s⟩ := q
    exact s _ _ ha
  · obtain ⟨F, μ4, _, s, hF, hR', hF'⟩ := q
    rw [List.getElem?_map] at hv
    obtain ⟨c, hc, rfl⟩ := Option.map_eq_some_iff.mp hv
    have hll : (((text.take i).flatMap expL).map V.int).length ≤ 1000 := by
      exact lmap (Nat.le_trans (flat_len (text.take i)) (Nat.le_trans (Nat.mul_le_mul_left 2 (ltake hl)) (by decide)))
    have hsn : (text.take (i + 1)).flatMap expL = (text.take i).flatMap expL ++ expL c := by
      rw [take_succ' hc]; simp
    clear hv ha hl
    rfl'
    refine we_dict_i nofun ?_
    refine wp_cons ?_
    rfl'
    intro A1 h1
    have t1 := s.new (o := .list [.int 97, .int 768]) h1
    have f1 := uO (o' := .list [.int 97, .int 768]) h1 hF'
    have g1 := uO (o' := .list [.int 97, .int 768]) h1 hR'
    replace h1 : upd H' A1 (.list [.int 97, .int 768]) A1 = some (.list [.int 97, .int 768]) := uS _ _ _
    generalize upd H' A1 (.list [.int 97, .int 768]) = G1 at t1 f1 g1 h1
    refine wp_cons ?_
    rfl'
    intro A2 h2
    replace t1 := t1.new (o := .list [.int 97, .int 769]) h2
    replace f1 := uO (o' := .list [.int 97, .int 769]) h2 f1
    replace g1 := uO (o' := .list [.int 97, .int 769]) h2 g1
    replace h1 := uO (o' := .list [.int 97, .int 769]) h2 h1
    replace h2 : upd G1 A2 (.list [.int 97, .int 769]) A2 = some (.list [.int 97, .int 769]) := uS _ _ _
    generalize upd G1 A2 (.list [.int 97, .int 769]) = G2 at t1 f1 g1 h1 h2
    refine wp_nil ⟨[(224, .ref A1), (225, .ref A2)], rfl, fun M hM => ?_⟩
    have hmm : amerge [] [((224 : Int), V.ref A1), (225, .ref A2)] = [(224, .ref A1), (225, .ref A2)] := rfl
    refine Eq.symm hmm ▸ ?_
    replace t1 := t1.new (o := .idict [(224, .ref A1), (225, .ref A2)]) hM
    replace f1 := uO (o' := .idict [(224, .ref A1), (225, .ref A2)]) hM f1
    replace g1 := uO (o' := .idict [(224, .ref A1), (225, .ref A2)]) hM g1
    replace h1 := uO (o' := .idict [(224, .ref A1), (225, .ref A2)]) hM h1
    replace h2 := uO (o' := .idict [(224, .ref A1), (225, .ref A2)]) hM h2
    replace hM : upd G2 M (.idict [(224, .ref A1), (225, .ref A2)]) M = some (.idict [(224, .ref A1), (225, .ref A2)]) := uS _ _ _
    generalize upd G2 M (.idict [(224, .ref A1), (225, .ref A2)]) = G3 at t1 f1 g1 h1 h2 hM
    refine me_get_i hM ?_
    rfl'
    intro A4 h4
    replace t1 := t1.new (o := .list [.int c]) h4
    replace f1 := uO (o' := .list [.int c]) h4 f1
    replace g1 := uO (o' := .list [.int c]) h4 g1
    replace h1 := uO (o' := .list [.int c]) h4 h1
    replace h2 := uO (o' := .list [.int c]) h4 h2
    replace hM := uO (o' := .list [.int c]) h4 hM
    replace h4 : upd G3 A4 (.list [.int c]) A4 = some (.list [.int c]) := uS _ _ _
    generalize upd G3 A4 (.list [.int c]) = G4 at t1 f1 g1 h1 h2 h4 hM
    rfl'
    refine wv_get_id hM ?_
    obtain ⟨Z, z1, z2⟩ := pl_key h1 h2 h4
    refine Eq.symm z1 ▸ ?_
    have := exp_len c
    refine op_list_add f1 z2 hll (lmap (Nat.le_trans this (by decide))) fun F' hF' => ?_
    rfl'
    exact hK.next (.mk (i + 1) F' _ _ (t1.new hF') (t1.none hF') (uO hF' g1) (by rw [uS, hsn, List.map_append]))
  · obtain ⟨F, μ4, _, s, hF, hR', hF'⟩ := q
    rw [List.length_map, List.take_length] at hF'
    have hll : (text.flatMap expL).length ≤ 100 := by
      exact Nat.le_trans (flat_len text) (Nat.mul_le_mul_left 2 hl)
    have htg : plF text = insAll rk (text.flatMap expL) := rfl
    rw [htg] at h
    clear htg hFe hRe s1 ha hl
    generalize text.flatMap expL = l0 at hF' h hll
    rfl'
    refine vs_whl (PwI a R F l0 μ4 H) (2 * invN l0 + 1) (.mk l0 false none _ rfl H' s hR' hF' rfl hll nofun) ?_
    rintro m ρ H2 K ⟨l, dn, μ5, _, hm, _, s2, hR2, hF2, hins, hlen, hno⟩ hK
    clear hF' hR' s hll
    cases dn with
    | true =>
      rfl'
      refine h H2 F s2 hF ?_
      refine Eq.symm hF2 ▸ ?_; refine hins ▸ ?_
      have := insAll_ord (r := rk) (m := l) (l := []) (by simpa using hno rfl)
      unfold insAll
      rw [this]; simp
    | false =>
      rfl'
      refine vs_for (by rfl) ?_
      refine vi_range1 ?_
      rfl'
      refine wv_len_list hF2 (lmap (Nat.le_trans hlen (by decide))) ?_
      rw [List.length_map]
      rfl'
      refine ⟨_, l.length - 1, rfl, sub1z _, nabs1 (Nat.le_trans hlen (by decide)) (by decide), PsI a R F l0 l μ4 H, .mk 0 l true μ5 H2 s2 hR2 hF2 hins rfl (fun _ => ⟨rfl, fun j x y hj => absurd hj (Nat.not_lt_zero _)⟩) nofun, fun _ _ _ _ => trivial, fun k v ρ H' K' hv q hK' => ?_, fun ρ H' q => ?_⟩
      · obtain ⟨l', dn, μ5, _, s3, hR3, hF3, hins3, hlen3, hd1, hd2⟩ := q
        obtain ⟨hk, rfl⟩ := rangeV_at hv
        rw [Int.zero_add]
        exact pl_turn hF (lt_sub1 hk) hlen s3 hR3 hF3 hins3 hlen3 hd1 hd2 hK'
      · generalize hj : (rangeV 0 (l.length - 1)).length = j at q
        have hm2 : (rangeV 0 (l.length - 1)).length = l.length - 1 := by simp [rangeV]
        obtain ⟨l', dn, μ5, _, s3, hR3, hF3, hins3, hlen3, hd1, hd2⟩ := q
        rw [hm2] at hj
        subst hj
        rfl'
        refine hK.next (2 * invN l' + (if dn then 0 else 1)) ?_ (.mk l' dn _ _ rfl H' s3 hR3 hF3 hins3 (Nat.le_trans (Nat.le_of_eq hlen3) hlen) fun e => ?_)
        · subst hm
          cases dn with
          | true => rw [(hd1 rfl).1]; simp
          | false => have := hd2 rfl; simp; lia
        · obtain ⟨e1, e2⟩ := hd1 e
          intro j x y hx hy
          rw [e1] at hx hy
          exact e2 j x y (Nat.le_sub_one_of_lt (g_lt hy)) hx hy
end
section
variable {W : Wd} {n : Nat} {cx : Cx} {ρ : Loc} {H : AH} {Q : V → AH → Prop}
noncomputable def lawB (c : Int) : Int := if 19968 ≤ c ∧ c ≤ 40959 then 64320 else if 13312 ≤ c ∧ c ≤ 19903 then 64384 else 64448
theorem law_base : ∀ c ∈ cdL, (lawB c + c.fdiv 32768 = baseOf c ∧ (32768 : Int) + c.fmod 32768 = 32768 + c) ∧ ((19968 ≤ c ∧ c ≤ 40959) ∨ (¬ 19968 ≤ c ∧ 13312 ≤ c ∧ c ≤ 19903) ∨ (¬ 19968 ≤ c ∧ ¬ 13312 ≤ c)) := by decide +kernel
noncomputable def recL (c : Int) : List Ele := [(baseOf c, 32, 2, false), (32768 + c, 0, 0, false)]
theorem wc_law_reckoned (L : IsL W) {c : Int} (hc : c ∈ cdL) (h : ∀ R, H R = none → Q (.ref R) (upd H R (.list ((recL c).map eV)))) : WC W (n + 1) 511 [.int c] H Q := by
  obtain ⟨⟨e1, e2⟩, e3⟩ := law_base c hc
  have fin : ∀ {b : Int}, lawB c = b → vSs W n cx_law_reckoned (ssDrop 1 ss_law_reckoned) [some (.int c), some (.int b)] H (rK Q) := by
    rintro b rfl
    unfold ss_law_reckoned
    rfl'
    refine Eq.symm e1 ▸ ?_; refine Eq.symm e2 ▸ ?_
    exact h
  refine fc_law_reckoned L ?_
  unfold ss_law_reckoned
  rfl'
  rcases e3 with ⟨a, b⟩ | ⟨a, b, d⟩ | ⟨a, b⟩
  · refine call_true (decide_eq_true a) ?_
    rfl'
    refine call_true (decide_eq_true b) ?_
    exact fin (if_pos ⟨a, b⟩)
  · refine call_false (decide_eq_false a) ?_
    rfl'
    refine call_true (decide_eq_true b) ?_
    rfl'
    refine call_true (decide_eq_true d) ?_
    exact fin (by unfold lawB; rw [if_neg fun z => a z.1, if_pos ⟨b, d⟩])
  · refine call_false (decide_eq_false a) ?_
    rfl'
    refine call_false (decide_eq_false b) ?_
    refine pr_f ?_
    exact fin (by unfold lawB; rw [if_neg fun z => a z.1, if_neg fun z => b z.1])
end
section
variable {W : Wd} {n : Nat} {cx : Cx} {ρ : Loc} {H : AH} {Q : V → AH → Prop}
theorem rkD_at (c : Int) : alook rkD c = if rk c = 0 then none else some (.int (rk c)) := by
  by_cases h1 : c = 768
  · subst h1; rfl
  by_cases h2 : c = 769
  · subst h2; rfl
  by_cases h3 : c = 803
  · subst h3; rfl
  by_cases h4 : c = 807
  · subst h4; rfl
  rw [if_pos (by unfold rk; rw [if_neg (by lia), if_neg h3, if_neg h4])]
  unfold alook rkD
  rw [List.find?_cons_of_neg (by simpa using Ne.symm h1), List.find?_cons_of_neg (by simpa using Ne.symm h2), List.find?_cons_of_neg (by simpa using Ne.symm h3), List.find?_cons_of_neg (by simpa using Ne.symm h4)]; rfl
theorem rkD_is {c : Int} (h : rk c ≠ 0) : alook rkD c = some (.int (rk c)) := by rw [rkD_at, if_neg h]
theorem rkD_in (c : Int) : (alook rkD c).isSome = !decide (rk c = 0) := by
  rw [rkD_at]
  by_cases h : rk c = 0
  · rw [if_pos h, decide_eq_true h]; rfl
  · rw [if_neg h, decide_eq_false h]; rfl
noncomputable def bigL (has : List Int → Bool) (l : List Int) : Nat → Nat
  | 0 => 0
  | s + 1 => if has (l.take (s + 1)) then s + 1 else bigL has l s
noncomputable def free (st : List Int) (c : Int) : Bool := st.all fun y => decide (rk y < rk c)
noncomputable def scan (has : List Int → Bool) : List Int → List Int → List Int → List Int × List Int × List Int
  | [], row, st => (row, st, [])
  | c :: r, row, st => if rk c = 0 then (row, st, c :: r) else if free st c && has (row ++ [c]) then scan has r (row ++ [c]) st else scan has r row (st ++ [c])
noncomputable def leF (T : List (List Int × List Ele)) : Nat → List Int → List Ele
  | 0, _ => []
  | _, [] => []
  | f + 1, c :: r => if bigL (hasK T) (c :: r) (c :: r).length = 0 then recL c ++ leF T f r else
    let q := scan (hasK T) ((c :: r).drop (bigL (hasK T) (c :: r) (c :: r).length)) ((c :: r).take (bigL (hasK T) (c :: r) (c :: r).length)) []
    (alook T q.1).getD [] ++ leF T f (q.2.1 ++ q.2.2)
theorem bigL_le {has : List Int → Bool} {l : List Int} : ∀ s, bigL has l s ≤ s
  | 0 => Nat.le_refl _
  | s + 1 => by
    unfold bigL
    split
    · exact Nat.le_refl _
    · exact Nat.le_succ_of_le (bigL_le s)
theorem bigL_has {has : List Int → Bool} {l : List Int} : ∀ s, bigL has l s ≠ 0 → has (l.take (bigL has l s)) = true
  | 0, h => absurd rfl h
  | s + 1, h => by
    unfold bigL at h ⊢
    by_cases e : has (l.take (s + 1)) = true
    · rw [if_pos e]; exact e
    · rw [if_neg e] at h ⊢; exact bigL_has s h
noncomputable def isz (has : List Int → Bool) (l : List Int) : V → Bool
  | .int i => has (l.take i.toNat)
  | _ => false
theorem sizes_last {has : List Int → Bool} {l : List Int} : ∀ m, ((rangeV 1 m).filter (isz has l) = [] ∧ bigL has l m = 0) ∨ (∃ k, ((rangeV 1 m).filter (isz has l)) = k ++ [.int (bigL has l m : Nat)] ∧ bigL has l m ≠ 0)
  | 0 => .inl ⟨rfl, rfl⟩
  | m + 1 => by
    have e : rangeV 1 (m + 1) = rangeV 1 m ++ [.int (m + 1 : Nat)] := by
      unfold rangeV
      rw [List.range_succ, List.map_append, List.map_singleton, show (1 : Int) + (m : Int) = ((m + 1 : Nat) : Int) by lia]
    rw [e, List.filter_append]
    unfold bigL
    by_cases hh : has (l.take (m + 1)) = true
    · rw [if_pos hh, List.filter_cons_of_pos (show isz has l (.int ((m + 1 : Nat) : Int)) = true from hh)]
      exact .inr ⟨_, rfl, Nat.succ_ne_zero _⟩
    · rw [if_neg hh, List.filter_cons_of_neg (show ¬ isz has l (.int ((m + 1 : Nat) : Int)) = true from hh), List.filter_nil, List.append_nil]
      exact sizes_last m
theorem scan_has {has : List Int → Bool} : ∀ {r row st : List Int}, has row = true → has (scan has r row st).1 = true
  | [], _, _, h => h
  | c :: r, row, st, h => by
    unfold scan
    split
    · exact h
    · split
      · rename_i e
        exact scan_has (Bool.and_eq_true_iff.mp e).2
      · exact scan_has h
theorem scan_mem {has : List Int → Bool} : ∀ {r row st : List Int} {y : Int}, y ∈ (scan has r row st).2.1 ++ (scan has r row st).2.2 → y ∈ r ∨ y ∈ st
  | [], _, _, y, h => by
    unfold scan at h
    rcases List.mem_append.mp h with h | h
    · exact .inr h
    · cases h
  | c :: r, row, st, y, h => by
    unfold scan at h
    split at h
    · exact (List.mem_append.mp h).symm
    · split at h
      · exact (scan_mem h).imp_left fun q => .tail _ q
      · rcases scan_mem h with q | q
        · exact .inl (.tail _ q)
        · rcases List.mem_append.mp q with q | q
          · exact .inr q
          · exact .inl (List.mem_singleton.mp q ▸ .head _)
theorem scan_len {has : List Int → Bool} : ∀ {r row st : List Int}, ((scan has r row st).2.1 ++ (scan has r row st).2.2).length ≤ r.length + st.length
  | [], _, st => by unfold scan; simp
  | c :: r, row, st => by
    unfold scan
    split
    · simp; lia
    · split
      · exact Nat.le_trans scan_len (by simp)
      · exact Nat.le_trans scan_len (by simp; lia)
theorem pds_int : ∀ l : List Int, ∃ ds, pds (l.map .int) = some ds
  | [] => ⟨[], rfl⟩
  | x :: l => by
    obtain ⟨ds, h⟩ := pds_int l
    exact ⟨.int x :: ds, by rw [List.map_cons]; unfold pds pd; rw [h]⟩
theorem cmp_eq_nil {a b : Addr} {l : List V} (h1 : H a = some (.list l)) (h2 : H b = some (.list [])) (hp : ∃ ds, pds l = some ds) : CmpOk W n .Eq (.ref a) (.ref b) H l.isEmpty := by
  obtain ⟨ds, hd⟩ := hp
  obtain ⟨x, y⟩ := den_pds (H := H) hd
  have h := cmp_eqd (W := W) (n := n) (Den.list h1 x) (Den.list h2 .tupNil) (by rw [PyData.canLay0]; exact y) rfl (Nat.le_trans (Nat.min_le_right _ _) (by decide))
  have e : PyData.eqv (.list ds) (.list []) = l.isEmpty := by
    cases l with
    | nil => unfold pds at hd; cases hd; decide +kernel
    | cons v l =>
      unfold pds at hd
      split at hd
      · cases hd; rfl
      · cases hd
  rwa [e] at h
theorem cb_filterS {own : List Nat} {elt : E} {t : T} {c : E} {vals : List V} {Wt : AH → Prop} {f : V → V} {p : V → Bool} {Q : V → AH → Prop} (hl : vals.length ≤ 1000) (hw : ∀ H', Sub H H' → Wt H')
    (step : ∀ v ∈ vals, ∀ H', Sub H H' → vB t v ρ fun ρ1 => vT W n cx c ρ1 H' fun ok H2 => ok = p v ∧ Sub H' H2 ∧ (p v = true → vE W n cx elt ρ1 H2 fun y H3 => y = f v ∧ H3 = H2))
    (fin : ∀ H' D, Sub H H' → H' D = none → Q (.ref D) (upd H' D (.list ((vals.filter p).map f)))) : ∃ Inv, CB W n cx own elt t (.cons c .nil) Q ρ vals Wt H Inv := by
  refine ⟨fun i out H' => Sub H H' ∧ out = ((vals.take i).filter p).map f, hl, ⟨Sub.refl H, rfl⟩, fun i out H' h => hw H' h.1, fun i v out H' hv q => ?_, fun out H' q D hD => ?_⟩
  · obtain ⟨h1, h2⟩ := q
    obtain ⟨ρ1, b, k⟩ := vB_inv t (step v (List.mem_of_getElem? hv) H' h1)
    refine ⟨ρ1, b, ?_⟩
    unfold WCond
    refine (vT_sound c k).mono fun ok H2 q => ?_
    obtain ⟨e1, e2, e3⟩ := q
    subst e1
    refine ⟨fun e => (vE_sound elt (e3 e)).mono fun y H3 g => ⟨g.2 ▸ h1.trans e2, ?_⟩, fun e => ⟨h1.trans e2, ?_⟩⟩
    · rw [take_succ' hv, List.filter_append, List.map_append, h2, g.1, List.filter_cons_of_pos e]; rfl
    · rw [take_succ' hv, List.filter_append, List.map_append, h2, List.filter_cons_of_neg (by rw [e]; exact nofun), List.filter_nil, List.map_nil, List.append_nil]
  · obtain ⟨h1, h2⟩ := q
    rw [List.take_length] at h2
    rw [h2]; exact fin H' D h1 hD
end
section
variable {W : Wd} {n : Nat} {cx : Cx} {ρ : Loc} {H : AH} {Q : V → AH → Prop}
noncomputable def leWhl : S := (.whl (.bop .And (.cons (.cmp (.loc 9) .Lt (.blt "len" (.cons (.loc 7) .nil))) (.cons (.cmp (.idx (.loc 7) (.loc 9)) .In (.loc 3)) .nil))) (.cons (.asg (.slot 10) (.cmp (.comp { kinds := [(".0", .local), ("code", .local), ("at", .cell), ("ranks", .cell), ("rest", .cell)], slots := [("code", 12), ("at", 9), ("ranks", 3), ("rest", 7)], own := false } [12] (.loc 12) (.slot 12) (.plain (.loc 8)) (.cons (.cmp (.idx (.loc 3) (.loc 12)) .GtE (.idx (.loc 3) (.idx (.loc 7) (.loc 9)))) .nil)) .Eq (.lst .nil))) (.cons (.ifs (.bop .And (.cons (.loc 10) (.cons (.cmp (.typ "tuple" (.cons (.bin .Add (.loc 6) (.lst (.cons (.idx (.loc 7) (.loc 9)) .nil))) .nil)) .In (.loc 1)) .nil))) (.cons (.asg (.slot 6) (.bin .Add (.loc 6) (.lst (.cons (.idx (.loc 7) (.loc 9)) .nil)))) .nil) (.cons (.exp (.meth (.loc 8) "append" (.cons (.idx (.loc 7) (.loc 9)) .nil))) .nil)) (.cons (.asg (.slot 9) (.bin .Add (.loc 9) (.cst (.int 1)))) .nil))))
theorem skip_drop {α : Type} {l : List α} {k : Nat} {x : α} (h : l[k]? = some x) : l.drop k = x :: l.drop (k + 1) := by
  obtain ⟨h1, h2⟩ := List.getElem?_eq_some_iff.mp h
  rw [List.drop_eq_getElem_cons h1, h2]
structure TbR (H : AH) (t R : Addr) (T' : List (List Int × V)) (T : List (List Int × List Ele)) : Prop where
  tab : ∃ ep, H t = some (.tdict T' ep)
  rows : TabR H T' T
  rks : H R = some (.idict rkD)
theorem TbR.sub {H' : AH} {t R : Addr} {T' : List (List Int × V)} {T : List (List Int × List Ele)} (x : TbR H t R T' T) (s : Sub H H') : TbR H' t R T' T := by
  obtain ⟨⟨ep, e⟩, b, r⟩ := x
  exact ⟨⟨ep, s _ _ e⟩, b.imp fun _ _ e => s _ _ e, s _ _ r⟩
inductive LsI (a t A R F Z Rs S : Addr) (T : List (List Int × List Ele)) (rest row0 : List Int) (H : AH) : Nat → Loc → AH → Prop
  | mk (k : Nat) (row st : List Int) (P : Addr) (μ : Option V) (m : Nat) (hm : m = rest.length - k) (H' : AH) (s : Sub H H') (hk : k ≤ rest.length) (hP : H' P = some (.list (row.map .int))) (hS : H' S = some (.list (st.map .int))) (ne : P ≠ S)
    (hl : row.length ≤ row0.length + k) (hst : st.length ≤ k) (hr : ∀ y ∈ st, rk y ≠ 0) (e : scan (hasK T) (rest.drop k) row st = scan (hasK T) rest row0 []) :
    LsI a t A R F Z Rs S T rest row0 H m [some (.ref a), some (.ref t), some (.ref A), some (.ref R), some (.ref F), some (.ref Z), some (.ref P), some (.ref Rs), some (.ref S), some (.int (k : Int)), μ, none, none] H'
inductive LsE (a t A R F Z Rs S : Addr) (T : List (List Int × List Ele)) (rest row0 : List Int) (H : AH) : AF → Loc → AH → Prop
  | mk (k : Nat) (row st : List Int) (P : Addr) (μ : Option V) (H' : AH) (s : Sub H H') (hk : k ≤ rest.length) (hP : H' P = some (.list (row.map .int))) (hS : H' S = some (.list (st.map .int))) (hl : row.length ≤ row0.length + k) (hst : st.length ≤ k) (e : scan (hasK T) rest row0 [] = (row, st, rest.drop k)) :
    LsE a t A R F Z Rs S T rest row0 H .next [some (.ref a), some (.ref t), some (.ref A), some (.ref R), some (.ref F), some (.ref Z), some (.ref P), some (.ref Rs), some (.ref S), some (.int (k : Int)), μ, none, none] H'
noncomputable def notLess (c : Int) : V → Bool
  | .int y => decide (rk c ≤ rk y)
  | _ => false
theorem free_eq (c : Int) : ∀ st : List Int, (((st.map V.int).filter (notLess c)).map id).isEmpty = free st c
  | [] => rfl
  | y :: st => by
    have ih := free_eq c st
    rw [List.map_id] at ih ⊢
    rw [List.map_cons]
    unfold free at ih ⊢
    rw [List.all_cons, ← ih]
    by_cases h : rk c ≤ rk y
    · rw [List.filter_cons_of_pos (show notLess c (.int y) = true from decide_eq_true h), decide_eq_false (show ¬ rk y < rk c by lia)]; rfl
    · rw [List.filter_cons_of_neg (show ¬ notLess c (.int y) = true from fun e => h (of_decide_eq_true e)), decide_eq_true (show rk y < rk c by lia)]; rfl
theorem pds_filter {p : V → Bool} (l : List Int) : ∃ ds, pds (((l.map V.int).filter p).map id) = some ds := by
  rw [List.map_id, List.filter_map]
  exact pds_int _
theorem scan_cons {has : List Int → Bool} {c : Int} {r row st : List Int} : scan has (c :: r) row st = if rk c = 0 then (row, st, c :: r) else if free st c && has (row ++ [c]) then scan has r (row ++ [c]) st else scan has r row (st ++ [c]) := rfl
theorem le_else {y0 y1 y2 y3 y4 y5 y6 y10 y11 y12 : Option V} {Rs S : Addr} {rest st : List Int} {k : Nat} {c : Int} {Q : AF → Loc → AH → Prop} (hRs : H Rs = some (.list (rest.map .int))) (i1 : seqIndex? (k : Int) (rest.map V.int).length = some k) (i2 : (rest.map V.int)[k]? = some (.int c)) (i3 : (k : Int).natAbs < 2 ^ 60) (hS : H S = some (.list (st.map .int))) (hl : st.length ≤ 1000)
    (h : Q .next [y0, y1, y2, y3, y4, y5, y6, some (.ref Rs), some (.ref S), some (.int (k : Int)), y10, y11, y12] (upd H S (.list ((st ++ [c]).map .int)))) :
    vSs W n cx_law_elements (.cons (.exp (.meth (.loc 8) "append" (.cons (.idx (.loc 7) (.loc 9)) .nil))) .nil) [y0, y1, y2, y3, y4, y5, y6, some (.ref Rs), some (.ref S), some (.int (k : Int)), y10, y11, y12] H Q := by
  rfl'
  refine me_append hS ?_
  rfl'
  refine idx_list hRs i1 i2 i3 ?_
  rfl'
  refine wv_append hS (by rw [List.length_map]; exact hl) ?_
  rfl'
  rw [List.map_append] at h
  exact h
theorem le_scan (L : IsL W) {a t A R F Z Rs S P0 : Addr} {T' : List (List Int × V)} {T : List (List Int × List Ele)} {rest row0 : List Int} {μ : Option V} (hS : H S = some (.list [])) (hP : H P0 = some (.list (row0.map .int))) (hne : P0 ≠ S) (hl : rest.length + row0.length ≤ 100) {H0 : AH} (s0 : Sub H0 H) (hS0 : H0 S = none) (x0 : TbR H0 t R T' T) (hRs0 : H0 Rs = some (.list (rest.map .int))) :
    WS W n cx_law_elements leWhl [some (.ref a), some (.ref t), some (.ref A), some (.ref R), some (.ref F), some (.ref Z), some (.ref P0), some (.ref Rs), some (.ref S), some (.int ((0 : Nat) : Int)), μ, none, none] H (LsE a t A R F Z Rs S T rest row0 H0) := by
  unfold leWhl
  refine vs_whl (LsI a t A R F Z Rs S T rest row0 H0) rest.length (.mk 0 row0 [] P0 μ _ rfl H s0 (Nat.zero_le _) hP hS hne (Nat.le_refl _) (Nat.le_refl _) nofun rfl) ?_
  rintro m ρ H2 K ⟨k, row, st, P, μ, _, hm, _, s, hk, hP2, hS2, ne, hl2, hst, hr, e⟩ hK
  have x2 := x0.sub s
  have hRs2 := s _ _ hRs0
  have hml : (rest.map V.int).length = rest.length := List.length_map _
  clear hS hP hne
  rfl'
  refine wv_len_list hRs2 (by lia) ?_
  refine Eq.symm hml ▸ ?_
  rfl'
  refine ⟨fun h => ?_, fun h => ?_⟩
  · have hk1 : k < rest.length := by have := of_decide_eq_true h; lia
    obtain ⟨c, hc⟩ : ∃ c, rest[k]? = some c := ⟨_, List.getElem?_eq_getElem hk1⟩
    have i1 := pl_seq hk1
    have i2 := pl_at hc
    have i3 := small_nat hk1 (by lia)
    clear h
    rfl'
    refine idx_list hRs2 i1 i2 i3 ?_
    refine ⟨_, cmp_in_i x2.rks, ?_⟩
    rw [rkD_in]
    by_cases h0 : rk c = 0
    · rw [decide_eq_true h0]
      rfl'
      refine .mk k row st P μ H2 s hk hP2 hS2 hl2 hst ?_
      rw [← e, skip_drop hc, scan_cons, if_pos h0]
    · rw [decide_eq_false h0]
      rfl'
      refine we_comp (by rfl) (own1 rfl) (sub1 rfl) ?_
      refine vi_list ?_
      rfl'
      refine ⟨S, _, rfl, hS2, ?_⟩
      refine cb_filter (f := id) (p := notLess c) (by rw [List.length_map]; lia) hS2 (fun v hv => ?_) (fun D hD => ?_)
      · obtain ⟨y, hy, rfl⟩ := List.mem_map.mp hv
        rfl'
        refine idx_idict x2.rks (rkD_is (hr y hy)) ?_
        rfl'
        refine idx_list hRs2 i1 i2 i3 ?_
        refine idx_idict x2.rks (rkD_is h0) ?_
        rfl'
        exact ⟨rfl, rfl, fun _ => ⟨rfl, rfl⟩⟩
      have hf := free_eq c st
      have hpd := pds_filter (p := notLess c) st
      generalize ((st.map V.int).filter (notLess c)).map id = l0 at hf hpd ⊢
      rfl'
      intro N hN
      refine ⟨_, cmp_eq_nil (uO hN (uS _ _ _)) (uS _ _ _) hpd, ?_⟩
      refine Eq.symm hf ▸ ?_
      have s3 := ((Sub.refl H2).new (o := .list l0) hD).new (o := .list []) hN
      generalize upd (upd H2 D (.list l0)) N (.list []) = H3 at s3
      clear hf hpd hN hD
      have hk3 : k + 1 ≤ rest.length := hk1
      have hne1 : ∀ y ∈ st ++ [c], rk y ≠ 0 := fun y hy => (List.mem_append.mp hy).elim (hr y) fun q => List.mem_singleton.mp q ▸ h0
      have hsl : (st ++ [c]).length ≤ k + 1 := by rw [List.length_append]; exact Nat.succ_le_succ hst
      have e0 := e
      rw [skip_drop hc, scan_cons, if_neg h0] at e0
      cases hfr : free st c with
      | false =>
        rw [hfr, Bool.false_and, if_neg nofun] at e0
        rfl'
        refine le_else (s3 _ _ hRs2) i1 i2 i3 (s3 _ _ hS2) (by lia) ?_
        rfl'
        refine hK.next (rest.length - (k + 1)) (by lia) (.mk (k + 1) row (st ++ [c]) P _ _ rfl _ ((s.trans s3).put hS0) hk1 (upd_keep (s3 _ _ hP2) ne) (uS _ _ _) ne (Nat.le_succ_of_le hl2) hsl hne1 e0)
      | true =>
        rw [hfr, Bool.true_and] at e0
        have hml2 : (row.map V.int).length ≤ 1000 := by rw [List.length_map]; lia
        rfl'
        refine idx_list (s3 _ _ hRs2) i1 i2 i3 ?_
        rfl'
        intro N hN
        refine op_list_add (uO hN (s3 _ _ hP2)) (uS _ _ _) hml2 (Nat.le_of_ble_eq_true rfl) fun M hM => ?_
        have s4 := (s3.new (o := .list [.int c]) hN).new (o := .list (row.map V.int ++ [.int c])) hM
        have hM4 := uS (upd H3 N (.list [.int c])) M (.list (row.map V.int ++ [.int c]))
        generalize upd (upd H3 N (.list [.int c])) M (.list (row.map V.int ++ [.int c])) = H4 at s4 hM4
        clear hN hM
        rfl'
        refine wv_tuple_list hM4 (by rw [List.length_append]; exact Nat.le_trans (Nat.succ_le_succ (by rw [List.length_map]; lia)) (show 500 + 1 ≤ 1000 by decide)) ?_
        obtain ⟨ep, ht⟩ := x2.tab
        have hcm := cmp_in_t (W := W) (n := n) (k := row ++ [c]) (s4 _ _ ht)
        unfold tupI at hcm
        rw [List.map_append] at hcm
        refine ⟨_, hcm, ?_⟩
        rw [x2.rows.has]
        clear hcm hM4 ht
        cases hh : hasK T (row ++ [c]) with
        | false =>
          rw [hh, if_neg nofun] at e0
          rfl'
          refine le_else (s4 _ _ hRs2) i1 i2 i3 (s4 _ _ hS2) (by lia) ?_
          rfl'
          refine hK.next (rest.length - (k + 1)) (by lia) (.mk (k + 1) row (st ++ [c]) P _ _ rfl _ ((s.trans s4).put hS0) hk1 (upd_keep (s4 _ _ hP2) ne) (uS _ _ _) ne (Nat.le_succ_of_le hl2) hsl hne1 e0)
        | true =>
          rw [hh, if_pos rfl] at e0
          rfl'
          refine idx_list (s4 _ _ hRs2) i1 i2 i3 ?_
          rfl'
          intro N hN
          refine op_list_add (uO hN (s4 _ _ hP2)) (uS _ _ _) hml2 (Nat.le_of_ble_eq_true rfl) fun M hM => ?_
          have s5 := (s4.new (o := .list [.int c]) hN).new (o := .list (row.map V.int ++ [.int c])) hM
          have hM5 : upd (upd H4 N (.list [.int c])) M (.list (row.map V.int ++ [.int c])) M = some (.list ((row ++ [c]).map V.int)) := by rw [uS, List.map_append]; rfl
          have hMS : M ≠ S := by rintro rfl; rw [uO hN (s4 _ _ hS2)] at hM; cases hM
          generalize upd (upd H4 N (.list [.int c])) M (.list (row.map V.int ++ [.int c])) = H5 at s5 hM5
          rfl'
          refine hK.next (rest.length - (k + 1)) (by lia) (.mk (k + 1) (row ++ [c]) st M _ _ rfl _ (s.trans s5) hk1 hM5 (s5 _ _ hS2) hMS (by rw [List.length_append]; exact Nat.succ_le_succ hl2) (Nat.le_succ_of_le hst) hr e0)
  · have hk1 : k = rest.length := by have := of_decide_eq_false h; lia
    rfl'
    refine .mk k row st P μ H2 s hk hP2 hS2 hl2 hst ?_
    rw [← e, List.drop_of_length_le (Nat.le_of_eq hk1.symm)]
    rfl
end
section
variable {W : Wd} {n : Nat} {cx : Cx} {ρ : Loc} {H : AH} {Q : V → AH → Prop}
theorem leF_cons {T : List (List Int × List Ele)} {f : Nat} {l : List Int} (h : l ≠ []) : leF T (f + 1) l = if bigL (hasK T) l l.length = 0 then recL (l.headD 0) ++ leF T f (l.drop 1) else
    (alook T (scan (hasK T) (l.drop (bigL (hasK T) l l.length)) (l.take (bigL (hasK T) l l.length)) []).1).getD [] ++ leF T f ((scan (hasK T) (l.drop (bigL (hasK T) l l.length)) (l.take (bigL (hasK T) l l.length)) []).2.1 ++ (scan (hasK T) (l.drop (bigL (hasK T) l l.length)) (l.take (bigL (hasK T) l l.length)) []).2.2) := by
  cases l with
  | nil => exact absurd rfl h
  | cons c r => rfl
inductive LeI (a t R : Addr) (T : List (List Int × List Ele)) (all : List Ele) (H H1 : AH) : Nat → Loc → AH → Prop
  | mk (left : List Int) (found : List Ele) (A F : Addr) (y5 y6 y7 y8 y9 y10 : Option V) (m : Nat) (H' : AH) (s : Sub H1 H') (hA : H' A = some (.list (left.map .int))) (hF : H' F = some (.list (found.map eV))) (hFn : H F = none) (hl : left.length ≤ m) (hc : ∀ c ∈ left, c ∈ cdL) (hb : found.length + 2 * m ≤ 100) (e : found ++ leF T m left = all) :
    LeI a t R T all H H1 m [some (.ref a), some (.ref t), some (.ref A), some (.ref R), some (.ref F), y5, y6, y7, y8, y9, y10, none, none] H'
theorem range_mem {a : Int} {m : Nat} {v : V} (h : v ∈ rangeV a m) : ∃ i, i < m ∧ v = .int (a + (i : Int)) := by
  obtain ⟨i, hi⟩ := List.getElem?_of_mem h
  exact ⟨i, rangeV_at hi⟩
theorem pds_range {p : V → Bool} {a : Int} {m : Nat} : ∃ ds, pds (((rangeV a m).filter p).map id) = some ds := by
  have := pds_filter (p := p) ((List.range m).map fun (i : Nat) => a + (i : Int))
  rw [List.map_map] at this
  exact this
theorem wc_law_elements (L : IsL W) {a t : Addr} {T' : List (List Int × V)} {T : List (List Int × List Ele)} {text : List Int} {ep : Option Nat} (ha : H a = some (.list (text.map .int))) (ht : H t = some (.tdict T' ep)) (hb : TabR H T' T) (hx : ∀ c ∈ plF text, c ∈ cdL) (hl : text.length ≤ 13) (hpl : (plF text).length ≤ 30)
    (hT : ∀ k es, alook T k = some es → es.length ≤ 2) (h : ∀ H' F, Sub H H' → H F = none → H' F = some (.list ((leF T (plF text).length (plF text)).map eV)) → Q (.ref F) H') : WC W (n + 3) 516 [.ref a, .ref t] H Q := by
  refine fc_law_elements (n := n + 2) L ?_
  unfold ss_law_elements
  rfl'
  refine wc_law_plain (n := n) L ha (Nat.le_trans hl (by decide)) fun H1 A s1 hA1 hA => ?_
  rfl'
  refine wc_law_ranks (n := n + 1) L fun R hR => ?_
  rfl'
  intro F hF
  have s2 := (s1.new (o := .idict rkD) hR).new (o := .list []) hF
  have x : TbR (upd (upd H1 R (.idict rkD)) F (.list [])) t R T' T := ⟨⟨ep, s2 _ _ ht⟩, hb.imp fun _ _ e => s2 _ _ e, uO hF (uS _ _ _)⟩
  replace hA := uO (o' := .list []) hF (uO (o' := .idict rkD) hR hA)
  have hFn := s1.none (upd_new hF).1
  replace hF : upd (upd H1 R (.idict rkD)) F (.list []) F = some (.list []) := uS _ _ _
  generalize upd (upd H1 R (.idict rkD)) F (.list []) = H2 at s2 x hA hF
  clear ha ht hb s1 hR hA1
  generalize plF text = left0 at hA hx hpl h
  generalize hall : leF T left0.length left0 = all at h
  rfl'
  refine vs_whl (LeI a t R T all H H2) left0.length (.mk left0 [] A F none none none none none none _ H2 (Sub.refl _) hA hF hFn (Nat.le_refl _) hx (Nat.le_trans (Nat.add_le_add_left (Nat.mul_le_mul_left 2 hpl) 0) (by decide)) hall) ?_
  clear hA hF hFn hx hpl hall hl
  rintro m ρ H3 K ⟨left, found, A, F, y5, y6, y7, y8, y9, y10, _, _, s3, hA, hF, hFn, hl, hc, hb, e⟩ hK
  have x3 := x.sub s3
  have hml : (left.map V.int).length = left.length := List.length_map _
  have hm1 : (left.map V.int).length ≤ 1000 := lmap (Nat.le_trans hl (Nat.le_trans (half hb) (by decide)))
  rfl'
  intro N hN
  refine ⟨_, cmp_ne_nil (uO hN hA) (uS _ _ _) (pds_int left), ?_⟩
  have s4 := (Sub.refl H3).new (o := .list []) hN
  generalize upd H3 N (.list []) = H4 at s4
  clear hN
  by_cases hnil : left = []
  · subst hnil
    rfl'
    refine h H4 F ((s2.trans s3).trans s4) hFn (s4 _ _ ?_)
    have hz : leF T m [] = [] := by cases m <;> rfl
    rw [hz, List.append_nil] at e
    rw [hF, e]
  obtain ⟨m, rfl⟩ : ∃ k, m = k + 1 := ⟨m - 1, pr_eq (Nat.ne_of_gt (Nat.lt_of_lt_of_le (List.length_pos_iff.mpr hnil) hl))⟩
  have hem : (left.map V.int).isEmpty = false := by cases left <;> first | exact absurd rfl hnil | rfl
  rw [hem]
  rw [leF_cons hnil] at e
  have hh := sizes_last (has := hasK T) (l := left) left.length
  have hbh := bigL_has (has := hasK T) (l := left) left.length
  have hbl := bigL_le (has := hasK T) (l := left) left.length
  generalize hbg : bigL (hasK T) left left.length = b at e hh hbh hbl
  rfl'
  refine vs_asgc (by rfl) (own1 rfl) (sub1 rfl) ?_
  refine vi_range2 ?_
  rfl'
  refine wv_len_list (s4 _ _ hA) hm1 ?_
  rw [hml]
  rfl'
  refine ⟨_, _, left.length, rfl, rfl, .inl (Int.add_sub_cancel ..), by decide, nab1 (Nat.le_trans (Nat.succ_le_succ (hml ▸ hm1)) (by decide)), ?_⟩
  refine cb_filterS (f := id) (p := isz (hasK T) left) (by unfold rangeV; rw [List.length_map, List.length_range]; exact hml ▸ hm1) (fun _ _ => trivial) (fun v hv H5 s5 => ?_) (fun H5 D s5 hD => ?_)
  · obtain ⟨i, hi, rfl⟩ := range_mem hv
    rw [show (1 : Int) + (i : Int) = ((i + 1 : Nat) : Int) from Int.add_comm ..]
    have x5 := x3.sub (s4.trans s5)
    rfl'
    refine sl_list_to (k := i + 1) (s5 _ _ (s4 _ _ hA)) hm1 fun M hM => ?_
    have s6 := (Sub.refl H5).new (o := .list ((left.map V.int).take (i + 1))) hM
    rfl'
    refine wv_tuple_list (uS _ _ _) (Nat.le_trans (List.length_take_le' _ _) hm1) ?_
    obtain ⟨ep, ht⟩ := x5.tab
    have hcm := cmp_in_t (W := W) (n := n + 2) (k := left.take (i + 1)) (s6 _ _ ht)
    unfold tupI at hcm
    rw [List.map_take] at hcm
    refine ⟨_, hcm, ?_⟩
    rw [x5.rows.has]
    refine ⟨rfl, s6, fun _ => ?_⟩
    rfl'
    exact ⟨rfl, rfl⟩
  have hpd := pds_range (p := isz (hasK T) left) (a := 1) (m := left.length)
  have hlen : left.length ≤ 60 := Nat.le_trans hl (Nat.le_trans (half hb) (by decide))
  have s45 := s4.trans s5
  generalize hz : ((rangeV 1 left.length).filter (isz (hasK T) left)).map id = l0 at hpd hD ⊢
  rw [List.map_id] at hz
  rw [hz] at hh
  have s6 := s45.new (o := .list l0) hD
  have hD6 : upd H5 D (.list l0) D = some (.list l0) := uS _ _ _
  generalize upd H5 D (.list l0) = H6 at s6 hD6
  clear hz hD s5 s45 s4
  rfl'
  intro N hN
  refine ⟨_, cmp_eq_nil (uO hN hD6) (uS _ _ _) hpd, ?_⟩
  have s7 := s6.new (o := .list []) hN
  replace hD6 := uO (o' := .list []) hN hD6
  generalize upd H6 N (.list []) = H7 at s7 hD6
  clear s6 hN hpd
  have x7 := x3.sub s7
  replace hA := s7 _ _ hA
  replace hF := s7 _ _ hF
  have s27 := s3.trans s7
  clear s7 x3 s3
  have hfl : (found.map eV).length ≤ 1000 := lmap (Nat.le_trans (Nat.le_trans (Nat.le_add_right _ _) hb) (by decide))
  rcases hh with ⟨rfl, rfl⟩ | ⟨k, rfl, hb0⟩
  · rw [if_pos rfl] at e
    obtain ⟨c, r, rfl⟩ : ∃ c r, left = c :: r := List.exists_cons_of_ne_nil hnil
    rfl'
    refine idx_list hA (j := 0) (v := .int c) (seq_nat (k := 0) (by rw [List.length_map]; exact Nat.succ_pos _)) rfl (by decide) ?_
    refine (wc_law_reckoned (n := n + 1) L (hc c (.head _)) fun E hE => ?_)
    refine op_list_add (uO hE hF) (uS _ _ _) hfl (Nat.le_of_ble_eq_true rfl) fun F' hF' => ?_
    have s8 := ((Sub.refl H7).new (o := .list ((recL c).map eV)) hE).new (o := .list (found.map eV ++ (recL c).map eV)) hF'
    have hF8 : upd (upd H7 E (.list ((recL c).map eV))) F' (.list (found.map eV ++ (recL c).map eV)) F' = some (.list ((found ++ recL c).map eV)) := by rw [uS, List.map_append]
    have hFn' := (s2.trans s27).none (upd_new hF').1
    generalize upd (upd H7 E (.list ((recL c).map eV))) F' (.list (found.map eV ++ (recL c).map eV)) = H8 at s8 hF8
    rfl'
    refine sl_list_from (k := 1) (s8 _ _ hA) hm1 fun A' hA' => ?_
    rfl'
    refine hK.next m (Nat.lt_succ_self m) (.mk r (found ++ recL c) A' F' _ _ _ _ _ _ _ _ (s27.trans (s8.new hA')) (uS _ _ _) (uO hA' hF8) hFn' (Nat.le_of_succ_le_succ hl) (fun y hy => hc y (.tail _ hy)) (by rw [List.length_append]; exact ar9 hb (Nat.le_refl 2)) ?_)
    rw [List.append_assoc]
    exact e
  · rw [if_neg hb0] at e
    have hke : (k ++ [V.int (b : Nat)]).isEmpty = false := by cases k <;> rfl
    rw [hke]
    have hkl : (k ++ [V.int (b : Nat)]).length = k.length + 1 := by rw [List.length_append]; rfl
    have i1 : seqIndex? (-1) (k ++ [V.int (b : Nat)]).length = some k.length := by rw [hkl]; exact seq_last _
    have i2 : (k ++ [V.int (b : Nat)])[k.length]? = some (.int (b : Nat)) := by rw [List.getElem?_append_right (Nat.le_refl _), Nat.sub_self]; rfl
    rfl'
    refine idx_list hD6 i1 i2 (by decide) ?_
    rfl'
    refine sl_list_to (k := b) hA hm1 fun P hP => ?_
    rfl'
    refine idx_list (uO hP hD6) i1 i2 (by decide) ?_
    rfl'
    refine sl_list_from (k := b) (uO hP hA) hm1 fun Rs hRs => ?_
    rfl'
    intro S hS
    have s9 := ((Sub.refl H7).new (o := .list ((left.map V.int).take b)) hP).new (o := .list ((left.map V.int).drop b)) hRs
    have hP9 : upd (upd H7 P (.list ((left.map V.int).take b))) Rs (.list ((left.map V.int).drop b)) P = some (.list ((left.take b).map V.int)) := by rw [uO hRs (uS _ _ _), List.map_take]
    have hR9 : upd (upd H7 P (.list ((left.map V.int).take b))) Rs (.list ((left.map V.int).drop b)) Rs = some (.list ((left.drop b).map V.int)) := by rw [uS, List.map_drop]
    generalize upd (upd H7 P (.list ((left.map V.int).take b))) Rs (.list ((left.map V.int).drop b)) = H9 at s9 hP9 hR9 hS
    have hPS : P ≠ S := by rintro rfl; rw [hP9] at hS; cases hS
    have hdl : (left.drop b).length + (left.take b).length ≤ 100 := by rw [Nat.add_comm, ← List.length_append, List.take_append_drop]; exact Nat.le_trans hlen (by decide)
    clear hP hRs i1 i2 hkl hke hD6
    rfl'
    refine WS.mono (le_scan (P0 := P) L (uS _ _ _) (uO hS hP9) hPS hdl ((Sub.refl H9).new hS) hS (x7.sub s9) hR9) ?_
    rintro a' ρ' H8 ⟨k', row, st, P', μ', _, s8, hk', hP', hS', hl', hst', es⟩
    have hrow := scan_has (r := left.drop b) (st := []) (hbh hb0)
    have hcs : ∀ c ∈ st ++ (left.drop b).drop k', c ∈ cdL := fun c hc' => hc c (by
      have := scan_mem (has := hasK T) (r := left.drop b) (row := left.take b) (st := []) (y := c) (by rw [es]; exact hc')
      exact List.mem_of_mem_drop (this.resolve_right nofun))
    have hln : (st ++ (left.drop b).drop k').length ≤ m := by
      have := scan_len (has := hasK T) (r := left.drop b) (row := left.take b) (st := [])
      rw [es] at this
      rw [List.length_drop, List.length_nil] at this
      exact Nat.le_trans this (Nat.le_trans (Nat.sub_le_sub_left (Nat.pos_of_ne_zero hb0) left.length) (Nat.pred_le_pred hl))
    rw [es] at e hrow
    have s98 := s9.trans s8
    have x8 := x7.sub s98
    replace hR9 := s8 _ _ hR9
    clear es hS hP9 hPS hbg
    rcases x8.rows.look row with ⟨_, e2⟩ | ⟨E, es, e1, e2, e3⟩
    · have hrow' : (alook T row).isSome = true := hrow
      rw [e2] at hrow'; cases hrow'
    have hes := hT _ _ e2
    dsimp only at e
    rw [e2, Option.getD_some] at e
    obtain ⟨ep, ht⟩ := x8.tab
    rfl'
    refine wv_tuple_list hP' (lmap (Nat.le_trans hl' (Nat.le_trans (Nat.add_le_add (ltake hlen) (Nat.le_trans hk' (ldrop hlen))) (by decide)))) ?_
    refine idx_tdict ht e1 ?_
    refine op_list_add (s98 _ _ hF) e3 hfl (lmap (Nat.le_trans hes (by decide))) fun F' hF' => ?_
    have s10 := s98.new (o := .list (found.map eV ++ es.map eV)) hF'
    have hF10 : upd H8 F' (.list (found.map eV ++ es.map eV)) F' = some (.list ((found ++ es).map eV)) := by rw [uS, List.map_append]
    have hFn' := ((s2.trans s27).trans s98).none hF'
    replace hS' := uO (o' := .list (found.map eV ++ es.map eV)) hF' hS'
    replace hR9 := uO (o' := .list (found.map eV ++ es.map eV)) hF' hR9
    generalize upd H8 F' (.list (found.map eV ++ es.map eV)) = H10 at s10 hF10 hS' hR9
    clear hP' hF'
    rfl'
    refine sl_list_from (k := k') hR9 (lmap (ldrop (Nat.le_trans hlen (by decide)))) fun D1 hD1 => ?_
    refine op_list_add (uO hD1 hS') (uS _ _ _) (lmap (Nat.le_trans hst' (Nat.le_trans hk' (ldrop (Nat.le_trans hlen (by decide)))))) (ldrop (lmap (ldrop (Nat.le_trans hlen (by decide))))) fun A' hA' => ?_
    rfl'
    refine hK.next m (Nat.lt_succ_self m) (.mk (st ++ (left.drop b).drop k') (found ++ es) A' F' _ _ _ _ _ _ _ _ (s27.trans ((s10.new hD1).new hA')) (by rw [uS, List.map_append, List.map_drop (l := left.drop b)]) (uO hA' (uO hD1 hF10)) hFn' hln hcs (by rw [List.length_append]; exact ar9 hb hes) ?_)
    rw [List.append_assoc]
    exact e
end
section
variable {W : Wd} {n : Nat} {cx : Cx} {ρ : Loc} {H : AH} {Q : V → AH → Prop}
noncomputable def rowsL : List (List Int) := [[97], [98], [768], [803], [769], [99], [97, 98], [97, 768], [97, 803], [97, 769], [97, 803, 768], [98, 768], [97, 98, 99], [97, 98, 769], [803, 768], [97, 807, 769], [807], [98, 807], [97, 768, 769]]
theorem wc_law_rows (L : IsL W) (h : ∀ H' R, Sub H H' → H R = none → H' R = some (.list (rowsL.map tupI)) → Q (.ref R) H') : WC W (n + 1) 523 [] H Q := by
  refine fc_law_rows L ?_
  unfold ss_law_rows
  rfl'
  intro A hA
  rfl'
  intro B hB
  refine op_list_add (l := (rowsL.take 11).map tupI) (k := (rowsL.drop 11).map tupI) (uO hB (uS _ _ _)) (uS _ _ _) (Nat.le_of_ble_eq_true rfl) (Nat.le_of_ble_eq_true rfl) fun R hR => ?_
  rfl'
  exact h _ R ((((Sub.refl H).new hA).new hB).new hR) (upd_new (upd_new hR).1).1 (uS _ _ _)
noncomputable def elesK (k : Nat) : List Ele := [(1000 + 10 * (k : Int), 32, 2, false), (0, 40 + (k : Int), 2 + (k : Int).fmod 4, false)]
noncomputable def inTab (m : Int) (k : Nat) : Bool := ((m.fdiv (2 ^ k)).fmod 2 == 1) || (decide ((k : Int) < 6) && decide (0 < m.fmod 5))
noncomputable def szT (m : Int) (k : Nat) : Nat := ((m.fdiv ((k : Int) + 1) + (k : Int)).fmod 3).toNat
noncomputable def tabF (m : Int) : Nat → List (List Int × List Ele)
  | 0 => []
  | k + 1 => if inTab m k then astore (tabF m k) (rowsL.getD k []) ((elesK k).take (szT m k)) else tabF m k
theorem tab_len (m : Int) : ∀ k, (tabF m k).length ≤ k
  | 0 => Nat.le_refl _
  | k + 1 => by
    unfold tabF
    split
    · exact Nat.le_trans (astore_len _ _ _) (Nat.succ_le_succ (tab_len m k))
    · exact Nat.le_succ_of_le (tab_len m k)
theorem enum_at {l : List V} {i : Nat} {v : V} (h : (enumV l)[i]? = some v) : ∃ u, l[i]? = some u ∧ v = .tup [.int (i : Int), u] := by
  unfold enumV at h
  rw [List.getElem?_mapIdx] at h
  obtain ⟨u, hu, rfl⟩ := Option.map_eq_some_iff.mp h
  exact ⟨u, hu, rfl⟩
inductive TbI (t R : Addr) (m : Int) (H : AH) : Nat → Loc → AH → Prop
  | mk (k : Nat) (y2 y3 y4 : Option V) (H' : AH) (T' : List (List Int × V)) (ep : Option Nat) (s : Sub H H') (hR : H' R = some (.list (rowsL.map tupI))) (ht : H' t = some (.tdict T' ep)) (hb : TabR H' T' (tabF m k)) : TbI t R m H k [some (.int m), some (.ref t), y2, y3, y4] H'
noncomputable def tbThen : Ss := (.cons (.asg (.slot 4) (.lst (.cons (.tup (.cons (.bin .Add (.cst (.int 1000)) (.bin .Mult (.cst (.int 10)) (.loc 2))) (.cons (.cst (.int 32)) (.cons (.cst (.int 2)) (.cons (.cst (.bool false)) .nil))))) (.cons (.tup (.cons (.cst (.int 0)) (.cons (.bin .Add (.cst (.int 40)) (.loc 2)) (.cons (.bin .Add (.cst (.int 2)) (.bin .Mod (.loc 2) (.cst (.int 4)))) (.cons (.cst (.bool false)) .nil))))) .nil)))) (.cons (.asg (.idx (.loc 1) (.loc 3)) (.slTo (.loc 4) (.bin .Mod (.bin .Add (.bin .FloorDiv (.loc 0) (.bin .Add (.loc 2) (.cst (.int 1)))) (.loc 2)) (.cst (.int 3))))) .nil))
theorem wc_law_table (L : IsL W) {m : Int} (h : ∀ H' t T' ep, Sub H H' → H t = none → H' t = some (.tdict T' ep) → TabR H' T' (tabF m 19) → Q (.ref t) H') : WC W (n + 2) 530 [.int m] H Q := by
  refine fc_law_table (n := n + 1) L ?_
  unfold ss_law_table
  rfl'
  intro t ht
  have s1 := (Sub.refl H).new (o := emptyOf .t) ht
  have ht1 : upd H t (emptyOf .t) t = some (.tdict [] none) := uS _ _ _
  generalize upd H t (emptyOf .t) = H1 at s1 ht1
  rfl'
  refine vs_for (by rfl) ?_
  refine vi_enum ?_
  rfl'
  refine wc_law_rows (n := n) L fun H2 R s2 hR0 hR => ?_
  refine ⟨R, _, rfl, hR, TbI t R m H, .mk 0 none none none H2 [] none (s1.trans s2) hR (s2 _ _ ht1) .nil, fun k ρ H' q => ?_, fun k v ρ H' K hv q hK => ?_, fun ρ H' q => ?_⟩
  · obtain ⟨_, _, _, _, _, _, _, e⟩ := q
    exact e
  · obtain ⟨y2, y3, y4, _, T', ep, s, hR, ht', hb⟩ := q
    obtain ⟨u, hu, rfl⟩ := enum_at hv
    rw [List.getElem?_map] at hu
    obtain ⟨row, hrow, rfl⟩ := Option.map_eq_some_iff.mp hu
    have hk : k < 19 := (List.getElem?_eq_some_iff.mp hrow).1
    have hTl : T'.length ≤ 1000 := by have := tab_len m k; rw [hb.len]; lia
    have hp0 : (2 : Int) ^ k ≠ 0 := Int.pow_ne_zero (by decide)
    have hp1 : ((2 : Int) ^ k).natAbs < 1073741824 := by
      rw [Int.natAbs_pow]
      exact Nat.lt_of_lt_of_le (Nat.pow_lt_pow_right (by decide) hk) (by decide)
    have hrd : rowsL.getD k [] = row := by rw [List.getD_eq_getElem?_getD, hrow]; rfl
    clear hv hu
    have go : inTab m k = true → ∀ y4 : Option V, vSs W (n + 1) cx_law_table tbThen [some (.int m), some (.ref t), some (.int (k : Int)), some (tupI row), y4] H' (seqK (fun ρ1 H1 => vSs W (n + 1) cx_law_table .nil ρ1 H1 K) K) := fun hin y4 => by
      have ht0 := ht
      unfold tbThen
      rfl'
      intro A hA
      rfl'
      refine op_div ?_ (by lia) (by lia)
      rfl'
      have s3 := (Sub.refl H').new (o := .list ((elesK k).map eV)) hA
      have hA3 : upd H' A (.list ((elesK k).map eV)) A = some (.list ((elesK k).map eV)) := uS _ _ _
      change SlOk _ _ _ _ _ _ (upd H' A (.list ((elesK k).map eV))) _
      generalize upd H' A (.list ((elesK k).map eV)) = H3 at s3 hA3
      have hz : (m.fdiv ((k : Int) + 1) + (k : Int)).fmod 3 = (szT m k : Nat) := (Int.toNat_of_nonneg (Int.fmod_nonneg_of_pos _ (by decide))).symm
      rw [hz]
      refine sl_list_to hA3 (Nat.le_of_ble_eq_true rfl) fun B hB => ?_
      rw [← List.map_take]
      have s4 := s3.new (o := .list (((elesK k).take (szT m k)).map eV)) hB
      have hB4 : upd H3 B (.list (((elesK k).take (szT m k)).map eV)) B = some (.list (((elesK k).take (szT m k)).map eV)) := uS _ _ _
      generalize upd H3 B (.list (((elesK k).take (szT m k)).map eV)) = H4 at s4 hB4
      rfl'
      refine ⟨_, set_t (s4 _ _ ht') hTl, ?_⟩
      rfl'
      have ne : ∀ {b : Addr} {l : List V}, H4 b = some (.list l) → upd H4 t (.tdict (astore T' row (.ref B)) none) b = some (.list l) := fun e => upd_keep e (ne_of e (s4 _ _ ht') (by simp))
      have hb4 : TabR (upd H4 t (.tdict (astore T' row (.ref B)) none)) (astore T' row (.ref B)) (tabF m (k + 1)) := by
        unfold tabF
        rw [if_pos hin, hrd]
        exact (hb.imp fun _ _ e => ne (s4 _ _ e)).store row (ne hB4)
      exact hK.next (.mk (k + 1) _ _ _ _ _ _ ((s.trans s4).put ht0) (ne (s4 _ _ hR)) (uS _ _ _) hb4)
    have no : inTab m k = false → tabF m (k + 1) = tabF m k := fun e => by
      conv => lhs; unfold tabF
      rw [if_neg (by rw [e]; exact nofun)]
    rfl'
    refine op_pow ?_ (Int.natCast_nonneg _) (by lia) (by decide)
    rw [Int.toNat_natCast]
    refine op_div ?_ hp0 hp1
    rfl'
    refine ⟨fun e => ?_, fun e => ?_⟩
    · exact pr_t (go (by unfold inTab; rw [e]; rfl) y4)
    have e1 := e
    rfl'
    refine ⟨fun e => ?_, fun e => ?_⟩
    · have e2 := e
      rfl'
      refine ⟨fun e => ?_, fun e => ?_⟩
      · have e3 := e
        refine pr_t (pr_t ?_)
        exact go (by unfold inTab; rw [e1, e2, e3]; rfl) y4
      · rfl'
        exact hK.next (.mk (k + 1) _ _ _ H' T' ep s hR ht' (no (by unfold inTab; rw [e1, e2, e]; rfl) ▸ hb))
    · rfl'
      exact hK.next (.mk (k + 1) _ _ _ H' T' ep s hR ht' (no (by unfold inTab; rw [e1, e]; rfl) ▸ hb))
  · obtain ⟨y2, y3, y4, _, T', ep, s, hR, ht', hb⟩ := q
    generalize hj : (enumV (rowsL.map tupI)).length = j at hb
    have : (enumV (rowsL.map tupI)).length = 19 := rfl
    rw [this] at hj
    subst hj
    rfl'
    exact h H' t T' ep s ht ht' hb
end
section
variable {W : Wd} {n : Nat} {cx : Cx} {ρ : Loc} {H : AH} {Q : V → AH → Prop}
structure Same (T U : List (List Int × List Ele)) : Prop where
  keys : (T.map (·.1)).Perm (U.map (·.1))
  look : ∀ k, alook T k = alook U k
  nd : (T.map (·.1)).Nodup
  ok : ∀ p ∈ U, p.1 ∈ rowsL ∧ p.2.length ≤ 2
  len : U.length ≤ 20
theorem Same.rows {T U : List (List Int × List Ele)} (x : Same T U) : srows T = srows U := by
  have e : isort (T.map (·.1)) = isort (U.map (·.1)) := srt_isort ((isort_perm _).trans x.keys) (isort_srt x.nd)
  unfold srows
  refine Eq.symm e ▸ ?_
  exact List.map_congr_left fun k _ => by rw [x.look]
theorem Same.lenT {T U : List (List Int × List Ele)} (x : Same T U) : T.length ≤ 20 := by
  have := x.keys.length_eq
  rw [List.length_map, List.length_map] at this
  exact this ▸ x.len
theorem rows_ok : ∀ k ∈ rowsL, k ≠ [] ∧ k.length ≤ 3 ∧ ∀ c ∈ k, c ∈ cdL := by decide +kernel
theorem Same.okT {T U : List (List Int × List Ele)} (x : Same T U) : ∀ p ∈ T, p.1 ∈ rowsL ∧ p.2.length ≤ 2 := fun p hp => by
  have h := look_mem x.nd hp
  rw [x.look] at h
  exact x.ok _ (alook_mem h)
inductive IkI (o tb R : Addr) (H : AH) : Nat → Loc → AH → Prop
  | mk (k : Nat) (y : Option V) (H' : AH) (s : Sub H H') : IkI o tb R H k [some (.ref o), some (.ref tb), y, none] H'
theorem wc_law_is_kept (L : IsL W) {o t lg tb : Addr} {T U : List (List Int × List Ele)} {U' : List (List Int × V)} {N : Nat} {ep : Option Nat} (x : El H o t lg T N) (ht : H tb = some (.tdict U' ep)) (hb : TabR H U' U) (sm : Same T U)
    (h : ∀ H', Sub H H' → Q (.bool true) H') : WC W (n + 2) 535 [.ref o, .ref tb] H Q := by
  have hlen := hb.len
  have hUl := sm.len
  refine fc_law_is_kept (n := n + 1) L ?_
  unfold ss_law_is_kept
  rfl'
  refine x.me L (by rfl) ?_
  rfl'
  refine (wc_rows (n := n) L x (Nat.lt_of_le_of_lt sm.lenT (by decide)) (fun p hp => (rows_ok _ (sm.okT p hp).1).1) fun H1 F s1 hF d1 => ?_).wv
  refine we_comp (by rfl) (own1 rfl) (sub1 rfl) ?_
  refine vi_list ?_
  rfl'
  refine wv_sorted_t (s1 _ _ ht) (by lia) (fun p hp => ?_) fun c hc => ?_
  · have : p.1 ∈ U'.map (·.1) := List.mem_map_of_mem hp
    rw [hb.keys] at this
    obtain ⟨q, hq, e⟩ := List.mem_map.mp this
    rw [← e]; exact (rows_ok _ (sm.ok q hq).1).1
  refine ⟨c, _, rfl, uS _ _ _, ?_⟩
  have s2 := s1.new (o := .list ((isort (U'.map (·.1))).map tupI)) hc
  have d2 := d1.sub ((Sub.refl H1).new (o := .list ((isort (U'.map (·.1))).map tupI)) hc)
  have hlen2 : (isort (U'.map (·.1))).length = U.length := by rw [(isort_perm _).length_eq, List.length_map, hlen]
  refine cb_map (f := rowF U') (by rw [List.length_map]; lia) (uS _ _ _) (fun v hv => ?_) (fun D hD => ?_)
  · obtain ⟨k, hk, rfl⟩ := List.mem_map.mp hv
    obtain ⟨u, hu⟩ := key_look (isort_mem.mp hk)
    rfl'
    refine idx_tdict (s2 _ _ ht) hu ?_
    rfl'
    exact ⟨by simp only [rowF, keyOf_tupI, hu]; rfl, rfl⟩
  have s3 := s2.new (o := .list (((isort (U'.map (·.1))).map tupI).map (rowF U'))) hD
  have d3 := d2.sub ((Sub.refl _).new (o := .list (((isort (U'.map (·.1))).map tupI).map (rowF U'))) hD)
  have d4 := rows_den hb s3 (F := D) (uS _ _ _)
  generalize upd (upd H1 c (.list ((isort (U'.map (·.1))).map tupI))) D (.list (((isort (U'.map (·.1))).map tupI).map (rowF U'))) = H3 at s3 d3 d4
  rw [← sm.rows] at d4
  refine ⟨_, cmp_ne_same d3 d4 (lay_rows _) (Nat.le_trans (depth_rows _) (by decide)), ?_⟩
  clear d1 d2 d3 d4 hc hD hF hlen2 s1 s2
  rfl'
  refine vs_for (by rfl) ?_
  refine vi_list ?_
  rfl'
  refine wc_law_rows (n := n) L fun H4 R s4 _ hR => ?_
  replace x := x.sub (s3.trans s4)
  replace ht := (s3.trans s4) _ _ ht
  replace hb := hb.imp fun _ _ e => (s3.trans s4) _ _ e
  refine ⟨R, _, rfl, hR, IkI o tb R H4, .mk 0 none H4 (Sub.refl _), fun k ρ H' q => ?_, fun k v ρ H' K hv q hK => ?_, fun ρ H' q => ?_⟩
  · obtain ⟨_, _, s⟩ := q
    exact s _ _ hR
  · obtain ⟨y, _, s⟩ := q
    rw [List.getElem?_map] at hv
    obtain ⟨row, hrow, rfl⟩ := Option.map_eq_some_iff.mp hv
    have xs := x.sub s
    have fin : ∀ {n : Nat} {v u : V} {d : PyData}, Den H' v d → Den H' u d → d.canLay0 = true → d.depth ≤ 2 → CmpOk W n .NotEq v u H' false := fun a b c e => cmp_ne_same a b c (Nat.le_trans e (by decide))
    clear hv hrow
    rfl'
    refine xs.me L (by rfl) ?_
    rfl'
    refine (wc_Elements_get (n := n) L xs fun v hv => ?_).wv
    refine ⟨_, cmp_in_t (s _ _ ht), ?_⟩
    rcases hb.look row with ⟨e1, e2⟩ | ⟨a, es, e1, e2, e3⟩
    · (refine Eq.symm e1 ▸ ?_)
      rcases hv with ⟨_, rfl⟩ | ⟨a, es, f1, _⟩
      · rfl'
        refine ⟨_, fin .none .none rfl (by simp [PyData.depth]), ?_⟩
        rfl'
        exact hK.next (.mk (k + 1) _ H' s)
      · rw [sm.look, e2] at f1; cases f1
    · (refine Eq.symm e1 ▸ ?_)
      rcases hv with ⟨f1, _⟩ | ⟨a', es', f1, rfl, f3⟩
      · rw [sm.look, e2] at f1; cases f1
      · rw [sm.look, e2] at f1; cases f1
        rfl'
        refine idx_tdict (s _ _ ht) e1 ?_
        refine ⟨_, fin (den_es f3) (den_es (s _ _ e3)) (lay_es _) (depth_es _), ?_⟩
        rfl'
        exact hK.next (.mk (k + 1) _ H' s)
  · obtain ⟨y, _, s⟩ := q
    rfl'
    exact h H' ((s3.trans s4).trans s)
end
section
theorem rk_nonneg (c : Int) : 0 ≤ rk c := by
  unfold rk
  split
  · decide
  · split
    · decide
    · split <;> decide
theorem free_snoc (st : List Int) (c d : Int) : free (st ++ [c]) d = (free st d && decide (rk c < rk d)) := by
  unfold free
  rw [List.all_append, List.all_cons, List.all_nil, Bool.and_true]
noncomputable def Bar (b : Int) (st : List Int) : Prop := ∀ d, rk d ≠ 0 → free st d = decide (b < rk d)
theorem Bar.zero : Bar 0 [] := fun d h => by
  have := rk_nonneg d
  rw [decide_eq_true (by lia)]; rfl
theorem Bar.up {b c : Int} {st : List Int} (x : Bar b st) (h : b < rk c) : Bar (rk c) (st ++ [c]) := fun d hd => by
  rw [free_snoc, x d hd]
  by_cases q : rk c < rk d
  · rw [decide_eq_true q, decide_eq_true (by lia)]; rfl
  · rw [decide_eq_false q, Bool.and_false]
theorem Bar.stay {b c : Int} {st : List Int} (x : Bar b st) (h : ¬ b < rk c) : Bar b (st ++ [c]) := fun d hd => by
  rw [free_snoc, x d hd]
  by_cases q : b < rk d
  · rw [decide_eq_true q, decide_eq_true (by lia)]; rfl
  · rw [decide_eq_false q, Bool.false_and]
theorem live_set {gone : List Bool} {i : Nat} {b : Bool} : liveAll (gone.set i b) (i + 1) = liveAll gone (i + 1) := by
  unfold liveAll
  rw [List.length_set]
  refine List.filter_congr fun j hj => ?_
  rw [List.mem_range'_1] at hj
  rw [List.getElem?_set_ne (by lia)]
noncomputable def GoneOk (cs : List Int) (gone : List Bool) : Prop := gone.length = cs.length ∧ ∀ (j : Nat) (c : Int), gone[j]? = some true → cs[j]? = some c → rk c ≠ 0
noncomputable abbrev LC (cs : List Int) (gone : List Bool) (i : Nat) : List Int := codesAt cs (liveAll gone i)
theorem lc_none {cs : List Int} {gone : List Bool} {i : Nat} (g : GoneOk cs gone) (h : cs.length ≤ i) : LC cs gone i = [] := by
  unfold LC
  rw [liveAll_end (g.1 ▸ h)]; rfl
theorem lc_true {cs : List Int} {gone : List Bool} {i : Nat} (h : gone[i]? = some true) : LC cs gone i = LC cs gone (i + 1) := by
  unfold LC
  rw [liveAll_step h, if_pos rfl]
theorem lc_false {cs : List Int} {gone : List Bool} {i : Nat} {c : Int} (h : gone[i]? = some false) (hc : cs[i]? = some c) : LC cs gone i = c :: LC cs gone (i + 1) := by
  unfold LC
  rw [liveAll_step h, if_neg nofun]
  unfold codesAt
  rw [List.map_cons, hc]; rfl
structure WmQ (cs : List Int) (gone : List Bool) (i : Nat) (st : List Int) (r : List Int × List Bool × List Nat) (q : List Int × List Int × List Int) : Prop where
  key : r.1 = q.1
  left : st ++ LC cs r.2.1 i = q.2.1 ++ q.2.2
  ok : GoneOk cs r.2.1
  old : ∀ j, j < i → r.2.1[j]? = gone[j]?
theorem wm_scan {has : List Int → Bool} {cs : List Int} {f : Nat} : ∀ {i : Nat} {key : List Int} {gone : List Bool} {ps : List Nat} {b : Int} {st : List Int}, GoneOk cs gone → cs.length - i ≤ f → Bar b st → WmQ cs gone i st (wm has cs f i key gone ps b) (scan has (LC cs gone i) key st) := by
  induction f with
  | zero =>
    intro i key gone ps b st g h _
    have e := lc_none g (show cs.length ≤ i from Nat.le_of_sub_eq_zero (Nat.le_zero.mp h))
    rw [e]
    exact ⟨rfl, congrArg (st ++ ·) e, g, fun _ _ => rfl⟩
  | succ f ih =>
    intro i key gone ps b st g h hb
    unfold wm
    cases hc : cs[i]? with
    | none =>
      have e := lc_none g (List.getElem?_eq_none_iff.mp hc)
      rw [e]
      exact ⟨rfl, congrArg (st ++ ·) e, g, fun _ _ => rfl⟩
    | some c =>
      dsimp only
      have hi := (List.getElem?_eq_some_iff.mp hc).1
      obtain ⟨l, hl⟩ : ∃ l, gone[i]? = some l := ⟨_, List.getElem?_eq_getElem (g.1 ▸ hi)⟩
      have hf : cs.length - (i + 1) ≤ f := sb_le h
      by_cases h0 : rk c = 0
      · rw [if_pos h0]
        have : l = false := by
          cases l with
          | false => rfl
          | true => exact absurd h0 (g.2 i c hl hc)
        subst this
        have e := lc_false hl hc
        rw [e, scan_cons, if_pos h0]
        exact ⟨rfl, congrArg (st ++ ·) e, g, fun _ _ => rfl⟩
      rw [if_neg h0]
      cases l with
      | true =>
        rw [if_neg (by rw [hl]; exact fun z => nomatch z.1), lc_true hl]
        have x := ih (key := key) (ps := ps) (i := i + 1) g hf hb
        exact ⟨x.key, by rw [lc_true ((x.old i (Nat.lt_succ_self i)).trans hl)]; exact x.left, x.ok, fun j hj => x.old j (Nat.lt_succ_of_lt hj)⟩
      | false =>
        rw [lc_false hl hc, scan_cons, if_neg h0, hb c h0]
        by_cases hbc : b < rk c
        · rw [if_pos ⟨hl, hbc⟩, decide_eq_true hbc, Bool.true_and]
          by_cases hh : has (key ++ [c]) = true
          · rw [if_pos hh, if_pos hh]
            have g' : GoneOk cs (gone.set i true) := ⟨by rw [List.length_set]; exact g.1, fun j d h1 h2 => by
              by_cases e : i = j
              · subst e
                rw [hc] at h2; cases h2; exact h0
              · rw [List.getElem?_set_ne e] at h1; exact g.2 j d h1 h2⟩
            have x := ih (key := key ++ [c]) (ps := ps ++ [i]) (i := i + 1) g' hf hb
            unfold LC at x
            rw [live_set] at x
            have e : (gone.set i true)[i]? = some true := by rw [List.getElem?_set_self (g.1 ▸ hi)]
            exact ⟨x.key, by rw [lc_true ((x.old i (Nat.lt_succ_self i)).trans e)]; exact x.left, x.ok, fun j hj => (x.old j (Nat.lt_succ_of_lt hj)).trans (List.getElem?_set_ne (Nat.ne_of_gt hj))⟩
          · rw [if_neg hh, if_neg hh]
            have x := ih (key := key) (ps := ps) (i := i + 1) g hf (hb.up hbc)
            exact ⟨x.key, by rw [lc_false ((x.old i (Nat.lt_succ_self i)).trans hl) hc, ← x.left, List.append_assoc]; rfl, x.ok, fun j hj => x.old j (Nat.lt_succ_of_lt hj)⟩
        · rw [if_neg (fun z => hbc z.2), decide_eq_false hbc, Bool.false_and, if_neg nofun]
          have x := ih (key := key) (ps := ps) (i := i + 1) g hf (hb.stay hbc)
          exact ⟨x.key, by rw [lc_false ((x.old i (Nat.lt_succ_self i)).trans hl) hc, ← x.left, List.append_assoc]; rfl, x.ok, fun j hj => x.old j (Nat.lt_succ_of_lt hj)⟩
theorem live_drop {gone : List Bool} (m : Nat) : ∀ {i k p : Nat}, gone.length - i ≤ m → (liveAll gone i)[k]? = some p → liveAll gone (p + 1) = (liveAll gone i).drop (k + 1) ∧ i ≤ p := by
  induction m with
  | zero =>
    intro i k p hm h
    rw [liveAll_end (Nat.le_of_sub_eq_zero (Nat.le_zero.mp hm))] at h
    cases h
  | succ m ih =>
    intro i k p hm h
    cases hg : gone[i]? with
    | none =>
      rw [liveAll_end (List.getElem?_eq_none_iff.mp hg)] at h
      cases h
    | some b =>
      have hm : gone.length - (i + 1) ≤ m := sb_le hm
      rw [liveAll_step hg] at h ⊢
      cases b with
      | true => exact (ih hm h).imp_right Nat.le_of_succ_le
      | false =>
        rw [if_neg nofun] at h ⊢
        cases k with
        | zero => cases h; exact ⟨rfl, Nat.le_refl _⟩
        | succ k => exact (ih hm (show (liveAll gone (i + 1))[k]? = some p from h)).imp_right Nat.le_of_succ_le
theorem codes_take {cs : List Int} {lv : List Nat} {s : Nat} : codesAt cs (lv.take s) = (codesAt cs lv).take s := by unfold codesAt; rw [List.map_take]
theorem codes_drop {cs : List Int} {lv : List Nat} {s : Nat} : codesAt cs (lv.drop s) = (codesAt cs lv).drop s := by unfold codesAt; rw [List.map_drop]
theorem codes_len {cs : List Int} {lv : List Nat} : (codesAt cs lv).length = lv.length := by unfold codesAt; rw [List.length_map]
theorem big_bigL {has : List Int → Bool} {cs : List Int} {lv : List Nat} : ∀ s, big has cs lv s = bigL has (codesAt cs lv) s
  | 0 => rfl
  | s + 1 => by
    unfold big bigL
    rw [codes_take, big_bigL s]
theorem locF_leF {T : List (List Int × List Ele)} {cs : List Int} {f : Nat} : ∀ {i F : Nat} {gone : List Bool}, GoneOk cs gone → cs.length - i ≤ f → (LC cs gone i).length ≤ F → (locF T cs f gone i).flatten = leF T F (LC cs gone i) := by
  induction f with
  | zero =>
    intro i F gone g h _
    rw [lc_none g (show cs.length ≤ i from Nat.le_of_sub_eq_zero (Nat.le_zero.mp h))]
    cases F <;> rfl
  | succ f ih =>
    intro i F gone g h hF
    unfold locF
    cases hg : gone[i]? with
    | none =>
      rw [lc_none g (g.1 ▸ List.getElem?_eq_none_iff.mp hg)]
      cases F <;> rfl
    | some b =>
      have hi : i < cs.length := g.1 ▸ (List.getElem?_eq_some_iff.mp hg).1
      cases b with
      | true =>
        rw [lc_true hg] at hF ⊢
        exact ih g (sb_le h) hF
      | false =>
        obtain ⟨c, hc⟩ : ∃ c, cs[i]? = some c := ⟨_, List.getElem?_eq_getElem hi⟩
        have e := lc_false hg hc
        have hne : LC cs gone i ≠ [] := by rw [e]; exact nofun
        obtain ⟨F, rfl⟩ : ∃ F', F = F' + 1 := ⟨F - 1, pr_eq (Nat.ne_of_gt (Nat.lt_of_lt_of_le (List.length_pos_iff.mpr hne) hF))⟩
        dsimp only
        rw [List.flatten_cons, leF_cons hne]
        have hb : big (hasK T) cs (liveAll gone i) (liveAll gone i).length = bigL (hasK T) (LC cs gone i) (LC cs gone i).length := by rw [big_bigL, codes_len]
        by_cases h0 : bigL (hasK T) (LC cs gone i) (LC cs gone i).length = 0
        · rw [if_pos h0, mt_zero (hb.trans h0) hc]
          rw [e] at hF ⊢
          exact congrArg (_ ++ ·) (ih (i := i + 1) g (sb_le h) (Nat.le_of_succ_le_succ hF))
        · rw [if_neg h0]
          have hle := bigL_le (has := hasK T) (l := LC cs gone i) (LC cs gone i).length
          generalize bigL (hasK T) (LC cs gone i) (LC cs gone i).length = s at hb h0 hle ⊢
          obtain ⟨k, rfl⟩ : ∃ k, s = k + 1 := ⟨s - 1, pr_eq h0⟩
          have hk : k < (liveAll gone i).length := by rw [codes_len] at hle; exact hle
          obtain ⟨p, hp⟩ : ∃ p, (liveAll gone i)[k]? = some p := ⟨_, List.getElem?_eq_getElem hk⟩
          obtain ⟨d1, d2⟩ := live_drop _ (Nat.le_refl _) hp
          have x := wm_scan (has := hasK T) (f := cs.length - (p + 1)) (i := p + 1) (key := codesAt cs ((liveAll gone i).take (k + 1))) (ps := (liveAll gone i).take (k + 1)) g (Nat.le_refl _) Bar.zero
          rw [mt_succ hb hp rfl]
          dsimp only
          unfold LC at x hF ⊢
          rw [d1, codes_drop, codes_take] at x
          have hln := scan_len (has := hasK T) (r := (codesAt cs (liveAll gone i)).drop (k + 1)) (row := (codesAt cs (liveAll gone i)).take (k + 1)) (st := [])
          rw [← x.key, ← x.left, List.nil_append]
          rw [← x.left, List.nil_append, List.length_drop, List.length_nil] at hln
          rw [codes_take]
          exact congrArg (_ ++ ·) (ih (i := p + 1) x.ok (Nat.le_trans (Nat.sub_le_sub_left (Nat.succ_le_succ d2) _) (sb_le h)) (Nat.le_trans hln (Nat.le_trans (Nat.sub_le_sub_left (Nat.succ_le_succ (Nat.zero_le k)) _) (Nat.pred_le_pred hF))))
end
section
theorem insR_map (x : Int × Nat) : ∀ l : List (Int × Nat), (insR pr x l).map (·.1) = insR rk x.1 (l.map (·.1))
  | [] => rfl
  | y :: l => by
    rw [List.map_cons, insR, insR]
    by_cases h : 0 < rk x.1 ∧ rk x.1 < rk y.1
    · rw [if_pos (c := 0 < pr x ∧ pr x < pr y) h, if_pos h, List.map_cons, insR_map x l]
    · rw [if_neg (c := 0 < pr x ∧ pr x < pr y) h, if_neg h]; rfl
theorem fold_map : ∀ (l acc : List (Int × Nat)), (l.foldl (fun acc x => insR pr x acc) acc).map (·.1) = (l.map (·.1)).foldl (fun acc x => insR rk x acc) (acc.map (·.1))
  | [], _ => rfl
  | x :: l, acc => by rw [List.foldl_cons, fold_map l, insR_map]; rfl
theorem parts_map : ∀ (l : List Int) (k : Nat), (partsFrom k l).map (·.1) = l.flatMap expL
  | [], _ => rfl
  | c :: l, k => by
    rw [partsFrom, List.map_append, List.flatMap_cons, parts_map l, List.map_map]
    exact congrArg (· ++ _) (List.map_id _)
theorem dec_codes (text : List Int) : (decF text).map (·.1) = plF text := by
  unfold decF plF insAll
  rw [List.map_reverse, fold_map, parts_map]; rfl
theorem insR_mem {α : Type} {r : α → Int} {x y : α} : ∀ {l : List α}, y ∈ insR r x l → y = x ∨ y ∈ l
  | [], h => .inl (List.mem_singleton.mp h)
  | z :: l, h => by
    rw [insR] at h
    split at h
    · rcases List.mem_cons.mp h with h | h
      · exact .inr (h ▸ .head _)
      · exact (insR_mem h).imp_right fun q => .tail _ q
    · exact (List.mem_cons.mp h)
theorem fold_mem {α : Type} {r : α → Int} {y : α} : ∀ {l acc : List α}, y ∈ l.foldl (fun acc x => insR r x acc) acc → y ∈ l ∨ y ∈ acc
  | [], _, h => .inr h
  | x :: l, acc, h => by
    rcases fold_mem (l := l) h with h | h
    · exact .inl (.tail _ h)
    · rcases insR_mem h with rfl | h
      · exact .inl (.head _)
      · exact .inr h
theorem exp_cd : ∀ c ∈ txL, ∀ d ∈ expL c, d ∈ cdL := by decide +kernel
theorem pl_cd {text : List Int} (h : ∀ c ∈ text, c ∈ txL) : ∀ c ∈ plF text, c ∈ cdL := fun d hd => by
  unfold plF insAll at hd
  rcases fold_mem (List.mem_reverse.mp hd) with hd | hd
  · obtain ⟨c, hc, hd⟩ := List.mem_flatMap.mp hd
    exact exp_cd c (h c hc) d hd
  · cases hd
theorem pl_len (text : List Int) : (plF text).length ≤ 2 * text.length := by
  unfold plF
  rw [insAll_len]
  exact flat_len text
theorem dec_cd {text : List Int} (h : ∀ c ∈ text, c ∈ txL) : ∀ r ∈ decF text, r.1 ∈ cdL := fun r hr => by
  have : r.1 ∈ (decF text).map (·.1) := List.mem_map_of_mem hr
  rw [dec_codes] at this
  exact pl_cd h _ this
theorem dec_len (text : List Int) : (decF text).length ≤ 2 * text.length := by
  have := congrArg List.length (dec_codes text)
  rw [List.length_map] at this
  rw [this]
  exact pl_len text
theorem mt_two {T : List (List Int × List Ele)} {cs : List Int} {gone : List Bool} {i : Nat} (hT : ∀ k es, alook T k = some es → es.length ≤ 2) : (mt T cs gone i).1.length ≤ 2 := by
  unfold mt
  dsimp only
  split
  · exact Nat.le_refl _
  · cases h : alook T (wm (hasK T) cs (cs.length - ((liveAll gone i)[big (hasK T) cs (liveAll gone i) (liveAll gone i).length - 1]?.getD 0 + 1)) ((liveAll gone i)[big (hasK T) cs (liveAll gone i) (liveAll gone i).length - 1]?.getD 0 + 1) (codesAt cs ((liveAll gone i).take (big (hasK T) cs (liveAll gone i) (liveAll gone i).length))) gone ((liveAll gone i).take (big (hasK T) cs (liveAll gone i) (liveAll gone i).length)) 0).1 with
    | none => exact Nat.zero_le _
    | some es => exact hT _ _ h
theorem loc_two {T : List (List Int × List Ele)} {cs : List Int} (hT : ∀ k es, alook T k = some es → es.length ≤ 2) : ∀ {f i : Nat} {gone : List Bool}, (locF T cs f gone i).length ≤ f ∧ ∀ es ∈ locF T cs f gone i, es.length ≤ 2
  | 0, _, _ => ⟨Nat.le_refl _, nofun⟩
  | f + 1, i, gone => by
    unfold locF
    split
    · exact ⟨Nat.zero_le _, nofun⟩
    · exact ⟨Nat.le_succ_of_le (loc_two hT).1, (loc_two hT).2⟩
    · refine ⟨Nat.succ_le_succ (loc_two hT).1, fun es h => ?_⟩
      rcases List.mem_cons.mp h with rfl | h
      · exact mt_two hT
      · exact (loc_two hT).2 es h
theorem flat_two : ∀ {l : List (List Ele)}, (∀ es ∈ l, es.length ≤ 2) → l.flatten.length ≤ 2 * l.length
  | [], _ => Nat.le_refl _
  | x :: l, h => by
    have h1 := h x (.head _)
    have h2 := flat_two (l := l) fun es q => h es (.tail _ q)
    rw [List.flatten_cons, List.length_append, List.length_cons]
    lia
theorem loc_size {T : List (List Int × List Ele)} {cs : List Int} {f i : Nat} {gone : List Bool} (hT : ∀ k es, alook T k = some es → es.length ≤ 2) (hf : f ≤ 100) (j : Nat) : ((locF T cs f gone i).take j).flatten.length ≤ 900 ∧ ∀ es ∈ locF T cs f gone i, es.length ≤ 900 := by
  have h := loc_two (T := T) (cs := cs) (f := f) (i := i) (gone := gone) hT
  have h1 := flat_two (l := (locF T cs f gone i).take j) fun es q => h.2 es (List.mem_of_mem_take q)
  have h2 := List.length_take_le' j (locF T cs f gone i)
  exact ⟨by lia, fun es q => Nat.le_trans (h.2 es q) (by decide)⟩
theorem leF_same {T U : List (List Int × List Ele)} (h : ∀ k, alook T k = alook U k) : ∀ {f : Nat} {l : List Int}, leF T f l = leF U f l
  | 0, _ => rfl
  | _ + 1, [] => rfl
  | f + 1, c :: r => by
    have e : hasK T = hasK U := by funext k; unfold hasK; rw [h]
    unfold leF
    rw [e]
    dsimp only
    rw [h, leF_same h, leF_same h]
theorem elF_leF {T U : List (List Int × List Ele)} (h : ∀ k, alook T k = alook U k) (text : List Int) : elF T ((decF text).map (·.1)) = leF U (plF text).length (plF text) := by
  rw [dec_codes]
  unfold elF
  have g : GoneOk (plF text) (List.replicate (plF text).length false) := ⟨List.length_replicate, fun j c h1 _ => by
    rw [List.getElem?_replicate] at h1
    split at h1 <;> cases h1⟩
  have e : LC (plF text) (List.replicate (plF text).length false) 0 = plF text := by
    unfold LC codesAt liveAll
    rw [List.length_replicate, Nat.sub_zero, List.filter_eq_self.mpr]
    · refine List.ext_getElem? fun i => ?_
      rw [List.getElem?_map, ← List.range_eq_range']
      rcases Nat.lt_or_ge i (plF text).length with q | q
      · rw [List.getElem?_range q, Option.map_some, List.getElem?_eq_getElem q]; rfl
      · rw [List.getElem?_eq_none q, List.getElem?_eq_none (by rw [List.length_range]; exact q)]; rfl
    · intro i hi
      rw [List.mem_range'_1] at hi
      rw [List.getElem?_replicate_of_lt (by lia)]; rfl
  rw [locF_leF (F := (plF text).length) g (by lia) (by rw [e]; exact Nat.le_refl _), e, leF_same h]
end
section
variable {W : Wd} {n : Nat} {cx : Cx} {ρ : Loc} {H : AH} {Q : V → AH → Prop}
theorem any_has {α : Type} {T : List (List Int × α)} {k : List Int} : (T.any fun x => decide (x.1 = k)) = (alook T k).isSome := by
  unfold alook
  rw [Option.isSome_map]
  induction T with
  | nil => rfl
  | cons p T ih =>
    rw [List.any_cons, List.find?_cons]
    cases decide (p.1 = k) with
    | true => rfl
    | false => exact ih
theorem store_keys {α : Type} {T : List (List Int × α)} {k : List Int} {v : α} : (astore T k v).map (·.1) = if (alook T k).isSome then T.map (·.1) else T.map (·.1) ++ [k] := by
  unfold astore
  refine Eq.symm any_has ▸ ?_
  cases (alook T k).isSome with
  | true =>
    rw [if_pos rfl, if_pos rfl, List.map_map]
    refine List.map_congr_left fun x _ => ?_
    dsimp only [Function.comp]
    split <;> rfl
  | false => rw [if_neg nofun, if_neg nofun, List.map_append]; rfl
theorem look_keys {α : Type} {T : List (List Int × α)} {k : List Int} (h : (alook T k).isSome = false) : k ∉ T.map (·.1) := fun q => by
  obtain ⟨v, e⟩ := key_look q
  rw [e] at h; cases h
theorem store_nd {α : Type} {T : List (List Int × α)} {k : List Int} {v : α} (h : (T.map (·.1)).Nodup) : ((astore T k v).map (·.1)).Nodup := by
  refine Eq.symm store_keys ▸ ?_
  cases e : (alook T k).isSome with
  | true => exact h
  | false =>
    have hk := look_keys e
    rw [if_neg nofun, List.nodup_append]
    exact ⟨h, List.nodup_cons.mpr ⟨nofun, List.nodup_nil⟩, fun a ha b hb e => hk (by rw [← List.mem_singleton.mp hb, ← e]; exact ha)⟩
theorem store_mem {α : Type} {T : List (List Int × α)} {k : List Int} {v : α} {p : List Int × α} (h : p ∈ astore T k v) : p ∈ T ∨ p = (k, v) := by
  unfold astore at h
  split at h
  · obtain ⟨q, hq, rfl⟩ := List.mem_map.mp h
    by_cases e : q.1 = k
    · exact .inr (by rw [if_pos e, e])
    · exact .inl (by rw [if_neg e]; exact hq)
  · rcases List.mem_append.mp h with h | h
    · exact .inl h
    · exact .inr (List.mem_singleton.mp h)
theorem Same.store {T U : List (List Int × List Ele)} (x : Same T U) {k : List Int} {es : List Ele} (hk : k ∈ rowsL) (hes : es.length ≤ 2) (hl : U.length ≤ 19) : Same (astore T k es) (astore U k es) := by
  refine ⟨?_, fun k' => ?_, store_nd x.nd, fun p hp => ?_, Nat.le_trans (astore_len _ _ _) (Nat.succ_le_succ hl)⟩
  · rw [store_keys, store_keys, x.look]
    split
    · exact x.keys
    · exact x.keys.append_right _
  · rw [alook_store, alook_store, x.look]
  · rcases store_mem hp with h | rfl
    · exact x.ok p h
    · exact ⟨hk, hes⟩
theorem del_keys {α : Type} {T : List (List Int × α)} {k : List Int} : (adel T k).map (·.1) = (T.map (·.1)).filter fun x => decide (x ≠ k) := by
  unfold adel
  rw [List.filter_map]; rfl
theorem Same.del {T U : List (List Int × List Ele)} (x : Same T U) (k : List Int) : Same (adel T k) (adel U k) := by
  refine ⟨?_, fun k' => ?_, ?_, fun p hp => x.ok p (adel_mem hp), Nat.le_trans (adel_len _ _) x.len⟩
  · rw [del_keys, del_keys]; exact x.keys.filter _
  · by_cases e : k' = k
    · subst e; rw [adel_self, adel_self]
    · rw [adel_look e, adel_look e, x.look]
  · rw [del_keys]; exact x.nd.filter _
theorem tab_ok (m : Int) : ∀ k, k ≤ 19 → ((tabF m k).map (·.1)).Nodup ∧ ∀ p ∈ tabF m k, p.1 ∈ rowsL ∧ p.2.length ≤ 2
  | 0, _ => ⟨List.nodup_nil, nofun⟩
  | k + 1, h => by
    obtain ⟨h1, h2⟩ := tab_ok m k (Nat.le_of_succ_le h)
    unfold tabF
    split
    · refine ⟨store_nd h1, fun p hp => ?_⟩
      rcases store_mem hp with hp | rfl
      · exact h2 p hp
      · refine ⟨?_, Nat.le_trans (List.length_take_le' _ _) (Nat.le_refl 2)⟩
        have hk : k < rowsL.length := h
        rw [List.getD_eq_getElem?_getD, List.getElem?_eq_getElem hk]
        exact List.getElem_mem hk
    · exact ⟨h1, h2⟩
theorem srows_keys (U : List (List Int × List Ele)) : (srows U).map (·.1) = isort (U.map (·.1)) := by
  unfold srows
  rw [List.map_map]
  exact List.map_id _
theorem srows_same {U : List (List Int × List Ele)} (h1 : (U.map (·.1)).Nodup) (h2 : ∀ p ∈ U, p.1 ∈ rowsL ∧ p.2.length ≤ 2) (h3 : U.length ≤ 20) : Same (srows U) U := by
  have hp : ((srows U).map (·.1)).Perm (U.map (·.1)) := by rw [srows_keys]; exact isort_perm _
  have hn := hp.nodup_iff.mpr h1
  refine ⟨hp, fun k => ?_, hn, h2, h3⟩
  by_cases hk : k ∈ U.map (·.1)
  · obtain ⟨v, hv⟩ := key_look hk
    have hm : (k, v) ∈ srows U := by
      unfold srows
      exact List.mem_map.mpr ⟨k, isort_mem.mpr hk, by rw [hv]; rfl⟩
    rw [hv]; exact look_mem hn hm
  · have n1 : ∀ {L : List (List Int × List Ele)}, k ∉ L.map (·.1) → alook L k = none := fun {L} q => by
      cases e : alook L k with
      | none => rfl
      | some v => exact absurd (List.mem_map_of_mem (f := (·.1)) (alook_mem e)) q
    rw [n1 hk, n1 fun q => hk (hp.mem_iff.mp q)]
theorem amerge_nd {l : List (List Int × V)} : ∀ {acc : List (List Int × V)}, ((acc ++ l).map (·.1)).Nodup → amerge acc l = acc ++ l := by
  induction l with
  | nil => intro acc _; rw [List.append_nil]; rfl
  | cons p l ih =>
    intro acc h
    have e : acc ++ p :: l = acc ++ [p] ++ l := by rw [List.append_assoc]; rfl
    have hn : p.1 ∉ acc.map (·.1) := fun q => by
      rw [List.map_append, List.nodup_append] at h
      exact h.2.2 _ q _ (List.mem_map_of_mem (.head _)) rfl
    refine Eq.symm e ▸ ?_
    rw [e] at h
    unfold amerge at ih ⊢
    rw [List.foldl_cons, astore_new hn]
    exact ih h
theorem cb_mapS {own : List Nat} {elt : E} {t : T} {vals : List V} {Wt : AH → Prop} {f : V → V} {Q : V → AH → Prop} (hl : vals.length ≤ 1000) (hw : ∀ H', Sub H H' → Wt H')
    (step : ∀ v ∈ vals, ∀ H', Sub H H' → vB t v ρ fun ρ1 => vE W n cx elt ρ1 H' fun y H3 => y = f v ∧ Sub H' H3)
    (fin : ∀ H' D, Sub H H' → H' D = none → Q (.ref D) (upd H' D (.list (vals.map f)))) : ∃ Inv, CB W n cx own elt t .nil Q ρ vals Wt H Inv := by
  refine ⟨fun i out H' => Sub H H' ∧ out = (vals.take i).map f, hl, ⟨Sub.refl H, rfl⟩, fun i out H' h => hw H' h.1, fun i v out H' hv q => ?_, fun out H' q D hD => ?_⟩
  · obtain ⟨h1, h2⟩ := q
    obtain ⟨ρ1, b, k⟩ := vB_inv t (step v (List.mem_of_getElem? hv) H' h1)
    refine ⟨ρ1, b, ?_⟩
    unfold WCond
    refine ⟨fun _ => (vE_sound elt k).mono fun y H3 g => ⟨h1.trans g.2, ?_⟩, nofun⟩
    rw [take_succ' hv, List.map_append, h2, g.1]; rfl
  · obtain ⟨h1, h2⟩ := q
    rw [List.take_length] at h2
    rw [h2]; exact fin H' D h1 hD
end
section
variable {W : Wd} {n : Nat} {cx : Cx} {ρ : Loc} {H : AH} {Q : V → AH → Prop}
structure Pair (H : AH) (o t lg tb : Addr) (T U : List (List Int × List Ele)) (N : Nat) : Prop where
  x : El H o t lg T N
  tab : ∃ U' ep, H tb = some (.tdict U' ep) ∧ TabR H U' U
  sm : Same T U
theorem Pair.sub {H' : AH} {o t lg tb : Addr} {T U : List (List Int × List Ele)} {N : Nat} (p : Pair H o t lg tb T U N) (s : Sub H H') : Pair H' o t lg tb T U N := by
  obtain ⟨x, ⟨U', ep, a, b⟩, c⟩ := p
  exact ⟨x.sub s, ⟨U', ep, s _ _ a, b.imp fun _ _ e => s _ _ e⟩, c⟩
theorem Same.two {T U : List (List Int × List Ele)} (x : Same T U) : ∀ k es, alook T k = some es → es.length ≤ 2 := fun k es h => (x.okT _ (alook_mem h)).2
theorem Same.twoU {T U : List (List Int × List Ele)} (x : Same T U) : ∀ k es, alook U k = some es → es.length ≤ 2 := fun k es h => (x.ok _ (alook_mem h)).2
structure TextR (H : AH) (D a : Addr) (text : List Int) : Prop where
  d : IsData H D
  ha : H a = some (.list (text.map .int))
  hx : ∀ c ∈ text, c ∈ txL
  hl : text.length ≤ 13
theorem TextR.sub {H' : AH} {D a : Addr} {text : List Int} (x : TextR H D a text) (s : Sub H H') : TextR H' D a text := ⟨x.d.sub s, s _ _ x.ha, x.hx, x.hl⟩
theorem TextR.kp {H' : AH} {D a t lg : Addr} {text : List Int} (x : TextR H D a text) (k : Kp H H' t lg) : TextR H' D a text := ⟨x.d.kp k, k.list x.ha, x.hx, x.hl⟩
theorem el_two (L : IsL W) {o t lg tb D a : Addr} {T U : List (List Int × List Ele)} {N : Nat} {text : List Int} {Q : V → V → AH → Prop} (p : Pair H o t lg tb T U N) (x : TextR H D a text)
    (h : ∀ H' F1 F2 (es : List Ele), Sub H H' → H' F1 = some (.list (es.map eV)) → H' F2 = some (.list (es.map eV)) → Q (.ref F1) (.ref F2) H') :
    WV W (n + 11) (.ref 354) [.ref o, .ref a, .ref D] H fun v H1 => WC W (n + 11) 516 [.ref a, .ref tb] H1 fun v2 H2 => Q v v2 H2 := by
  have hl := x.hl
  have dl := dec_len text
  have pl := pl_len text
  obtain ⟨U', ep, a1, a2⟩ := p.tab
  refine (wc_elements_of (n := n) L p.x x.d x.ha x.hx (Nat.le_trans hl (by decide)) (dec_cd x.hx) (by lia) (loc_size p.sm.two (by lia)) fun H1 F1 s1 _ f1 => ?_).wv
  refine wc_law_elements (n := n + 8) L (s1 _ _ x.ha) (s1 _ _ a1) (a2.imp fun _ _ e => s1 _ _ e) (pl_cd x.hx) hl (by lia) p.sm.twoU fun H2 F2 s2 _ f2 => ?_
  rw [elF_leF p.sm.look] at f1
  exact h H2 F1 F2 _ (s1.trans s2) (s2 _ _ f1) f2
theorem es_ne {a b : Addr} {es : List Ele} (h1 : H a = some (.list (es.map eV))) (h2 : H b = some (.list (es.map eV))) : CmpOk W n .NotEq (.ref a) (.ref b) H false :=
  cmp_ne_same (den_es h1) (den_es h2) (lay_es _) (Nat.le_trans (depth_es _) (by decide))
theorem es_eq {a b : Addr} {es : List Ele} (h1 : H a = some (.list (es.map eV))) (h2 : H b = some (.list (es.map eV))) : CmpOk W n .Eq (.ref a) (.ref b) H true :=
  cmp_eq_same (den_es h1) (den_es h2) (lay_es _) (Nat.le_trans (depth_es _) (by decide))
theorem ElB.other {B : List BRow} {o t lg a : Addr} {T : List (List Int × List Ele)} {N : Nat} {U : List (List Int × V)} {ep : Option Nat} {ob : O} (x : ElB B H o t lg T N) (ha : H a = some (.tdict U ep)) (ne : t ≠ a) : ElB B (upd H a ob) o t lg T N := by
  obtain ⟨G, e, _⟩ := x.lon
  exact x.imp (fun _ _ _ e => upd_keep e (ne_of e ha nofun)) (fun _ _ e => upd_keep e (ne_of e ha nofun)) (fun _ _ e => upd_keep e (ne_of e ha nofun)) (fun _ e => upd_keep e ne) fun ob' q => upd_keep q (by rintro rfl; rw [ha] at e; cases e)
theorem law_D (L : IsL W) {H0 : AH} {y0 y1 y2 y3 y9 : Option V} {o t lg tb o' t' lg' tb' D a : Addr} {T U T2 U2 : List (List Int × List Ele)} {N N2 : Nat} {text : List Int} {c : Int} {r : List Int} (p : Pair H o t lg tb T U N) (p2 : Pair H o' t' lg' tb' T2 U2 N2) (x : TextR H D a text)
    (hN : N2 ≤ 900) (hin : hasK T2 (c :: r) = true) (hr : r.length ≤ 50) (ne : tb' ≠ t') (s0 : Sub H0 H) (n1 : H0 t' = none) (n2 : H0 lg' = none) (n3 : H0 tb' = none) (h : ∀ H', Sub H0 H' → Q (.bool true) H') :
    vSs W (n + 11) cx_law (ssDrop 13 ss_law) [y0, y1, y2, y3, some (.ref tb), some (.ref o), some (.ref D), some (tupI (c :: r)), some (.ref a), y9, some (.ref o'), some (.ref tb'), none, none, none] H (rK Q) := by
  unfold ss_law
  rfl'
  refine p2.x.me L (by rfl) ?_
  rfl'
  refine el_two L p2 x fun H1 F1 F2 es s1 f1 f2 => ?_
  refine ⟨_, es_ne f1 f2, ?_⟩
  rfl'
  obtain ⟨U', ep, a1, a2⟩ := p.tab
  refine wc_law_is_kept (n := n + 9) L (p.x.sub s1) (s1 _ _ a1) (a2.imp fun _ _ e => s1 _ _ e) p.sm fun H2 s2 => ?_
  have s02 := s1.trans s2
  replace p2 := p2.sub s02
  replace x := x.sub s02
  replace s0 := s0.trans s02
  clear f1 f2 a1 a2 s1 s2 s02 p
  rfl'
  refine p2.x.me L (by rfl) ?_
  rfl'
  obtain ⟨x2, ⟨U', ep, a1, a2⟩, sm⟩ := p2
  refine (wc_take_out (n := n + 10) L x2 hin (Nat.le_trans sm.lenT (by decide)) (fun q hq => ⟨(rows_ok _ (sm.okT q hq).1).1, Nat.le_trans (rows_ok _ (sm.okT q hq).1).2.1 (by decide)⟩) hN hr fun H3 x3 k => ?_).wv
  obtain ⟨G, g1, _⟩ := x2.lon
  replace a1 := k.keep _ _ a1 ne (ne_of a1 g1 nofun)
  replace a2 := a2.imp fun _ _ e => k.list e
  replace x := x.kp k
  replace s0 : Sub H0 H3 := fun b ob e => k.keep _ _ (s0 _ _ e) (by rintro rfl; rw [n1] at e; cases e) (by rintro rfl; rw [n2] at e; cases e)
  clear k x2 g1
  rfl'
  refine me_pop_t a1 ?_
  rfl'
  have hU := a2.len
  have hUl := sm.len
  obtain ⟨v, hv⟩ : ∃ v, alook U' (c :: r) = some v := by
    have := a2.has (c :: r)
    unfold hasK at hin this
    rw [← sm.look, hin] at this
    exact Option.isSome_iff_exists.mp this
  refine wv_pop_t (k := c :: r) a1 (by lia) hv ?_
  obtain ⟨G, g1, _⟩ := x3.lon
  have kp : Kp H3 (upd H3 tb' (.tdict (adel U' (c :: r)) none)) tb' lg' := ⟨fun b ob e q1 q2 => upd_keep e q1, ⟨_, _, a1⟩, ⟨_, g1⟩⟩
  have p4 : Pair (upd H3 tb' (.tdict (adel U' (c :: r)) none)) o' t' lg' tb' (adel T2 (c :: r)) (adel U2 (c :: r)) (N2 + 1) :=
    ⟨x3.other a1 (Ne.symm ne), ⟨_, _, uS _ _ _, (a2.imp fun _ _ e => upd_keep e (ne_of e a1 nofun)).del _⟩, sm.del _⟩
  replace x := x.kp kp
  replace s0 := s0.put (ob := .tdict (adel U' (c :: r)) none) n3
  clear kp g1 x3 a1 a2 hv sm hin
  generalize upd H3 tb' (.tdict (adel U' (c :: r)) none) = H4 at p4 x s0
  rfl'
  refine we_and2 (vE_sound _ ?_)
  rfl'
  refine p4.x.me L (by rfl) ?_
  rfl'
  refine el_two L p4 x fun H5 F1 F2 es s5 f1 f2 => ?_
  refine ⟨_, es_eq f1 f2, ?_⟩
  refine ⟨_, rfl, nofun, fun _ => vE_sound _ ?_⟩
  obtain ⟨U', ep, a1, a2⟩ := p4.tab
  rfl'
  refine wc_law_is_kept (n := n + 9) L (p4.x.sub s5) (s5 _ _ a1) (a2.imp fun _ _ e => s5 _ _ e) p4.sm fun H6 s6 => ?_
  rfl'
  exact h H6 ((s0.trans s5).trans s6)
end
section
variable {W : Wd} {n : Nat} {cx : Cx} {ρ : Loc} {H : AH} {Q : V → AH → Prop}
theorem pairs_eq {U' : List (List Int × V)} (h : (U'.map (·.1)).Nodup) : (U'.map fun y => tupI y.1).map (rowF U') = U'.map fun p => V.tup [tupI p.1, p.2] := by
  rw [List.map_map]
  refine List.map_congr_left fun p hp => ?_
  simp only [Function.comp, rowF, keyOf_tupI, look_mem h hp, Option.getD_some]
theorem mod_at {m : Int} {k : Nat} (hk : 0 < k) : ∃ j, j < k ∧ m.fmod (k : Int) = (j : Int) := by
  have h1 := Int.fmod_nonneg_of_pos m (b := (k : Int)) (by lia)
  have h2 := Int.fmod_lt_of_pos m (b := (k : Int)) (by lia)
  exact ⟨(m.fmod k).toNat, by lia, (Int.toNat_of_nonneg h1).symm⟩
theorem store_has {T : List (List Int × List Ele)} {k : List Int} {es : List Ele} : hasK (astore T k es) k = true := by
  unfold hasK
  rw [alook_store, if_pos rfl]; rfl
theorem law_C (L : IsL W) {H0 : AH} {y0 y1 y2 y7 y9 : Option V} {o t lg tb D a : Addr} {m : Int} {T U : List (List Int × List Ele)} {N : Nat} {text : List Int} (p : Pair H o t lg tb T U N) (x : TextR H D a text)
    (hU : U.length ≤ 19) (ne : tb ≠ t) (s0 : Sub H0 H) (n1 : H0 t = none) (n3 : H0 tb = none) (h : ∀ H', Sub H0 H' → Q (.bool true) H') :
    vSs W (n + 11) cx_law (ssDrop 9 ss_law) [y0, y1, y2, some (.int m), some (.ref tb), some (.ref o), some (.ref D), y7, some (.ref a), y9, none, none, none, none, none] H (rK Q) := by
  obtain ⟨xo, ⟨U', ep, a1, a2⟩, sm⟩ := p
  have hUl := a2.len
  have hnd : (U'.map (·.1)).Nodup := by rw [a2.keys]; exact sm.keys.nodup_iff.mp sm.nd
  unfold ss_law
  rfl'
  refine xo.me L (by rfl) ?_
  rfl'
  refine (wc_copy (n := n + 4) L xo (Nat.le_trans sm.lenT (by decide)) (fun q hq => ⟨(rows_ok _ (sm.okT q hq).1).1, Nat.le_trans (rows_ok _ (sm.okT q hq).1).2.1 (by decide), Nat.le_trans (sm.okT q hq).2 (by decide)⟩) sm.nd fun H1 o' q => ?_).wv
  obtain ⟨t', lg', k, hn1, hn2, hn3, x1, x2⟩ := q
  have ht := x.sub (H' := H)
  obtain ⟨T', ep', tt, _⟩ := xo.tab
  obtain ⟨G, gg, _⟩ := xo.lon
  have kp : Kp H H1 t lg := ⟨fun b ob e q1 _ => k b ob e q1, ⟨_, _, tt⟩, ⟨_, gg⟩⟩
  replace x := x.kp kp
  replace a2 := a2.imp fun _ _ e => kp.list e
  have ne5 : t ≠ t' := by rintro rfl; rw [hn2] at tt; cases tt
  have ne6 : lg ≠ lg' := by rintro rfl; rw [hn3] at gg; cases gg
  have ne2 : tb ≠ t' := by rintro rfl; rw [hn2] at a1; cases a1
  replace a1 := k _ _ a1 ne
  have n4 : H0 t' = none := s0.none hn2
  have n5 : H0 lg' = none := s0.none hn3
  replace s0 : Sub H0 H1 := Bt1.sub k s0 n1
  clear ht kp tt gg xo k hn1 hn2 hn3
  rfl'
  refine we_comp (by rfl) (own1 rfl) (sub1 rfl) ?_
  refine vi_dict ?_
  rfl'
  refine ⟨tb, U', _, rfl, a1, fun ep => ?_⟩
  have x1' := x1.other (ob := .tdict U' (some ep)) a1 (Ne.symm ne)
  have x2' := x2.other (ob := .tdict U' (some ep)) a1 (Ne.symm ne2)
  obtain ⟨G, gg, _⟩ := x1.lon
  have kp : Kp H1 (upd H1 tb (.tdict U' (some ep))) tb lg := ⟨fun b ob e q1 _ => upd_keep e q1, ⟨_, _, a1⟩, ⟨_, gg⟩⟩
  replace x := x.kp kp
  replace a2 := a2.imp fun _ _ e => kp.list e
  replace s0 := s0.put (ob := .tdict U' (some ep)) n3
  replace a1 : upd H1 tb (.tdict U' (some ep)) tb = some (.tdict U' (some ep)) := uS _ _ _
  clear kp gg x1 x2
  generalize upd H1 tb (.tdict U' (some ep)) = H2 at x1' x2' x a2 s0 a1
  refine cb_map (f := rowF U') (by rw [List.length_map]; lia) a1 (fun v hv => ?_) (fun D1 hD1 => ?_)
  · obtain ⟨p, hp, rfl⟩ := List.mem_map.mp hv
    have hu := look_mem hnd hp
    rfl'
    refine idx_tdict a1 hu ?_
    rfl'
    exact ⟨by simp only [rowF, keyOf_tupI, hu]; rfl, rfl⟩
  rw [pairs_eq hnd]
  rfl'
  refine wv_dict_pairs (ls := U') (uS _ _ _) (by lia) fun tb' htb => ?_
  rw [amerge_nd (acc := []) hnd, List.nil_append]
  have s3 := ((Sub.refl H2).new (o := .list (U'.map fun p => V.tup [tupI p.1, p.2])) hD1).new (o := .tdict U' none) htb
  have n6 := s0.none (upd_new htb).1
  have ne3 : tb' ≠ t' := by
    obtain ⟨_, _, e, _⟩ := x2'.tab
    rintro rfl
    rw [uO hD1 e] at htb; cases htb
  have ne7 : t ≠ tb' := by
    obtain ⟨_, _, e, _⟩ := x1'.tab
    rintro rfl
    rw [uO hD1 e] at htb; cases htb
  have ne4 : tb' ≠ tb := by
    rintro rfl
    rw [uO hD1 a1] at htb; cases htb
  have b1 : upd (upd H2 D1 (.list (U'.map fun p => V.tup [tupI p.1, p.2]))) tb' (.tdict U' none) tb' = some (.tdict U' none) := uS _ _ _
  generalize upd (upd H2 D1 (.list (U'.map fun p => V.tup [tupI p.1, p.2]))) tb' (.tdict U' none) = H3 at s3 b1
  have b2 := a2.imp fun _ _ e => s3 _ _ e
  replace p : Pair H3 o t lg tb T U N := Pair.sub ⟨x1', ⟨U', _, a1, a2⟩, sm⟩ s3
  replace x := x.sub s3
  replace x2 := x2'.sub s3
  replace s0 := s0.trans s3
  clear x1' x2' a1 a2 s3 hD1 htb n1 n3 ne hnd
  rfl'
  refine wc_law_rows (n := n + 10) L fun H4 R s4 _ hR => ?_
  obtain ⟨j, hj, ej⟩ := mod_at (m := m) (k := 19) (by decide)
  obtain ⟨row, hrow⟩ : ∃ row, rowsL[j]? = some row := ⟨_, List.getElem?_eq_getElem hj⟩
  rfl'
  refine idx_list hR (j := j) (v := tupI row) (by rw [show m.fmod 19 = (j : Int) from ej]; exact seq_nat (n := 19) hj) (by rw [List.getElem?_map, hrow]; rfl) (by rw [show m.fmod 19 = (j : Int) from ej]; lia) ?_
  have hr := rows_ok _ (List.mem_of_getElem? hrow)
  have hrm := List.mem_of_getElem? hrow
  obtain ⟨c, r, rfl⟩ : ∃ c r, row = c :: r := List.exists_cons_of_ne_nil hr.1
  have hrl : r.length ≤ 50 := by have := hr.2.1; rw [List.length_cons] at this; lia
  replace p := p.sub s4
  replace x := x.sub s4
  replace x2 := x2.sub s4
  replace s0 := s0.trans s4
  replace b1 := s4 _ _ b1
  replace b2 := b2.imp fun _ _ e => s4 _ _ e
  clear s4 hR ej hrow hj hr
  rfl'
  refine x2.me L (by rfl) ?_
  rfl'
  intro A hA
  have sA := (Sub.refl H4).new (o := .list (([(7, 33, 3, true)] : List Ele).map eV)) hA
  have hA4 : upd H4 A (.list (([(7, 33, 3, true)] : List Ele).map eV)) A = some (.list (([(7, 33, 3, true)] : List Ele).map eV)) := uS _ _ _
  change WV _ _ _ _ (upd H4 A (.list (([(7, 33, 3, true)] : List Ele).map eV))) _
  generalize upd H4 A (.list (([(7, 33, 3, true)] : List Ele).map eV)) = H5 at sA hA4
  replace x2 := x2.sub sA
  refine (wc_Elements_put (n := n + 10) L x2 (Nat.le_trans sm.lenT (by decide)) (Nat.le_trans sm.lenT (by decide)) (Nat.le_trans hrl (by decide)) hA4 (Nat.le_of_ble_eq_true rfl) fun H6 x6 k6 => ?_).wv
  obtain ⟨G, g1, _⟩ := x2.lon
  obtain ⟨xo, ⟨U1, ep1, a1, a2⟩, _⟩ := p.sub sA
  have hb1 := k6.keep _ _ (sA _ _ b1) ne3 (ne_of (sA _ _ b1) g1 nofun)
  replace b2 := b2.imp fun _ _ e => k6.list (sA _ _ e)
  obtain ⟨G', g2, _⟩ := xo.lon
  replace p : Pair H6 o t lg tb T U N := ⟨xo.kp k6 ne5 ne6, ⟨U1, ep1, k6.keep _ _ a1 ne2 (ne_of a1 g1 nofun), a2.imp fun _ _ e => k6.list e⟩, sm⟩
  replace x := (x.sub sA).kp k6
  replace s0 : Sub H0 H6 := fun b ob e => k6.keep _ _ (sA _ _ (s0 _ _ e)) (by rintro rfl; rw [n4] at e; cases e) (by rintro rfl; rw [n5] at e; cases e)
  clear x2 hA hA4 sA k6 g1 a1 a2 b1 xo g2
  rfl'
  intro A hA
  rfl'
  refine ⟨_, set_t (k := c :: r) (uO hA hb1) (by lia), ?_⟩
  have sA := (Sub.refl H6).new (o := .list (([(7, 33, 3, true)] : List Ele).map eV)) hA
  have hA6 : upd H6 A (.list (([(7, 33, 3, true)] : List Ele).map eV)) A = some (.list (([(7, 33, 3, true)] : List Ele).map eV)) := uS _ _ _
  change seqK _ _ _ _ (upd (upd H6 A (.list (([(7, 33, 3, true)] : List Ele).map eV))) tb' (.tdict (astore U' (c :: r) (.ref A)) none))
  generalize upd H6 A (.list (([(7, 33, 3, true)] : List Ele).map eV)) = H7 at sA hA6
  replace hb1 := sA _ _ hb1
  replace p := p.sub sA
  replace x := x.sub sA
  replace s0 := s0.trans sA
  replace x6 := x6.sub sA
  replace b2 := (b2.imp fun _ _ e => sA _ _ e).store (c :: r) hA6
  obtain ⟨G, g1, _⟩ := x6.lon
  have kp : Kp H7 (upd H7 tb' (.tdict (astore U' (c :: r) (.ref A)) none)) tb' lg' := ⟨fun b ob e q1 _ => upd_keep e q1, ⟨_, _, hb1⟩, ⟨_, g1⟩⟩
  obtain ⟨xo, ⟨U1, ep1, a1, a2⟩, _⟩ := p
  replace p : Pair (upd H7 tb' (.tdict (astore U' (c :: r) (.ref A)) none)) o t lg tb T U N := ⟨xo.other hb1 ne7, ⟨U1, ep1, upd_keep a1 (Ne.symm ne4), a2.imp fun _ _ e => kp.list e⟩, sm⟩
  have p2 : Pair (upd H7 tb' (.tdict (astore U' (c :: r) (.ref A)) none)) o' t' lg' tb' (astore T (c :: r) [(7, 33, 3, true)]) (astore U (c :: r) [(7, 33, 3, true)]) (T.length + 1) :=
    ⟨x6.other hb1 (Ne.symm ne3), ⟨_, _, uS _ _ _, b2.imp fun _ _ e => kp.list e⟩, sm.store hrm (by decide) hU⟩
  exact law_D L p p2 (x.kp kp) (by have := sm.lenT; lia) store_has hrl ne3 (s0.put n6) n4 n5 n6 h
end
section
variable {W : Wd} {n : Nat} {cx : Cx} {ρ : Loc} {H : AH} {Q : V → AH → Prop}
noncomputable def txI (c : Int) : Int := txL.getD (c.fmod 12).toNat 0
noncomputable def txV : V → V
  | .int c => .int (txI c)
  | v => v
theorem tx_in (c : Int) : txI c ∈ txL := by
  obtain ⟨j, hj, e⟩ := mod_at (m := c) (k := 12) (by decide)
  unfold txI
  rw [show c.fmod 12 = (j : Int) from e, Int.toNat_natCast, List.getD_eq_getElem?_getD, List.getElem?_eq_getElem (show j < txL.length from hj)]
  exact List.getElem_mem _
theorem den_ints {a : Addr} {l : List Int} (h : H a = some (.list (l.map .int))) : Den H (.ref a) (.list (l.map .int)) := .list h (den_all fun x _ => .int x)
theorem ints_ne {a b : Addr} {l : List Int} (h1 : H a = some (.list (l.map .int))) (h2 : H b = some (.list (l.map .int))) : CmpOk W n .NotEq (.ref a) (.ref b) H false :=
  cmp_ne_same (den_ints h1) (den_ints h2) (by rw [PyData.canLay0]; exact lay_all fun _ _ => rfl) (by
    have : PyData.depthAll (l.map .int) ≤ 0 := depth_all fun _ _ => Nat.le_refl _
    rw [PyData.depth]; lia)
theorem law_B (L : IsL W) {H0 : AH} {y0 y2 y7 : Option V} {o t lg tb D C : Addr} {m : Int} {T U : List (List Int × List Ele)} {N : Nat} {xs : List Int} (p : Pair H o t lg tb T U N) (d : IsData H D) (hC : H C = some (.list (xs.map .int))) (hl : xs.length ≤ 14)
    (hU : U.length ≤ 19) (ne : tb ≠ t) (s0 : Sub H0 H) (n1 : H0 t = none) (n3 : H0 tb = none) (h : ∀ H', Sub H0 H' → Q (.bool true) H') :
    vSs W (n + 11) cx_law (ssDrop 6 ss_law) [y0, some (.ref C), y2, some (.int m), some (.ref tb), some (.ref o), some (.ref D), y7, none, none, none, none, none, none, none] H (rK Q) := by
  unfold ss_law
  rfl'
  refine vs_asgc (by rfl) (own1 rfl) (sub1 rfl) ?_
  refine vi_list ?_
  rfl'
  refine sl_list_from (k := 1) hC (by rw [List.length_map]; lia) fun M hM => ?_
  refine ⟨M, _, rfl, uS _ _ _, ?_⟩
  rw [← List.map_drop]
  have hld : (xs.drop 1).length ≤ 13 := by rw [List.length_drop]; lia
  have s1 := (Sub.refl H).new (o := .list ((xs.drop 1).map V.int)) hM
  have hM1 : upd H M (.list ((xs.drop 1).map V.int)) M = some (.list ((xs.drop 1).map V.int)) := uS _ _ _
  generalize upd H M (.list ((xs.drop 1).map V.int)) = H1 at s1 hM1
  generalize xs.drop 1 = zs at hld hM1
  clear hM hC hl
  refine cb_mapS (f := txV) (by rw [List.length_map]; lia) (fun H' s => s _ _ hM1) (fun v hv H' s => ?_) (fun H2 a s2 ha => ?_)
  · obtain ⟨c, _, rfl⟩ := List.mem_map.mp hv
    obtain ⟨j, hj, e⟩ := mod_at (m := c) (k := 12) (by decide)
    have e' : c.fmod 12 = (j : Int) := e
    rfl'
    intro A hA
    rfl'
    refine Eq.symm e' ▸ ?_
    refine idx_list (l := txL.map .int) (j := j) (v := txV (.int c)) (uS _ _ _) (seq_nat (n := 12) hj) ?_ (by lia) ?_
    · change _ = some (V.int (txI c))
      unfold txI
      rw [e', Int.toNat_natCast, List.getElem?_map, List.getD_eq_getElem?_getD, List.getElem?_eq_getElem (show j < txL.length from hj)]; rfl
    · exact ⟨rfl, (Sub.refl H').new hA⟩
  have e : (zs.map V.int).map txV = (zs.map txI).map V.int := by rw [List.map_map, List.map_map]; rfl
  refine Eq.symm e ▸ ?_
  have s3 := (s1.trans s2).new (o := .list ((zs.map txI).map V.int)) ha
  replace ha : upd H2 a (.list ((zs.map txI).map V.int)) a = some (.list ((zs.map txI).map V.int)) := uS _ _ _
  have htx : ∀ c ∈ zs.map txI, c ∈ txL := fun c hc => by
    obtain ⟨z, _, rfl⟩ := List.mem_map.mp hc
    exact tx_in z
  have hlt : (zs.map txI).length ≤ 13 := by rw [List.length_map]; exact hld
  generalize upd H2 a (.list ((zs.map txI).map V.int)) = H3 at s3 ha
  generalize zs.map txI = text at ha htx hlt
  clear e hM1 hld s1 s2
  rfl'
  refine wv_list_list ha (by rw [List.length_map]; lia) fun B hB => ?_
  have s4 := s3.new (o := .list (text.map V.int)) hB
  have x : TextR (upd H3 B (.list (text.map V.int))) D a text := ⟨d.sub s4, uO hB ha, htx, hlt⟩
  replace hB : upd H3 B (.list (text.map V.int)) B = some (.list (text.map V.int)) := uS _ _ _
  generalize upd H3 B (.list (text.map V.int)) = H4 at s4 x hB
  replace p := p.sub s4
  replace s0 := s0.trans s4
  clear s3 ha htx hlt s4 d
  rfl'
  refine p.x.me L (by rfl) ?_
  rfl'
  refine el_two L p x fun H5 F1 F2 es s5 f1 f2 => ?_
  refine ⟨_, es_ne f1 f2, ?_⟩
  rfl'
  refine ⟨_, ints_ne (s5 _ _ x.ha) (s5 _ _ hB), ?_⟩
  rfl'
  obtain ⟨U', ep, a1, a2⟩ := p.tab
  refine wc_law_is_kept (n := n + 9) L (p.x.sub s5) (s5 _ _ a1) (a2.imp fun _ _ e => s5 _ _ e) p.sm fun H6 s6 => ?_
  refine pr_f (pr_f ?_)
  exact law_C L (p.sub (s5.trans s6)) (x.sub (s5.trans s6)) hU ne (s0.trans (s5.trans s6)) n1 n3 h
end
section
variable {W : Wd} {n : Nat} {cx : Cx} {ρ : Loc} {H : AH} {Q : V → AH → Prop}
theorem three (l : List Int) : ∃ a b c : Int, (l.map V.int ++ [V.int 0, V.int 0, V.int 0]).take 3 = [V.int a, V.int b, V.int c] := by
  match l with
  | [] => exact ⟨_, _, _, rfl⟩
  | [x] => exact ⟨_, _, _, rfl⟩
  | [x, y] => exact ⟨_, _, _, rfl⟩
  | x :: y :: z :: l => exact ⟨_, _, _, rfl⟩
inductive LwI (y0 y1 y2 y3 : Option V) (o t lg tb D : Addr) (T : List (List Int × List Ele)) (H1 : AH) : Nat → Loc → AH → Prop
  | mk (i : Nat) (μ : Option V) (H' : AH) (k : Kp H1 H' t lg) (x : El H' o t lg (T.take i) i) : LwI y0 y1 y2 y3 o t lg tb D T H1 i [y0, y1, y2, y3, some (.ref tb), some (.ref o), some (.ref D), μ, none, none, none, none, none, none, none] H'
theorem sl_base {a : Addr} {its : Array Value} {l : List V} {k : Nat} (hb : W.base.IsList a its) (hr : ∀ h, VRs h l its.toList) (hl : l.length ≤ 1000) (h : ∀ c, H c = none → Q (.ref c) (upd H c (.list (l.take k)))) : SlOk W n none (some (k : Int)) none (.ref a) H Q := by
  intro s A X x sl vl vu vs R hA hx hs p1 p2 p3
  cases vr_ref hx
  obtain ⟨o, e, hc, m, hd⟩ := hb
  have e' := (R.base a o e).1
  have hsz : its.size = l.length := (hr s.heap).length.symm
  refine ⟨⟨"list", _, typeIs_at e' hc, tl_list⟩, wpAny_getItem_list_slice ⟨o, e', hc, m, hd⟩ hs p1 p2 p3 (by simp) ?_ (by rw [sizeLine_eq, hsz]; exact Nat.le_trans hl (by decide))⟩
  rw [slicePick_upto']
  exact new_list R ((hr _).take k) h
theorem wc_law (L : IsL W) {sA : Addr} {its : Array Value} {xs : List Int} (hT : H 112 = some (.tab fsPos fsQual)) (hs : W.base.IsList sA its) (hr : ∀ h, VRs h (xs.map V.int) its.toList) (hl : xs.length ≤ 63) (h : ∀ H', Sub H H' → Q (.bool true) H') : WC W (n + 12) 540 [.ref sA] H Q := by
  refine fc_law (n := n + 11) L ?_
  unfold ss_law
  rfl'
  refine vs_asgc (by rfl) (own1 rfl) (sub1 rfl) ?_
  refine vi_list ?_
  rfl'
  refine sl_base (k := 14) hs hr (lmap (Nat.le_trans hl (by decide))) fun M hM => ?_
  refine ⟨M, _, rfl, uS _ _ _, ?_⟩
  rw [← List.map_take]
  have hlx : (xs.take 14).length ≤ 14 := List.length_take_le _ _
  have s1 := (Sub.refl H).new (o := .list ((xs.take 14).map V.int)) hM
  have hM1 : upd H M (.list ((xs.take 14).map V.int)) M = some (.list ((xs.take 14).map V.int)) := uS _ _ _
  generalize upd H M (.list ((xs.take 14).map V.int)) = H1 at s1 hM1
  generalize xs.take 14 = zs at hlx hM1
  clear hM hs hl
  have hz1 : (zs.map V.int).length ≤ 1000 := lmap (Nat.le_trans hlx (by decide))
  refine cb_map (f := id) hz1 hM1 (fun v hv => ?_) (fun C hC => ?_)
  · obtain ⟨c, _, rfl⟩ := List.mem_map.mp hv
    rfl'
    refine wv_int ?_
    exact ⟨rfl, rfl⟩
  rw [List.map_id]
  have s2 := s1.new (o := .list (zs.map V.int)) hC
  replace hC : upd H1 C (.list (zs.map V.int)) C = some (.list (zs.map V.int)) := uS _ _ _
  generalize upd H1 C (.list (zs.map V.int)) = H2 at s2 hC
  clear s1 hM1
  rfl'
  intro A hA
  refine op_list_add (uO hA hC) (uS _ _ _) hz1 (Nat.le_of_ble_eq_true rfl) fun B hB => ?_
  rfl'
  refine sl_list_to (k := 3) (uS _ _ _) (by rw [List.length_append]; exact Nat.le_trans (Nat.add_le_add_right (by rw [List.length_map]; exact hlx) _) (show 14 + 3 ≤ 1000 by decide)) fun S hS => ?_
  obtain ⟨a, b, c, e3⟩ := three zs
  refine Eq.symm e3 ▸ ?_
  have s3 := ((s2.new (o := .list [.int 0, .int 0, .int 0]) hA).new (o := .list (zs.map V.int ++ [.int 0, .int 0, .int 0])) hB).new (o := .list [.int a, .int b, .int c]) hS
  replace hC := uO (o' := .list [.int a, .int b, .int c]) hS (uO (o' := .list (zs.map V.int ++ [.int 0, .int 0, .int 0])) hB (uO (o' := .list [.int 0, .int 0, .int 0]) hA hC))
  replace hS := uS (upd (upd H2 A (.list [.int 0, .int 0, .int 0])) B (.list (zs.map V.int ++ [.int 0, .int 0, .int 0]))) S (.list [.int a, .int b, .int c])
  generalize upd (upd (upd H2 A (.list [.int 0, .int 0, .int 0])) B (.list (zs.map V.int ++ [.int 0, .int 0, .int 0]))) S (.list [.int a, .int b, .int c]) = H3 at s3 hC hS
  clear s2 hA hB e3 hz1
  rfl'
  refine idx_list hS (j := 0) (v := .int a) rfl rfl (by decide) ?_
  rfl'
  refine idx_list hS (j := 1) (v := .int b) rfl rfl (by decide) ?_
  rfl'
  refine idx_list hS (j := 2) (v := .int c) rfl rfl (by decide) ?_
  rfl'
  generalize (a + 64 * b + 4096 * c).fmod 524288 = m
  clear hS
  refine wc_law_table (n := n + 9) L fun H4 tb U' ep s4 ht0 ht hb => ?_
  have hUl := tab_len m 19
  obtain ⟨hnd, hok⟩ := tab_ok m 19 (Nat.le_refl _)
  replace hC := s4 _ _ hC
  replace s4 := s3.trans s4
  have n3 := s3.none ht0
  generalize tabF m 19 = U at hUl hnd hok hb
  clear s3 ht0
  rfl'
  refine wv_Elements (n := n + 6) (fl := true) L (.inl ⟨rfl, rfl⟩) fun H5 o t lg s5 _ htn hlg _ x => ?_
  rw [if_pos rfl] at x
  rfl'
  refine wc_law_data (n := n + 6) L (s5 _ _ (s4 _ _ hT)) fun H6 D s6 _ d => ?_
  have n1 := s4.none htn
  have n2 := s4.none hlg
  have ne : tb ≠ t := by rintro rfl; rw [ht] at htn; cases htn
  have s56 := s5.trans s6
  replace x := x.sub s6
  replace hC := s56 _ _ hC
  replace ht := s56 _ _ ht
  replace hb := hb.imp fun _ _ e => s56 _ _ e
  have s0 := s4.trans s56
  clear s4 s5 s6 s56 htn hlg hT
  have hUl' := hb.len
  have sm := srows_same hnd hok (Nat.le_succ_of_le hUl)
  rfl'
  refine vs_for (by rfl) ?_
  refine vi_list ?_
  rfl'
  refine wv_sorted_t ht (Nat.lt_of_le_of_lt (Nat.le_trans (Nat.le_of_eq hUl') hUl) (by decide)) (fun p hp => ?_) fun E hE => ?_
  · have : p.1 ∈ U'.map (·.1) := List.mem_map_of_mem hp
    rw [hb.keys] at this
    obtain ⟨q, hq, e⟩ := List.mem_map.mp this
    rw [← e]; exact (rows_ok _ (hok q hq).1).1
  rw [hb.keys, ← srows_keys]
  have s7 := (Sub.refl H6).new (o := .list (((srows U).map (·.1)).map tupI)) hE
  have hE7 : upd H6 E (.list (((srows U).map (·.1)).map tupI)) E = some (.list (((srows U).map (·.1)).map tupI)) := uS _ _ _
  generalize upd H6 E (.list (((srows U).map (·.1)).map tupI)) = H7 at s7 hE7
  replace x := x.sub s7
  replace d := d.sub s7
  replace hC := s7 _ _ hC
  replace ht := s7 _ _ ht
  replace hb := hb.imp fun _ _ e => s7 _ _ e
  replace s0 := s0.trans s7
  clear s7 hE
  generalize srows U = T at sm hE7
  have hlT : T.length ≤ 20 := sm.lenT
  obtain ⟨T', ep', tt, _⟩ := x.tab
  obtain ⟨G, gg, _⟩ := x.lon
  have nl := ne_of ht gg nofun
  refine ⟨E, _, rfl, hE7, LwI _ _ _ _ o t lg tb D T H7, .mk 0 none H7 ⟨fun _ _ e _ _ => e, ⟨_, _, tt⟩, ⟨_, gg⟩⟩ x, fun i ρ H' q => ?_, fun i v ρ H' K hv q hK => ?_, fun ρ H' q => ?_⟩
  · obtain ⟨_, _, k⟩ := q
    exact k.list hE7
  · obtain ⟨μ, _, k, xi⟩ := q
    rw [List.getElem?_map, List.getElem?_map, Option.map_map] at hv
    obtain ⟨p, hp, rfl⟩ := Option.map_eq_some_iff.mp hv
    have hpm := List.mem_of_getElem? hp
    have hlk := look_mem sm.nd hpm
    have hpo := sm.okT p hpm
    have hpr := rows_ok _ hpo.1
    rw [sm.look] at hlk
    have hno := key_new sm.nd hp
    have hi : i < T.length := (List.getElem?_eq_some_iff.mp hp).1
    obtain ⟨c, r, hcr⟩ : ∃ c r, p.1 = c :: r := List.exists_cons_of_ne_nil hpr.1
    rcases hb.look p.1 with ⟨_, e2⟩ | ⟨a, es, e1, e2, e3⟩
    · rw [e2] at hlk; cases hlk
    rw [e2] at hlk; cases hlk
    have htk := k.keep _ _ ht ne nl
    have hrl : r.length ≤ 100 := by have := hpr.2.1; rw [hcr, List.length_cons] at this; exact Nat.le_trans (Nat.le_of_succ_le this) (by decide)
    dsimp only [Function.comp]
    rfl'
    refine xi.me L (by rfl) ?_
    rfl'
    refine idx_tdict htk e1 ?_
    refine Eq.symm hcr ▸ ?_
    rw [hcr] at hno
    refine (wc_Elements_put (n := n + 10) L xi (Nat.le_trans (Nat.le_of_lt (Nat.lt_of_lt_of_le hi hlT)) (by decide)) (ltake (Nat.le_trans hlT (by decide))) hrl (k.list e3) (Nat.le_trans hpo.2 (by decide)) fun H8 x8 k8 => ?_).wv
    rw [astore_new hno, ← hcr] at x8
    rfl'
    refine hK.next (.mk (i + 1) _ H8 (k.trans k8) ?_)
    rw [take_succ' hp]
    exact x8
  · obtain ⟨μ, _, k, xi⟩ := q
    rw [List.length_map, List.length_map, List.take_length] at xi
    exact law_B L ⟨xi, ⟨U', ep, k.keep _ _ ht ne nl, hb.imp fun _ _ e => k.list e⟩, sm⟩ (d.kp k) (k.list hC) hlx hUl ne (fun b ob e => k.keep _ _ (s0 _ _ e) (by rintro rfl; rw [n1] at e; cases e) (by rintro rfl; rw [n2] at e; cases e)) n1 n3 h
end
section
set_option tactic.hygienic true
structure YT (t : Heap) : Prop where
  all : allChk (kF t) (t.nsMap mainGlobals) (t.nsMap builtinsNs) = true
  g : t.isNs mainGlobals = true
  b : t.isNs builtinsNs = true
  lim : nolimChk t = true
  tab : tabChk t = true
  sysm : (t.get? sysModules).isSome = true
  blt : bltChk t (t.nsMap mainGlobals "__builtins__") = true
  law : t.nsMap mainGlobals "law" = some (.ref 540)
theorem yt_of {s : Shared} (h : yF s = true) : YT s.heap := by
  obtain ⟨h0, h⟩ := an2 h
  obtain ⟨h1, h2, h3, h4, h5, h6⟩ := an6 h
  obtain ⟨h6, h7, h8⟩ := an3 h6
  exact ⟨look_both h0 h1, h2, h3, h4, h5, h6, h7, eq_of_beq h8⟩
theorem attr_ge {k : Nat} (h : 18 ≤ k) : (attrF k).cps.size = k + 100 := by
  have : attrL[k]? = none := List.getElem?_eq_none (show attrL.length ≤ k from h)
  unfold attrF; rw [this]
  show (List.replicate (k + 100) 0).toArray.size = k + 100
  rw [List.size_toArray, List.length_replicate]
theorem attr_lt {k : Nat} (h : k < 18) : ∃ x, attrL[k]? = some x ∧ attrF k = x ∧ x.cps.size < 100 := by
  have hk : k < attrL.length := h
  refine ⟨attrL[k], List.getElem?_eq_getElem hk, by unfold attrF; rw [List.getElem?_eq_getElem hk]; rfl, ?_⟩
  have : attrL.all (fun x => decide (x.cps.size < 100)) = true := by decide +kernel
  exact of_decide_eq_true (List.all_eq_true.mp this _ (List.getElem_mem hk))
theorem attr_inj (i j : Nat) (h : attrF i = attrF j) : i = j := by
  rcases Nat.lt_or_ge i 18 with hi | hi <;> rcases Nat.lt_or_ge j 18 with hj | hj
  · obtain ⟨x, e1, e2, _⟩ := attr_lt hi
    obtain ⟨y, e3, e4, _⟩ := attr_lt hj
    have nd : attrL.Nodup := by decide +kernel
    rw [e2, e4] at h
    subst h
    exact (List.getElem?_inj hi nd).mp (e1.trans e3.symm)
  · obtain ⟨x, e1, e2, e3⟩ := attr_lt hi
    have := attr_ge hj
    rw [← h, e2] at this; lia
  · obtain ⟨x, e1, e2, e3⟩ := attr_lt hj
    have := attr_ge hi
    rw [h, e2] at this; lia
  · have a := attr_ge hi
    have b := attr_ge hj
    rw [h] at a; lia
theorem attr_not {m : Str} (h : (!attrL.contains m && decide (m.cps.size < 100)) = true) (k : Nat) : attrF k ≠ m := by
  obtain ⟨h1, h2⟩ := an2 h
  rintro rfl
  rcases Nat.lt_or_ge k 18 with hk | hk
  · obtain ⟨x, e1, e2, _⟩ := attr_lt hk
    rw [e2] at h1
    have := List.contains_iff_mem.mpr (List.mem_of_getElem? e1)
    rw [this] at h1; cases h1
  · have := attr_ge hk
    have := of_decide_eq_true h2
    lia
theorem mem_look {α β : Type} [BEq α] [LawfulBEq α] : ∀ {l : List (α × β)} {a : α} {b : β}, l.lookup a = some b → (a, b) ∈ l
  | (x, y) :: r, a, b, h => by
    rw [List.lookup_cons] at h
    by_cases e : (a == x) = true
    · rw [e] at h; cases h; rw [eq_of_beq e]; exact .head _
    · rw [Bool.not_eq_true] at e
      rw [e] at h; exact .tail _ (mem_look h)
theorem kF_look {t : Heap} {l : List Addr} {a : Addr} {o : Obj} (h : (l.filterMap fun a => (t.get? a).map fun o => (a, o)).lookup a = some o) : a ∈ l ∧ t.get? a = some o := by
  obtain ⟨b, hb, e⟩ := List.mem_filterMap.mp (mem_look h)
  obtain ⟨o', e1, e2⟩ := Option.map_eq_some_iff.mp e
  cases e2
  exact ⟨hb, e1⟩
noncomputable def bs (h : Heap) : Heap := h.update 112 fun o => { o with data := .freed }
theorem bs_ne {h : Heap} {a : Addr} (n : a ≠ 112) : (bs h).get? a = h.get? a := Heap.get?_update_other h _ (Ne.symm n)
theorem bs_112 (h : Heap) : (bs h).get? 112 = none := by
  cases hq : (bs h).get? 112 with
  | none => rfl
  | some o =>
    obtain ⟨e1, e2⟩ := Heap.get?_some_iff.mp hq
    cases h; simp only [bs, Heap.update, Array.getElem?_modify, if_true] at e1
    obtain ⟨o', _, rfl⟩ := Option.map_eq_some_iff.mp e1
    cases e2
variable {t h : Heap}
theorem ad_ne {a : Addr} (m : a ∈ adL) : a ≠ 112 := by
  rintro rfl
  exact absurd m (by decide +kernel)
theorem kin (k : ∀ b o, t.get? b = some o → h.get? b = some o) : (kF t).In (bs h) := fun a o e => by
  obtain ⟨m, e⟩ := kF_look e
  rw [bs_ne (ad_ne m)]; exact k _ _ e
theorem ns_bs (k : ∀ b o, t.get? b = some o → h.get? b = some o) {a : Addr} (n : a ≠ 112) (x : t.isNs a = true) : (bs h).Ns a (t.nsMap a) := by
  obtain ⟨o, es, ep, e, r⟩ := Heap.Ns.of_isNs x
  exact ⟨o, es, ep, (bs_ne n).trans (k _ _ e), r⟩
theorem gl_ok {K : Frag} {mg mb : Str → Option Value} {x : Str} {g : G} (q : glChk K mg mb x g = true) : match (generalizing := false) g with
    | .fn a => mg x = some (.ref a) ∧ keepIn K (.ref a) = true
    | .cls a => mg x = some (.ref a) ∧ keepIn K (.ref a) = true
    | .int i => ∃ t, mg x = some (.int i t)
    | .blt id => mg x = Option.none ∧ mb x = some (.builtin id)
    | .typ n => mg x = Option.none ∧ mb x = some (.type n) := by
  cases g with
  | fn a => exact ⟨eq_of_beq (an2 q).1, (an2 q).2⟩
  | cls a => exact ⟨eq_of_beq (an2 q).1, (an2 q).2⟩
  | int i =>
    have q : (match mg x with | some (.int j _) => j == i | _ => false) = true := q
    cases e : mg x with
    | none => rw [e] at q; cases q
    | some v =>
      rw [e] at q
      cases v <;> first | exact absurd q Bool.false_ne_true | exact ⟨_, congrArg (fun z => some (Value.int z _)) (eq_of_beq q)⟩
  | blt id => exact ⟨eq_of_beq (an2 q).1, eq_of_beq (an2 q).2⟩
  | typ n => exact ⟨eq_of_beq (an2 q).1, eq_of_beq (an2 q).2⟩
structure AllOk (K : Frag) (mg mb : Str → Option Value) : Prop where
  defs : defsL.all (fun d => fnChk K gtF attrF d.a d.cx d.ss d.ns && dfChk K d.a d.df) = true
  gl : gtL.all (fun p => glChk K mg mb p.1 p.2) = true
  at_ : cattrL.all (fun p => p.2.all fun k => findIn K (.ref p.1) (attrF k) == some none && takerIn K p.1 (attrF k) == some none) = true
  cl : cinitL.all (fun p => clsChk K p.1 && findIn K (.ref p.1) "__init__" == some (some (.ref p.2)) && typeIn K (.ref p.2) == some (.type "function")) = true
  me : cmethL.all (fun p => p.2.all fun q => findIn K (.ref p.1) q.1 == some (some (.ref q.2)) && typeIn K (.ref q.2) == some (.type "function") && keepIn K (.ref q.2)) = true
  cd : codeHdIn K 114 112 = true
theorem AllOk.of {K : Frag} {mg mb : Str → Option Value} (h : allChk K mg mb = true) : AllOk K mg mb := by
  obtain ⟨h1, h⟩ := an2 h
  obtain ⟨h, h6⟩ := an2 h
  obtain ⟨h, h5⟩ := an2 h
  obtain ⟨h, h4⟩ := an2 h
  obtain ⟨h2, h3⟩ := an2 h
  exact ⟨h1, h2, h3, h4, h5, h6⟩
noncomputable def mkW (w : World) (y : YT t) (k : ∀ b o, t.get? b = some o → h.get? b = some o) : Wd where
  prog := pw
  w := w
  K := kF t
  base := bs h
  mg := t.nsMap mainGlobals
  mb := t.nsMap builtinsNs
  attr := attrF
  ainj := attr_inj
  gt := gtF
  KX := kin k
  g := ns_bs k (by decide) y.g
  b := ns_bs k (by decide) y.b
  nolimit := ⟨_, ns_bs k (by decide) (an2 y.lim).1, Option.isNone_iff_eq_none.mp (an2 y.lim).2⟩
  sysm := by
    obtain ⟨o, e⟩ := Option.isSome_iff_exists.mp y.sysm
    exact ⟨o, (bs_ne (by decide)).trans (k _ _ e)⟩
  gok := fun x g e => gl_ok (List.all_eq_true.mp (AllOk.of y.all).gl _ (mem_look e))
  cattr := cattrF
  aok := fun C i e => by
    unfold cattrF at e
    split at e
    · rename_i l hl
      have := List.all_eq_true.mp (List.all_eq_true.mp (AllOk.of y.all).at_ _ (mem_look hl)) i (List.contains_iff_mem.mp e)
      exact ⟨eq_of_beq (an2 this).1, eq_of_beq (an2 this).2⟩
    · cases e
  cplain := cplainF
  cok := fun C e => by
    obtain ⟨f, hf⟩ := Option.isSome_iff_exists.mp e
    have := (an2 (an2 (List.all_eq_true.mp (AllOk.of y.all).cl _ (mem_look hf))).1).1
    unfold clsChk at this
    obtain ⟨h, h7⟩ := an2 this
    obtain ⟨h, h6⟩ := an2 h
    obtain ⟨h, h5⟩ := an2 h
    obtain ⟨h, h4⟩ := an2 h
    obtain ⟨h, h3⟩ := an2 h
    obtain ⟨h1, h2⟩ := an2 h
    exact ⟨⟨eq_of_beq h1, eq_of_beq h2, h3⟩, eq_of_beq h4, h5, h6, h7⟩
  cinit := cinitF
  iok := fun C f e => by
    have := List.all_eq_true.mp (AllOk.of y.all).cl _ (mem_look e)
    exact ⟨eq_of_beq (an2 (an2 this).1).2, eq_of_beq (an2 this).2⟩
  cmeth := cmethF
  mok := fun C m f e => by
    unfold cmethF at e
    split at e
    · rename_i l hl
      have := List.all_eq_true.mp (List.all_eq_true.mp (AllOk.of y.all).me _ (mem_look hl)) _ (mem_look e)
      obtain ⟨h12, h3⟩ := an2 this
      have nm : cmethL.all (fun p => p.2.all fun q => !attrL.contains q.1 && decide (q.1.cps.size < 100)) = true := by decide +kernel
      exact ⟨eq_of_beq (an2 h12).1, eq_of_beq (an2 h12).2, h3, attr_not (List.all_eq_true.mp (List.all_eq_true.mp nm _ (mem_look hl)) _ (mem_look e))⟩
    · cases e
theorem plain_inv {o : Obj} (h : isPlain o = true) : o.data = .plain := by
  obtain ⟨c, d, data, sl⟩ := o
  cases data <;> first | rfl | exact absurd h Bool.false_ne_true
theorem bat_of (y : YT t) (k : ∀ b o, t.get? b = some o → h.get? b = some o) : (bs h).BuiltinsAt (t.nsMap mainGlobals) 112 := by
  obtain ⟨v, hv, q⟩ := som_inv y.blt
  cases v <;> first | exact absurd q Bool.false_ne_true | skip
  rename_i bm
  obtain ⟨h1, h2, h3, q⟩ := an4 q
  obtain ⟨o, ho, q⟩ := som_inv q
  obtain ⟨h4, h5, h6⟩ := an3 q
  have n3 : bm ≠ 112 := bne_iff_ne.mp h3
  exact ⟨bm, o, hv, bne_iff_ne.mp h1, bne_iff_ne.mp h2, n3, (bs_ne n3).trans (k _ _ ho), eq_of_beq h4, eq_of_beq h5, plain_inv h6⟩
theorem isl (w : World) (y : YT t) (k : ∀ b o, t.get? b = some o → h.get? b = some o) : IsL (mkW w y k) :=
  ⟨rfl, rfl, rfl, rfl, rfl, rfl, bat_of y k, codeHd_of_K (kin k) (AllOk.of y.all).cd, (AllOk.of y.all).defs⟩
theorem fieldsOf_inv {o : Obj} {vs : Array Value} (h : fieldsOf o = some vs) : o.data = .fields vs := by
  obtain ⟨c, d, data, sl⟩ := o
  cases data <;> first | exact absurd h.symm (Option.some_ne_none _) | exact congrArg Data.fields (Option.some.inj h)
theorem tab_of (y : YT t) : t.get? 112 = some (tabObj #[]) := by
  obtain ⟨o, e, q⟩ := som_inv y.tab
  obtain ⟨h1, h2, h3, q⟩ := an4 q
  obtain ⟨vs, e2, q⟩ := som_inv q
  have e3 := fieldsOf_inv e2
  rw [Array.toList_inj.mp (List.isEmpty_iff.mp q : vs.toList = (#[] : Array Value).toList)] at e3
  rw [e]
  obtain ⟨c, d, data, sl⟩ := o
  cases noneV_inv h1
  cases Option.isNone_iff_eq_none.mp h2
  cases e3
  cases Array.toList_inj.mp (List.isEmpty_iff.mp h3 : sl.toList = (#[] : Array _).toList)
  rfl
theorem ints_vrs {vs : List Value} {xs : List Int} (x : IntsAre vs xs) (h : Heap) : VRs h (xs.map V.int) vs := by
  induction x with
  | nil => exact .nil
  | cons _ _ _ ih => exact .cons (.int _ _) ih
noncomputable def H0 : AH := fun a => if a = 112 then some (.tab fsPos fsQual) else none
theorem H0_112 : H0 112 = some (.tab fsPos fsQual) := if_pos rfl
theorem H0_ne {a : Addr} (n : a ≠ 112) : H0 a = none := if_neg n
theorem rel0 (w : World) (y : YT t) (k : ∀ b o, t.get? b = some o → h.get? b = some o) : Rel (mkW w y k) H0 h := by
  refine ⟨fun a o e => ?_, fun a o e => ?_⟩
  · have e : (bs h).get? a = some o := e
    have n : a ≠ 112 := by rintro rfl; rw [bs_112] at e; cases e
    exact ⟨(bs_ne n).symm.trans e, H0_ne n⟩
  · by_cases n : a = 112
    · subst n
      rw [H0_112] at e
      cases e
      exact ⟨#[], k _ _ (tab_of y), trivial, fun cv q => by cases q⟩
    · rw [H0_ne n] at e; cases e
theorem call_law (w : World) (y : YT t) {s : Shared} (k : ∀ b o, t.get? b = some o → s.heap.get? b = some o) {sA : Addr} {its : List Value} {xs : List Int} (hL : s.heap.IsList sA its.toArray) (hI : IntsAre its xs) (hl : xs.length ≤ 63)
    {Q X : Value → Shared → Prop} (h : ∀ s', (∀ b o, s.heap.get? b = some o → b ≠ 112 → s'.heap.get? b = some o) → (∃ ps, s'.heap.get? 112 = some (tabObj ps)) → s'.gens = s.gens → s'.os = s.os → Q (.bool true) s') :
    wpAny (model pw w) callerA (PySem.call (.ref 540) [.ref sA]) Q X s := by
  have hsA : sA ≠ 112 := by
    rintro rfl
    obtain ⟨o, e, hc, _⟩ := hL
    rw [k _ _ (tab_of y)] at e; cases e; cases hc
  have hb : (mkW w y k).base.IsList sA its.toArray := by
    obtain ⟨o, e, r⟩ := hL
    exact ⟨o, (bs_ne hsA).trans e, r⟩
  have R := rel0 w y k
  have wc := (wc_law (n := 0) (H := H0) (Q := fun v H' => v = .bool true ∧ Sub H0 H') (isl w y k) H0_112 hb (fun h => by exact ints_vrs hI h) hl fun H' sb => ⟨rfl, sb⟩).wv
  refine wpAny_mono (wc s callerA X [.ref sA] R ⟨rfl, by decide +kernel, by decide +kernel⟩ (.one (.ref sA))) (fun v s' z => ?_) fun _ _ z => z
  obtain ⟨v', H', a, ⟨e, sb⟩, c⟩ := z
  subst e
  cases vr_bool a
  obtain ⟨hp, tk, e⟩ := c.same
  refine h s' (fun b o q n => (c.ext b o q (H0_ne n)).1) ?_ (by rw [e]) (by rw [e])
  obtain ⟨ps, q, _⟩ := c.rel.objs _ _ (sb _ _ H0_112)
  exact ⟨ps, q⟩
end
section
theorem post_ok (args : List WData) : PySem.Challenge.rw_nt0059_01.row.claim.post args (.bool true) args = true := by
  show (WShape.has [] (.bool true) .bool && WTm.holds [] (.eq .res (.lit (.bool true))) { args := args, res := some (.bool true), after := args }) = true
  simp only [WShape.has, WTm.holds, WTm.value, Bool.true_and]
  decide +kernel
theorem good_of {s s' : Shared} {cl : Str → Option Addr} {mean : ExcName → Option Value} {args : List WData} {t : Heap} (y : YT t) (k : ∀ b o, t.get? b = some o → s.heap.get? b = some o) (hg : s.gens = #[])
    (h1 : ∀ b o, s.heap.get? b = some o → b ≠ 112 → s'.heap.get? b = some o) (h2 : ∃ ps, s'.heap.get? 112 = some (tabObj ps)) (h3 : s'.gens = s.gens) (h4 : s'.os = s.os) :
    GoodWG PySem.Challenge.rw_nt0059_01.row.claim cl mean args s (.ok (.ret (.bool true))) s' := by
  have tb := k _ _ (tab_of y)
  refine ⟨.inl ⟨_, .bool true, [], rfl, fun _ => rfl, .bool true, ?_, fun _ => ⟨List.nodup_nil, fun a ha => nomatch ha⟩⟩, ⟨fun b o e => ?_, fun b o e => ?_⟩, h4, .of_eq (h3.trans hg)⟩
  · exact post_ok args
  · by_cases n : b = 112
    · subst n
      rw [tb] at e
      cases e
      obtain ⟨ps, q⟩ := h2
      obtain ⟨o, vs, _, _, _, _, _, _, _, e1, e2, e3, e4, _⟩ := codeHd_of_K (kin k) (AllOk.of y.all).cd
      refine .inr (.inl ⟨⟨114, o, vs, (bs_ne (by decide)).symm.trans e1, e2, e3, e4⟩, rfl, #[], ps, rfl, ?_⟩)
      rw [q, Array.empty_append]
    · exact .inl (h1 b o e n)
  · by_cases n : b = 112
    · subst n
      obtain ⟨ps, q⟩ := h2
      exact ⟨_, q⟩
    · exact ⟨o, h1 b o e n⟩
theorem law_at {t h : Heap} {mg : Str → Option Value} (y : YT t) (k : ∀ b o, t.get? b = some o → h.get? b = some o) (g : h.Ns mainGlobals mg) : mg "law" = some (.ref 540) := by
  rw [g.eq_nsMap, ← ((Heap.Ns.of_isNs y.g).keeps k).eq_nsMap]
  exact y.law
end
end Mine
set_option maxHeartbeats 4000000 in
theorem PySem.Challenge.cw_nt0059_01_holds : PySem.Challenge.rw_nt0059_01.Holds := by
  refine holds_law Mine.said fun said => ?_
  refine holds_open (q := Mine.qv) (loose := Mine.lse) (Xt := fun _ => true) (XP := fun _ _ => True) (Yf := Mine.yF) (Ya := fun _ => true) (YP := fun _ h => ∃ t : Heap, Mine.YT t ∧ ∀ b o, t.get? b = some o → h.get? b = some o) (N := 7652) (d := Mine.dk.1) (kwd := Mine.dk.2)
    (Mine.left_of Mine.evaled) (fun _ s e => ⟨s.heap, Mine.yt_of e, fun _ _ e => e⟩) (fun _ _ _ ⟨t, a, b⟩ k => ⟨t, a, fun c o e => k c o (b c o e)⟩) (fun _ _ => trivial) (fun _ _ _ _ _ => trivial) Mine.dk_eq Mine.dk_the Mine.dk_kw (fun _ _ => recFacts_nil rfl) rfl said (by decide +kernel) ⟨rfl, rfl, rfl, rfl, rfl, by decide +kernel⟩ ⟨[.list []], by decide +kernel, by decide +kernel⟩ ?_
  intro w s₀ s₁ mg mb G Y a o pm cd doc dV kV ho hd hcd hD hmg hg args vals as hpre hlay hrd hwl hlo
  clear ho hd hcd hD
  obtain ⟨t, y, k⟩ := Y
  have hn : Mine.dk.1.name = "law" := by decide +kernel
  rw [hn, Mine.law_at y k G.T.g] at hmg
  cases hmg
  clear hn G
  wrow_args hpre hlay hrd hwl hlo
  refine Mine.call_law w y k (by assumption) (by assumption) (by lia) fun s' h1 h2 h3 h4 => ?_
  exact Mine.good_of y k hg h1 h2 h3 h4
