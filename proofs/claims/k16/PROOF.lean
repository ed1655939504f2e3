import PyProof.Rows.All
import Wide.All
import OpenK.AllK
import Wide.FinOn
import HandS.ForMost
import HandS.ForExc
import HandS.Walk
import HandS.TupAny
import HandS.Defaults
import HandS.Comp
import HandS.Wide
import HandS.WideBits
import HandS.Text
import HandS.List
import HandS.SortInts
import PyProof.StrBlock2
import KE.KIntText
import HandS.Strs
import HandS.IsInst
import HandS.Star
import KE.KSortedM
import HandS.WordsDict
import HandS.SetFor
import HandS.Codes
import HandS.Replace
import HandS.ReplaceList
import HandS.ReplaceLit
import HandS.ReplaceDef
import HandS.Iter
import HandS.Property
import HandS.TryMany
import HandS.TryOnly
import HandS.ExcOwn
import HandS.Style
import HandS.Head0
import HandS.Head1
import HandS.Head2
import HandS.HeadEnd
import HandS.HeadHook1
import HandS.HeadHook2
import PySem.Challenge.RW_meansinprint_k16_fillers_refused
set_option Elab.async false
set_option linter.all false
set_option maxRecDepth 100000
set_option maxHeartbeats 4000000
namespace Sm
open PySem PySem.Spec PyProof.Rows L2

/-! ### plain values: lists, tuples, instances, dicts by what they hold; ref: an object that is still to be changed -/
inductive PV where
  | non
  | bl (b : Bool)
  | int (i : Int)
  | str (s : List Nat)
  | tup (xs : List PV)
  | wtp (xs : List PV)
  | lst (xs : List PV)
  | scr (xs : List PV)
  | ins (c : Nat) (xs : List PV)
  | dct (ks xs : List PV)
  | ref (n : Nat)

mutual
def pur : PV → Bool
  | .ref _ => false
  | .tup xs => purL xs
  | .wtp xs => purL xs
  | .lst xs => purL xs
  | .scr xs => purL xs
  | .ins _ xs => purL xs
  | .dct ks xs => purL ks && purL xs
  | _ => true
def purL : List PV → Bool
  | [] => true
  | x :: xs => pur x && purL xs
end

abbrev HP := List PV
/-- what an expression ends with: a value, an error of a class with its fields, or nothing that is known -/
inductive R (α : Type) where
  | ok (a : α) (h : HP)
  | ex (c : Nat) (f : List PV) (h : HP)
  | bad
abbrev En := List (Option PV)
abbrev M (α : Type) := HP → R α
abbrev ME (α : Type) := En → HP → R α

@[inline] def R.bind {α β : Type} (r : R α) (f : α → HP → R β) : R β := match r with
  | .ok a h => f a h
  | .ex c e h => .ex c e h
  | .bad => .bad

/-! ### the text's own classes by numbers: their names, their fields in the order in which __init__ stores them; the errors -/
def cname : Nat → Str
  | 0 => "Report"
  | _ => "Filler"
def fnames : Nat → List Str
  | 0 => ["scale", "many", "facts"]
  | _ => ["paper", "every", "now", "past", "future"]
def ename : Nat → Str
  | 0 => "BadScale"
  | 1 => "BadSize"
  | 2 => "BadPrint"
  | 3 => "BadKind"
  | 4 => "BadEnd"
  | 5 => "BadSum"
  | 6 => "BadMark"
  | 7 => "BadDigits"
  | 8 => "BadMost"
  | 9 => "BadNumber"
  | 10 => "BadReports"
  | 11 => "TooMany"
  | 12 => "Unlike"
  | 13 => "Full"
  | _ => "BadText"
def efld : Nat → Str
  | 2 => "fact"
  | 4 => "fact"
  | _ => "word"
/-- a key of a dict -/
def keyPV : Key → PV
  | .inl i => .int i
  | .inr x => .str x.cps.toList

/-- the part of the written text -/
def KT (K : PySem.W.Frag) (a : Addr) (vs : List V) : Prop :=
  ∃ (o : Obj) (its : Array Value) (n : Nat), K.lookup a = some o ∧ o.cls = .type "tuple" ∧ o.dict = none ∧ o.data = .seq its n ∧ its.size ≤ sizeLine ∧ Vals vs its.toList
def TupAt (K : PySem.W.Frag) (bs : List Addr) (H : Hp) (a : Addr) (vs : List V) : Prop := ((∃ o : Obj, H a = some (.frz o (.tup vs)) ∧ o.dict = none) ∧ a ∉ bs) ∨ KT K a vs

mutual
inductive RV (K : PySem.W.Frag) (mg : Str → Option Value) (bs : List Addr) (H : Hp) : PV → V → Prop
  | non : RV K mg bs H .non .non
  | bl (b : Bool) : RV K mg bs H (.bl b) (.bl b)
  | int (i : Int) : RV K mg bs H (.int i) (.int i)
  | str (s : List Nat) : RV K mg bs H (.str s) (.str ⟨s.toArray⟩)
  | tup {xs : List PV} {a : Addr} {vs : List V} : TupAt K bs H a vs → RVs K mg bs H xs vs → RV K mg bs H (.tup xs) (.ref a)
  | wtp {xs : List PV} {a : Addr} {vs : List V} : H a = some (.tup vs) → a ∉ bs → RVs K mg bs H xs vs → RV K mg bs H (.wtp xs) (.ref a)
  | lst {xs : List PV} {a : Addr} {vs : List V} : H a = some (.lst vs) → a ∉ bs → purL xs = true → RVs K mg bs H xs vs → RV K mg bs H (.lst xs) (.ref a)
  | scr {xs : List PV} {a : Addr} {o : Obj} {vs : List V} : H a = some (.frz o (.lst vs)) → a ∉ bs → purL xs = true → RVs K mg bs H xs vs → RV K mg bs H (.scr xs) (.ref a)
  | ins {c : Nat} {xs : List PV} {a C dx : Addr} {vs : List V} : mg (cname c) = some (.ref C) → H a = some (.ins C dx ((fnames c).zip vs)) → vs.length ≤ (fnames c).length → a ∉ bs → purL xs = true → RVs K mg bs H xs vs → RV K mg bs H (.ins c xs) (.ref a)
  | dK {ks xs : List PV} {a : Addr} {kvs : List (Key × V)} : H a = some (.dK kvs) → a ∉ bs → ks = kvs.map (fun p => keyPV p.1) → purL xs = true → RVs K mg bs H xs (kvs.map (·.2)) → RV K mg bs H (.dct ks xs) (.ref a)
  | dT {ks xs : List PV} {a : Addr} {kvs : List (List Key × V)} : H a = some (.dT kvs) → a ∉ bs → ks = kvs.map (fun p => PV.tup (p.1.map keyPV)) → purL xs = true → RVs K mg bs H xs (kvs.map (·.2)) → RV K mg bs H (.dct ks xs) (.ref a)
  | ref {n : Nat} {a : Addr} : bs[n]? = some a → RV K mg bs H (.ref n) (.ref a)
inductive RVs (K : PySem.W.Frag) (mg : Str → Option Value) (bs : List Addr) (H : Hp) : List PV → List V → Prop
  | nil : RVs K mg bs H [] []
  | cons {x : PV} {v : V} {xs : List PV} {vs : List V} : RV K mg bs H x v → RVs K mg bs H xs vs → RVs K mg bs H (x :: xs) (v :: vs)
end

/-- what stands, tracked and to be changed, at a -/
def RO (K : PySem.W.Frag) (mg : Str → Option Value) (bs : List Addr) (H : Hp) (o : PV) (a : Addr) : Prop := match o with
  | .lst xs => purL xs = true ∧ ∃ vs, H a = some (.lst vs) ∧ RVs K mg bs H xs vs
  | .ins c xs => purL xs = true ∧ ∃ C dx vs, mg (cname c) = some (.ref C) ∧ H a = some (.ins C dx ((fnames c).zip vs)) ∧ vs.length ≤ (fnames c).length ∧ RVs K mg bs H xs vs
  | .dct ks xs => purL xs = true ∧ ((∃ kvs : List (Key × V), H a = some (.dK kvs) ∧ ks = kvs.map (fun p => keyPV p.1) ∧ RVs K mg bs H xs (kvs.map (·.2))) ∨
      ∃ kvs : List (List Key × V), H a = some (.dT kvs) ∧ ks = kvs.map (fun p => PV.tup (p.1.map keyPV)) ∧ RVs K mg bs H xs (kvs.map (·.2)))
  | _ => False

structure Rep (K : PySem.W.Frag) (mg : Str → Option Value) (bs : List Addr) (h : HP) (H : Hp) : Prop where
  len : bs.length = h.length
  nd : bs.Nodup
  at_ : ∀ (n : Nat) (o : PV), h[n]? = some o → ∃ a, bs[n]? = some a ∧ RO K mg bs H o a

structure Ext (bs : List Addr) (H : Hp) (bs' : List Addr) (H' : Hp) : Prop where
  pre : bs <+: bs'
  keep : ∀ a o, H a = some o → a ∉ bs → H' a = some o
  new : ∀ a, a ∈ bs' → a ∈ bs ∨ H a = none

theorem Ext.refl (bs : List Addr) (H : Hp) : Ext bs H bs H := ⟨List.prefix_refl _, fun _ _ h _ => h, fun _ h => .inl h⟩
theorem Ext.trans {bs bs1 bs2 : List Addr} {H H1 H2 : Hp} (a : Ext bs H bs1 H1) (b : Ext bs1 H1 bs2 H2) : Ext bs H bs2 H2 := by
  refine ⟨a.pre.trans b.pre, fun x o h hn => ?_, fun x hx => ?_⟩
  · refine b.keep x o (a.keep x o h hn) fun hx => ?_
    rcases a.new x hx with q | q
    · exact hn q
    · rw [h] at q; cases q
  · rcases b.new x hx with q | q
    · exact a.new x q
    · by_cases hb : x ∈ bs
      · exact .inl hb
      · refine .inr ?_
        cases e : H x with
        | none => rfl
        | some o => rw [a.keep x o e hb] at q; cases q

section
variable {K : PySem.W.Frag} {mg : Str → Option Value} {bs bs' : List Addr} {H H' : Hp}
theorem Ext.rd {a : Addr} {u : HO} (e : Ext bs H bs' H') (h : Rd H a u) (hn : a ∉ bs) : Rd H' a u := by
  rcases h with h | ⟨o, h⟩
  · exact .inl (e.keep _ _ h hn)
  · exact .inr ⟨o, e.keep _ _ h hn⟩
theorem Ext.out {a : Addr} {u : HO} (e : Ext bs H bs' H') (h : Rd H a u) (hn : a ∉ bs) : a ∉ bs' := fun hx => by
  rcases e.new a hx with q | q
  · exact hn q
  · rcases h with h | ⟨o, h⟩
    · rw [h] at q; cases q
    · rw [h] at q; cases q
theorem Ext.tup {a : Addr} {vs : List V} (e : Ext bs H bs' H') (h : TupAt K bs H a vs) : TupAt K bs' H' a vs := by
  rcases h with ⟨⟨o, h, d⟩, hn⟩ | h
  · exact .inl ⟨⟨o, e.keep _ _ h hn, d⟩, e.out (.inr ⟨o, h⟩ : Rd _ _ (HO.tup vs)) hn⟩
  · exact .inr h
theorem Ext.at {n : Nat} {a : Addr} (e : Ext bs H bs' H') (h : bs[n]? = some a) : bs'[n]? = some a := by
  obtain ⟨t, rfl⟩ := e.pre
  rw [List.getElem?_append_left (List.getElem?_eq_some_iff.mp h).1]
  exact h
mutual
theorem RV.mono {x : PV} {v : V} (r : RV K mg bs H x v) (e : Ext bs H bs' H') : RV K mg bs' H' x v := match r with
  | .non => .non
  | .bl b => .bl b
  | .int i => .int i
  | .str s => .str s
  | .tup t rs => .tup (e.tup t) (RVs.mono rs e)
  | .wtp h hn rs => .wtp (e.keep _ _ h hn) (e.out (.inl h) hn) (RVs.mono rs e)
  | .lst h hn hp rs => .lst (e.keep _ _ h hn) (e.out (.inl h) hn) hp (RVs.mono rs e)
  | .scr h hn hp rs => .scr (e.keep _ _ h hn) (e.out (.inr ⟨_, h⟩ : Rd _ _ (HO.lst _)) hn) hp (RVs.mono rs e)
  | .ins m h l hn hp rs => .ins m (e.keep _ _ h hn) l (e.out (.inl h) hn) hp (RVs.mono rs e)
  | .dK h hn hk hp rs => .dK (e.keep _ _ h hn) (e.out (.inl h) hn) hk hp (RVs.mono rs e)
  | .dT h hn hk hp rs => .dT (e.keep _ _ h hn) (e.out (.inl h) hn) hk hp (RVs.mono rs e)
  | .ref h => .ref (e.at h)
theorem RVs.mono {xs : List PV} {vs : List V} (r : RVs K mg bs H xs vs) (e : Ext bs H bs' H') : RVs K mg bs' H' xs vs := match r with
  | .nil => .nil
  | .cons r rs => .cons (RV.mono r e) (RVs.mono rs e)
end
theorem RVs.length {xs : List PV} {vs : List V} (r : RVs K mg bs H xs vs) : xs.length = vs.length := match r with
  | .nil => rfl
  | .cons _ rs => congrArg (· + 1) (RVs.length rs)
theorem RVs.get {xs : List PV} {vs : List V} (r : RVs K mg bs H xs vs) {i : Nat} {x : PV} (h : xs[i]? = some x) : ∃ v, vs[i]? = some v ∧ RV K mg bs H x v := by
  induction i generalizing xs vs with
  | zero =>
    cases r with
    | nil => cases h
    | cons r rs => simp at h; subst h; exact ⟨_, rfl, r⟩
  | succ i ih =>
    cases r with
    | nil => simp at h
    | cons r rs => exact ih rs (by simpa using h)
theorem RVs.get' {xs : List PV} {vs : List V} (r : RVs K mg bs H xs vs) {i : Nat} {v : V} (h : vs[i]? = some v) : ∃ x, xs[i]? = some x ∧ RV K mg bs H x v := by
  induction i generalizing xs vs with
  | zero =>
    cases r with
    | nil => cases h
    | cons r rs => simp at h; subst h; exact ⟨_, rfl, r⟩
  | succ i ih =>
    cases r with
    | nil => simp at h
    | cons r rs => exact ih rs (by simpa using h)
theorem RVs.append {xs ys : List PV} {vs ws : List V} (r : RVs K mg bs H xs vs) (q : RVs K mg bs H ys ws) : RVs K mg bs H (xs ++ ys) (vs ++ ws) := match r with
  | .nil => q
  | .cons r rs => .cons r (RVs.append rs q)
theorem RVs.take {xs : List PV} {vs : List V} (r : RVs K mg bs H xs vs) (n : Nat) : RVs K mg bs H (xs.take n) (vs.take n) := by
  induction n generalizing xs vs with
  | zero => simpa using RVs.nil
  | succ n ih =>
    cases r with
    | nil => simpa using RVs.nil
    | cons r rs => simpa using RVs.cons r (ih rs)
theorem RVs.drop {xs : List PV} {vs : List V} (r : RVs K mg bs H xs vs) (n : Nat) : RVs K mg bs H (xs.drop n) (vs.drop n) := by
  induction n generalizing xs vs with
  | zero => simpa using r
  | succ n ih =>
    cases r with
    | nil => simpa using RVs.nil
    | cons r rs => simpa using ih rs
theorem RVs.set {xs : List PV} {vs : List V} (r : RVs K mg bs H xs vs) (i : Nat) {x : PV} {v : V} (q : RV K mg bs H x v) : RVs K mg bs H (xs.set i x) (vs.set i v) := by
  induction i generalizing xs vs with
  | zero =>
    cases r with
    | nil => exact .nil
    | cons r rs => exact .cons q rs
  | succ i ih =>
    cases r with
    | nil => exact .nil
    | cons r rs => exact .cons r (ih rs)
theorem RVs.erase {xs : List PV} {vs : List V} (r : RVs K mg bs H xs vs) (i : Nat) : RVs K mg bs H (xs.eraseIdx i) (vs.eraseIdx i) := by
  induction i generalizing xs vs with
  | zero =>
    cases r with
    | nil => exact .nil
    | cons r rs => exact rs
  | succ i ih =>
    cases r with
    | nil => exact .nil
    | cons r rs => exact .cons r (ih rs)
theorem RVs.rev {xs : List PV} {vs : List V} (r : RVs K mg bs H xs vs) : RVs K mg bs H xs.reverse vs.reverse := by
  induction xs generalizing vs with
  | nil => cases r; exact .nil
  | cons x xs ih =>
    cases r with
    | cons r rs =>
      rw [List.reverse_cons, List.reverse_cons]
      exact (ih rs).append (.cons r .nil)
theorem purL_append (xs ys : List PV) : purL (xs ++ ys) = (purL xs && purL ys) := by
  induction xs with
  | nil => rfl
  | cons x xs ih => rw [List.cons_append]; simp only [purL]; rw [ih, Bool.and_assoc]
theorem purL_iff {xs : List PV} : purL xs = true ↔ ∀ x ∈ xs, pur x = true := by
  induction xs with
  | nil => simp [purL]
  | cons x xs ih => simp [purL, ih]
theorem purL_take {xs : List PV} (h : purL xs = true) (n : Nat) : purL (xs.take n) = true := purL_iff.mpr fun x hx => purL_iff.mp h x (List.mem_of_mem_take hx)
theorem purL_drop {xs : List PV} (h : purL xs = true) (n : Nat) : purL (xs.drop n) = true := purL_iff.mpr fun x hx => purL_iff.mp h x (List.mem_of_mem_drop hx)
theorem purL_erase {xs : List PV} (h : purL xs = true) (n : Nat) : purL (xs.eraseIdx n) = true := purL_iff.mpr fun x hx => purL_iff.mp h x (List.mem_of_mem_eraseIdx hx)
theorem purL_set {xs : List PV} (h : purL xs = true) (n : Nat) {x : PV} (hx : pur x = true) : purL (xs.set n x) = true := purL_iff.mpr fun y hy => by
  rcases List.mem_or_eq_of_mem_set hy with q | q
  · exact purL_iff.mp h y q
  · rw [q]; exact hx
theorem purL_rev {xs : List PV} (h : purL xs = true) : purL xs.reverse = true := purL_iff.mpr fun x hx => purL_iff.mp h x (List.mem_reverse.mp hx)
theorem purL_get {xs : List PV} (h : purL xs = true) {i : Nat} {x : PV} (e : xs[i]? = some x) : pur x = true := purL_iff.mp h x (List.mem_of_getElem? e)

/-! ### a pur value does not lean on what is tracked, as long as its own things are not -/
mutual
theorem RV.less {x : PV} {v : V} (r : RV K mg bs H x v) (hp : pur x = true) (hs : ∀ a, a ∈ bs' → a ∈ bs) : RV K mg bs' H x v := match x, v, r with
  | _, _, .non => .non
  | _, _, .bl b => .bl b
  | _, _, .int i => .int i
  | _, _, .str s => .str s
  | _, _, .tup (a := a) (.inl ⟨h, hn⟩) rs => .tup (.inl ⟨h, fun q => hn (hs _ q)⟩) (RVs.less rs hp hs)
  | _, _, .tup (a := a) (.inr h) rs => .tup (.inr h) (RVs.less rs hp hs)
  | _, _, .wtp h hn rs => .wtp h (fun q => hn (hs _ q)) (RVs.less rs hp hs)
  | _, _, .lst h hn hq rs => .lst h (fun q => hn (hs _ q)) hq (RVs.less rs hq hs)
  | _, _, .scr h hn hq rs => .scr h (fun q => hn (hs _ q)) hq (RVs.less rs hq hs)
  | _, _, .ins m h l hn hq rs => .ins m h l (fun q => hn (hs _ q)) hq (RVs.less rs hq hs)
  | _, _, .dK h hn hk hq rs => .dK h (fun q => hn (hs _ q)) hk hq (RVs.less rs hq hs)
  | _, _, .dT h hn hk hq rs => .dT h (fun q => hn (hs _ q)) hk hq (RVs.less rs hq hs)
  | _, _, .ref h => nomatch (show false = true from hp)
theorem RVs.less {xs : List PV} {vs : List V} (r : RVs K mg bs H xs vs) (hp : purL xs = true) (hs : ∀ a, a ∈ bs' → a ∈ bs) : RVs K mg bs' H xs vs := match xs, vs, r with
  | _, _, .nil => .nil
  | _, _, .cons r rs => .cons (RV.less r (Bool.and_eq_true_iff.mp hp).1 hs) (RVs.less rs (Bool.and_eq_true_iff.mp hp).2 hs)
end
end
end Sm

namespace Sm
open PySem PySem.Spec PyProof.Rows L2

section
variable {K : PySem.W.Frag} {mg : Str → Option Value} {bs bs' bs1 : List Addr} {H H' H1 : Hp} {h h' : HP}

/-! ### what is tracked -/
theorem RO.some {o : PV} {a : Addr} (r : RO K mg bs H o a) : ∃ u, H a = some u := by
  cases o with
  | lst xs => obtain ⟨_, vs, e, _⟩ := r; exact ⟨_, e⟩
  | ins c xs => obtain ⟨_, C, dx, vs, _, e, _⟩ := r; exact ⟨_, e⟩
  | dct ks xs =>
    obtain ⟨_, r⟩ := r
    rcases r with ⟨kvs, e, _⟩ | ⟨kvs, e, _⟩
    · exact ⟨_, e⟩
    · exact ⟨_, e⟩
  | _ => exact r.elim
theorem Rep.mem (r : Rep K mg bs h H) {a : Addr} (ha : a ∈ bs) : ∃ u, H a = some u := by
  obtain ⟨n, hn⟩ := List.getElem?_of_mem ha
  have hl : n < h.length := by rw [← r.len]; exact (List.getElem?_eq_some_iff.mp hn).1
  obtain ⟨b, hb, ro⟩ := r.at_ n h[n] (by simp [hl])
  rw [hn] at hb; cases hb
  exact ro.some
theorem Rep.free (r : Rep K mg bs h H) {p : Addr} (hp : H p = none) : p ∉ bs := fun q => by
  obtain ⟨u, e⟩ := r.mem q
  rw [e] at hp; cases hp
theorem Ext.fresh {p : Addr} {o : HO} (hp : H p = none) : Ext bs H bs (upd H p o) :=
  ⟨List.prefix_refl _, fun a u e _ => by rw [upd_ne (ne_of_none e hp)]; exact e, fun _ q => .inl q⟩
theorem Ext.push {p : Addr} {o : HO} (hp : H p = none) : Ext bs H (bs ++ [p]) (upd H p o) :=
  ⟨List.prefix_append _ _, fun a u e _ => by rw [upd_ne (ne_of_none e hp)]; exact e, fun a q => by
    rcases List.mem_append.mp q with q | q
    · exact .inl q
    · have : a = p := by simpa using q
      subst this; exact .inr hp⟩
theorem Ext.write {a : Addr} {o : HO} (ha : a ∈ bs) : Ext bs H bs (upd H a o) :=
  ⟨List.prefix_refl _, fun b u e hb => by
    have ne : b ≠ a := fun q => hb (by rw [q]; exact ha)
    rw [upd_ne ne]; exact e, fun _ q => .inl q⟩
theorem RO.mono {o : PV} {a : Addr} (r : RO K mg bs H o a) (e : Ext bs H bs' H') (he : H' a = H a) : RO K mg bs' H' o a := by
  cases o with
  | lst xs => obtain ⟨p, vs, q, rs⟩ := r; exact ⟨p, vs, he.trans q, rs.mono e⟩
  | ins c xs => obtain ⟨p, C, dx, vs, m, q, l, rs⟩ := r; exact ⟨p, C, dx, vs, m, he.trans q, l, rs.mono e⟩
  | dct ks xs =>
    obtain ⟨p, r⟩ := r
    refine ⟨p, ?_⟩
    rcases r with ⟨kvs, q, k, rs⟩ | ⟨kvs, q, k, rs⟩
    · exact .inl ⟨kvs, he.trans q, k, rs.mono e⟩
    · exact .inr ⟨kvs, he.trans q, k, rs.mono e⟩
  | _ => exact r.elim
/-- something new is laid that isn't tracked -/
theorem Rep.fresh (r : Rep K mg bs h H) {p : Addr} {o : HO} (hp : H p = none) : Rep K mg bs h (upd H p o) :=
  ⟨r.len, r.nd, fun n u e => by
    obtain ⟨a, ha, ro⟩ := r.at_ n u e
    obtain ⟨w, hw⟩ := ro.some
    exact ⟨a, ha, ro.mono (Ext.fresh hp) (upd_ne (ne_of_none hw hp))⟩⟩
theorem Rep.push (r : Rep K mg bs h H) {p : Addr} {o : HO} {x : PV} (hp : H p = none) (ro : RO K mg (bs ++ [p]) (upd H p o) x p) : Rep K mg (bs ++ [p]) (h ++ [x]) (upd H p o) := by
  refine ⟨by simp [r.len], ?_, fun n u e => ?_⟩
  · rw [List.nodup_append]
    exact ⟨r.nd, by simp, fun a ha b hb => by
      have : b = p := by simpa using hb
      subst this
      intro q; subst q; exact r.free hp ha⟩
  · by_cases hn : n < h.length
    · rw [List.getElem?_append_left hn] at e
      obtain ⟨a, ha, ra⟩ := r.at_ n u e
      obtain ⟨w, hw⟩ := ra.some
      exact ⟨a, (Ext.push (o := o) hp).at ha, ra.mono (Ext.push hp) (upd_ne (ne_of_none hw hp))⟩
    · rw [List.getElem?_append_right (by omega)] at e
      have h0 : n - h.length = 0 := by
        cases q : n - h.length with
        | zero => rfl
        | succ k => rw [q] at e; simp at e
      rw [h0] at e
      have : x = u := by simpa using e
      subst this
      have hn' : n = bs.length := by rw [r.len]; omega
      exact ⟨p, by rw [hn']; simp, ro⟩
theorem Rep.set (r : Rep K mg bs h H) {n : Nat} {a : Addr} {o : HO} {x : PV} (ha : bs[n]? = some a) (ro : RO K mg bs (upd H a o) x a) : Rep K mg bs (h.set n x) (upd H a o) := by
  have hm : a ∈ bs := List.mem_of_getElem? ha
  refine ⟨by simp [r.len], r.nd, fun k u e => ?_⟩
  by_cases hk : k = n
  · subst hk
    have hl : k < h.length := by rw [← r.len]; exact (List.getElem?_eq_some_iff.mp ha).1
    rw [List.getElem?_set_self hl] at e
    cases e
    exact ⟨a, ha, ro⟩
  · rw [List.getElem?_set_ne (Ne.symm hk)] at e
    obtain ⟨b, hb, rb⟩ := r.at_ k u e
    have ne : b ≠ a := fun q => by
      subst q
      have h1 := (List.getElem?_eq_some_iff.mp hb)
      have h2 := (List.getElem?_eq_some_iff.mp ha)
      exact hk ((List.getElem_inj (xs := bs) (h₀ := h1.1) (h₁ := h2.1) r.nd).mp (h1.2.trans h2.2.symm))
    exact ⟨b, hb, rb.mono (Ext.write hm) (upd_ne ne)⟩

/-! ### ends -/
def ExR (K : PySem.W.Frag) (mg : Str → Option Value) (bs : List Addr) (H : Hp) (c : Nat) (f : List PV) (cls : Value) (d : Option Addr) : Prop :=
  (∃ C, mg (ename c) = some (.ref C) ∧ cls = .ref C) ∧ match f with
    | [] => True
    | [x] => pur x = true ∧ ∃ dd v, d = some dd ∧ H dd = some (.xd [(efld c, v)]) ∧ dd ∉ bs ∧ RV K mg bs H x v
    | _ => False
def Out {α β : Type} (K : PySem.W.Frag) (mg : Str → Option Value) (RA : List Addr → Hp → α → β → Prop) (W : XK) (bs : List Addr) (H : Hp) (r : R α) (Q : β → Hp → Prop) : Prop := match r with
  | .ok x h' => ∀ bs' H' v, Ext bs H bs' H' → Rep K mg bs' h' H' → RA bs' H' x v → Q v H'
  | .ex c f h' => ∀ bs' H' cls d, Ext bs H bs' H' → Rep K mg bs' h' H' → ExR K mg bs' H' c f cls d → W cls d H'
  | .bad => False
theorem Out.mono {α β : Type} {RA : List Addr → Hp → α → β → Prop} {W : XK} {r : R α} {Q : β → Hp → Prop} (o : Out K mg RA W bs H r Q) (e : Ext bs H bs' H') : Out K mg RA W bs' H' r Q := by
  cases r with
  | ok x h' => exact fun b1 H1 v e1 => o b1 H1 v (e.trans e1)
  | ex c f h' => exact fun b1 H1 cls d e1 => o b1 H1 cls d (e.trans e1)
  | bad => exact o
theorem Out.bind {α β γ δ : Type} {RA : List Addr → Hp → α → β → Prop} {RB : List Addr → Hp → γ → δ → Prop} {W : XK} {r : R α} {f : α → HP → R γ} {Q : δ → Hp → Prop} {P : β → Hp → Prop}
    (o : Out K mg RB W bs H (r.bind f) Q) (hP : ∀ v H1, (∃ bs1 h1 x, Ext bs H bs1 H1 ∧ Rep K mg bs1 h1 H1 ∧ RA bs1 H1 x v ∧ Out K mg RB W bs1 H1 (f x h1) Q) → P v H1) : Out K mg RA W bs H r P := by
  cases r with
  | ok x h' => exact fun b1 H1 v e1 r1 a1 => hP v H1 ⟨b1, h', x, e1, r1, a1, Out.mono o e1⟩
  | ex c f h' => exact o
  | bad => exact o
/-- the value stands as it is -/
theorem Out.here {α β : Type} {RA : List Addr → Hp → α → β → Prop} {W : XK} {x : α} {v : β} {Q : β → Hp → Prop} (o : Out K mg RA W bs H (.ok x h) Q) (r : Rep K mg bs h H) (a : RA bs H x v) : Q v H := o bs H v (Ext.refl _ _) r a

def EnvR (K : PySem.W.Frag) (mg : Str → Option Value) (bs : List Addr) (H : Hp) (env : En) (σ : L2.St) : Prop :=
  env.length = σ.length ∧ ∀ (i : Nat) (x : PV), env[i]? = some (some x) → ∃ v, σ[i]? = some (some v) ∧ RV K mg bs H x v
theorem EnvR.mono {env : En} {σ : L2.St} (e : EnvR K mg bs H env σ) (x : Ext bs H bs' H') : EnvR K mg bs' H' env σ :=
  ⟨e.1, fun i y hy => by obtain ⟨v, hv, r⟩ := e.2 i y hy; exact ⟨v, hv, r.mono x⟩⟩
theorem EnvR.set {env : En} {σ : L2.St} (e : EnvR K mg bs H env σ) (i : Nat) {x : PV} {v : V} (r : RV K mg bs H x v) : EnvR K mg bs H (env.set i (some x)) (σ.set i (some v)) := by
  refine ⟨by simp [e.1], fun j y hy => ?_⟩
  by_cases hj : j = i
  · subst hj
    by_cases hl : j < env.length
    · rw [List.getElem?_set_self hl] at hy
      cases hy
      exact ⟨v, by rw [List.getElem?_set_self (by rw [← e.1]; exact hl)], r⟩
    · rw [List.getElem?_eq_none (by simpa using hl)] at hy
      cases hy
  · rw [List.getElem?_set_ne (Ne.symm hj)] at hy ⊢
    exact e.2 j y hy
theorem EnvR.wipe1 {env : En} {σ : L2.St} (e : EnvR K mg bs H env σ) (i : Nat) : EnvR K mg bs H (env.set i none) (σ.set i none) := by
  refine ⟨by simp [e.1], fun j y hy => ?_⟩
  by_cases hj : j = i
  · subst hj
    by_cases hl : j < env.length
    · rw [List.getElem?_set_self hl] at hy
      cases hy
    · rw [List.getElem?_eq_none (by simpa using hl)] at hy
      cases hy
  · rw [List.getElem?_set_ne (Ne.symm hj)] at hy ⊢
    exact e.2 j y hy

def tG {α β : Type} (K : PySem.W.Frag) (mg : Str → Option Value) (RA : List Addr → Hp → α → β → Prop) (W : WX) (m : ME α) : L2.St → Hp → (β → Hp → Prop) → Prop := fun σ H Q =>
  ∃ env bs h, EnvR K mg bs H env σ ∧ Rep K mg bs h H ∧ Out K mg RA (fun c d H' => W c d σ H') bs H (m env h) Q
abbrev tM (K : PySem.W.Frag) (mg : Str → Option Value) (W : WX) (m : ME PV) : TE := tG K mg (RV K mg) W m
abbrev tMT (K : PySem.W.Frag) (mg : Str → Option Value) (W : WX) (m : ME Bool) : TT := tG K mg (fun _ _ b c => b = c) W m
abbrev tMA (K : PySem.W.Frag) (mg : Str → Option Value) (W : WX) (m : ME (List PV)) : TA := tG K mg (RVs K mg) W m
end

section
variable {X : Cx} {W : WX}
theorem PE.imp {e : Expr} {t t' : TE} (p : PE X e t) (h : ∀ σ H Q, t' σ H Q → t σ H Q) : PE X e t' := ⟨fun pins s σ H Q I q => p.run pins s σ H Q I (h σ H Q q)⟩
theorem PT.imp {e : Expr} {t t' : TT} (p : PT X e t) (h : ∀ σ H Q, t' σ H Q → t σ H Q) : PT X e t' := ⟨fun pins s σ H Q I q => p.run pins s σ H Q I (h σ H Q q)⟩
theorem PW.imp {e : Expr} {t t' : TT} (p : PW X e t) (h : ∀ σ H Q, t' σ H Q → t σ H Q) : PW X e t' := ⟨fun wh pins s σ H Q I q => p.run wh pins s σ H Q I (h σ H Q q)⟩
theorem PA.imp {e : List Expr} {t t' : TA} (p : PA X e t) (h : ∀ σ H Q, t' σ H Q → t σ H Q) : PA X e t' := ⟨fun pos pins s σ H Q I q => p.run pos pins s σ H Q I (h σ H Q q)⟩
theorem PS.imp {e : Stmt} {t t' : TS} (p : PS X e t) (h : ∀ D σ H, t' D σ H → t D σ H) : PS X e t' := ⟨fun pins s σ H D I q => p.run pins s σ H D I (h D σ H q)⟩
theorem PSs.imp {e : List Stmt} {t t' : TS} (p : PSs X e t) (h : ∀ D σ H, t' D σ H → t D σ H) : PSs X e t' := ⟨fun pins s σ H D I q => p.run pins s σ H D I (h D σ H q)⟩

/-! ### the judgements: a piece of the text is what a plain function says -/
abbrev EM (X : Cx) (W : WX) (e : Expr) (m : ME PV) : Prop := PE X e (tM X.K X.mg W m)
abbrev TM (X : Cx) (W : WX) (e : Expr) (m : ME Bool) : Prop := PT X e (tMT X.K X.mg W m)
abbrev WM (X : Cx) (W : WX) (e : Expr) (m : ME Bool) : Prop := PW X e (tMT X.K X.mg W m)
abbrev AM (X : Cx) (W : WX) (e : List Expr) (m : ME (List PV)) : Prop := PA X e (tMA X.K X.mg W m)

@[inline] def var (i : Nat) : ME PV := fun env h => match env[i]? with
  | some (some v) => .ok v h
  | _ => .bad
@[inline] def cst (v : PV) : ME PV := fun _ h => .ok v h
def bad {α : Type} : ME α := fun _ _ => .bad
theorem em_bad {e : Expr} : EM X W e bad := ⟨fun _ _ _ _ _ _ ⟨_, _, _, _, _, o⟩ => o.elim⟩
theorem tm_bad {e : Expr} : TM X W e bad := ⟨fun _ _ _ _ _ _ ⟨_, _, _, _, _, o⟩ => o.elim⟩
theorem em_var {i : Nat} {e : Expr} (p : PE X e (tVar i)) : EM X W e (var i) := PE.imp p fun σ H Q ⟨env, bs, h, er, rp, o⟩ => by
  unfold var at o
  cases q : env[i]? with
  | none => rw [q] at o; exact o.elim
  | some y =>
    cases y with
    | none => rw [q] at o; exact o.elim
    | some v =>
      rw [q] at o
      obtain ⟨w, hw, r⟩ := er.2 i v q
      exact ⟨w, hw, o.here rp r⟩
/-- a value that is known wherever one stands -/
theorem em_cst {e : Expr} {x : PV} {v : V} (p : PE X e (tC v)) (r : ∀ bs H, RV X.K X.mg bs H x v) : EM X W e (cst x) := PE.imp p fun σ H Q ⟨env, bs, h, er, rp, o⟩ => o.here rp (r bs H)
theorem em_int {i j pos} : EM X W (.Constant (.int i) j pos) (cst (.int i)) := em_cst pe_int fun _ _ => .int i
theorem em_non {j pos} : EM X W (.Constant .none j pos) (cst .non) := em_cst pe_non fun _ _ => .non
theorem em_bl {b j pos} : EM X W (.Constant (.bool b) j pos) (cst (.bl b)) := em_cst pe_bl fun _ _ => .bl b
theorem em_str {x : Str} {j pos} : EM X W (.Constant (.str x) j pos) (cst (.str x.cps.toList)) := em_cst pe_str fun bs H => by
  have h := RV.str (K := X.K) (mg := X.mg) (bs := bs) (H := H) x.cps.toList
  simpa using h

/-! ### two values, one operation -/
@[inline] def bin (ma mb : ME PV) (f : PV → PV → M PV) : ME PV := fun env h => (ma env h).bind fun x h1 => (mb env h1).bind fun y h2 => f x y h2
@[inline] def un (ma : ME PV) (f : PV → M PV) : ME PV := fun env h => (ma env h).bind fun x h1 => f x h1
/-- the reading r of two values follows from what f says of them -/
def Sim2 (X : Cx) (r : R2) (f : PV → PV → M PV) : Prop := ∀ (W : XK) (bs : List Addr) (h : HP) (H : Hp) (x y : PV) (v w : V) (Q : VK), Rep X.K X.mg bs h H → RV X.K X.mg bs H x v → RV X.K X.mg bs H y w → Out X.K X.mg (RV X.K X.mg) W bs H (f x y h) Q → r v w H Q
def Sim1 (X : Cx) (r : V → Hp → VK → Prop) (f : PV → M PV) : Prop := ∀ (W : XK) (bs : List Addr) (h : HP) (H : Hp) (x : PV) (v : V) (Q : VK), Rep X.K X.mg bs h H → RV X.K X.mg bs H x v → Out X.K X.mg (RV X.K X.mg) W bs H (f x h) Q → r v H Q
def SimC (X : Cx) (r : List V → Hp → VK → Prop) (f : List PV → M PV) : Prop := ∀ (W : XK) (bs : List Addr) (h : HP) (H : Hp) (xs : List PV) (vs : List V) (Q : VK), Rep X.K X.mg bs h H → RVs X.K X.mg bs H xs vs → Out X.K X.mg (RV X.K X.mg) W bs H (f xs h) Q → r vs H Q
def SimB (X : Cx) (r : V → List V → Hp → VK → Prop) (f : PV → List PV → M PV) : Prop := ∀ (W : XK) (bs : List Addr) (h : HP) (H : Hp) (x : PV) (v : V) (xs : List PV) (vs : List V) (Q : VK), Rep X.K X.mg bs h H → RV X.K X.mg bs H x v → RVs X.K X.mg bs H xs vs → Out X.K X.mg (RV X.K X.mg) W bs H (f x xs h) Q → r v vs H Q
section
variable {a b c : Expr} {ma mb mc : ME PV} {f f' : PV → PV → M PV} {r r' : R2}
theorem sim_tOp (hr : Sim2 X r f) {σ : L2.St} {H : Hp} {Q : VK} (o : tM X.K X.mg W (bin ma mb f) σ H Q) : tOp r (tM X.K X.mg W ma) (tM X.K X.mg W mb) σ H Q := by
  obtain ⟨env, bs, h, er, rp, o⟩ := o
  refine ⟨env, bs, h, er, rp, Out.bind o ?_⟩
  rintro v H1 ⟨bs1, h1, x, e1, rp1, rx, o1⟩
  refine ⟨env, bs1, h1, er.mono e1, rp1, Out.bind o1 ?_⟩
  rintro w H2 ⟨bs2, h2, y, e2, rp2, ry, o2⟩
  exact hr _ bs2 h2 H2 x y v w Q rp2 (rx.mono e2) ry o2
theorem em_op {op : Operator} {pos : Pos} (ho : OpR X (binaryOp op) r) (hr : Sim2 X r f) (ha : EM X W a ma) (hb : EM X W b mb) : EM X W (.BinOp a op b pos) (bin ma mb f) := PE.imp (pe_op ho ha hb) fun _ _ _ => sim_tOp hr
theorem em_cmp {op : CmpOp} {pos : Pos} (ho : OpR X (compareOp op) r) (hr : Sim2 X r f) (ha : EM X W a ma) (hb : EM X W b mb) (hm : behindInMarks op b = false) : EM X W (.Compare a [op] [b] pos) (bin ma mb f) := PE.imp (pe_cmpR ho ha hb hm) fun _ _ _ => sim_tOp hr
theorem em_un {op : UnaryOp} {pos : Pos} {r : V → Hp → VK → Prop} {f : PV → M PV} (ho : UnR X (unaryOp op) r) (hr : Sim1 X r f) (ha : EM X W a ma) : EM X W (.UnaryOp op a pos) (un ma f) := PE.imp (pe_un ho ha) fun σ H Q ⟨env, bs, h, er, rp, o⟩ => by
  refine ⟨env, bs, h, er, rp, Out.bind o ?_⟩
  rintro v H1 ⟨bs1, h1, x, e1, rp1, rx, o1⟩
  exact hr _ bs1 h1 H1 x v Q rp1 rx o1
theorem em_ix {pos : Pos} (ho : IxR X r) (hr : Sim2 X r f) (ha : EM X W a ma) (hb : EM X W b mb) (hs : PlainIx b) : EM X W (.Subscript a b pos) (bin ma mb f) := PE.imp (pe_ix ho ha hb hs) fun _ _ _ => sim_tOp hr
end

/-! ### truth -/
@[inline] def isB : PV → M Bool := fun x h => match x with
  | .bl b => .ok b h
  | _ => .bad
@[inline] def tst (m : ME PV) : ME Bool := fun env h => (m env h).bind isB
@[inline] def bV (m : ME Bool) : ME PV := fun env h => (m env h).bind fun b h1 => .ok (.bl b) h1
theorem sim_tB {m : ME PV} {σ : L2.St} {H : Hp} {Q : Bool → Hp → Prop} (o : tMT X.K X.mg W (tst m) σ H Q) : tM X.K X.mg W m σ H fun x H1 => ∃ c, x = .bl c ∧ Q c H1 := by
  obtain ⟨env, bs, h, er, rp, o⟩ := o
  refine ⟨env, bs, h, er, rp, Out.bind o ?_⟩
  rintro v H1 ⟨bs1, h1, x, e1, rp1, rx, o1⟩
  cases rx with
  | bl b => exact ⟨b, rfl, o1.here rp1 rfl⟩
  | _ => exact o1.elim
section
variable {a b c : Expr} {ma mb mc : ME PV} {ta tb : ME Bool} {f f' : PV → PV → M PV} {r r' : R2} {rest : List Expr} {pos : Pos}
theorem tm_val (h : EM X W a ma) (he : ∀ whole, isTrue a X.env whole = (do let v ← whole; standAt a.pos; holding [v] (truthy v)) := by intro _; rfl) : TM X W a (tst ma) := PT.imp (pt_val h he) fun _ _ _ => sim_tB
theorem tm_cmp {op : CmpOp} (ho : OpR X (compareOp op) r) (hr : Sim2 X r f) (ha : EM X W a ma) (hb : EM X W b mb) (hm : behindInMarks op b = false) : TM X W (.Compare a [op] [b] pos) (tst (bin ma mb f)) :=
  PT.imp (pt_cmpR ho ha hb hm) fun σ H Q o => sim_tOp hr (sim_tB o)
@[inline] def andT (ta tb : ME Bool) : ME Bool := fun env h => (ta env h).bind fun b h1 => match b with
  | true => tb env h1
  | false => .ok false h1
@[inline] def orT (ta tb : ME Bool) : ME Bool := fun env h => (ta env h).bind fun b h1 => match b with
  | true => .ok true h1
  | false => tb env h1
@[inline] def notT (ta : ME Bool) : ME Bool := fun env h => (ta env h).bind fun b h1 => .ok (!b) h1
@[inline] def iteT {α : Type} (t : ME Bool) (ma mb : ME α) : ME α := fun env h => (t env h).bind fun b h1 => match b with
  | true => ma env h1
  | false => mb env h1
theorem sim_if {α β : Type} {RA : List Addr → Hp → α → β → Prop} {t : ME Bool} {ma mb : ME α} {σ : L2.St} {H : Hp} {Q : β → Hp → Prop} (o : tG X.K X.mg RA W (iteT t ma mb) σ H Q) :
    tMT X.K X.mg W t σ H fun c H1 => if c = true then tG X.K X.mg RA W ma σ H1 Q else tG X.K X.mg RA W mb σ H1 Q := by
  obtain ⟨env, bs, h, er, rp, o⟩ := o
  refine ⟨env, bs, h, er, rp, Out.bind o ?_⟩
  rintro v H1 ⟨bs1, h1, x, e1, rp1, rx, o1⟩
  cases rx
  cases v with
  | true => rw [if_pos rfl]; exact ⟨env, bs1, h1, er.mono e1, rp1, o1⟩
  | false => rw [if_neg Bool.false_ne_true]; exact ⟨env, bs1, h1, er.mono e1, rp1, o1⟩
theorem wm_and1 (ha : TM X W a ta) : WM X W (.BoolOp .And [a] pos) ta := pw_and1 ha
theorem wm_or1 (ha : TM X W a ta) : WM X W (.BoolOp .Or [a] pos) ta := pw_or1 ha
theorem wm_and (ha : TM X W a ta) (hb : WM X W (.BoolOp .And (b :: rest) pos) tb) : WM X W (.BoolOp .And (a :: b :: rest) pos) (andT ta tb) := PW.imp (pw_and ha hb) fun σ H Q ⟨env, bs, h, er, rp, o⟩ => by
  refine ⟨env, bs, h, er, rp, Out.bind o ?_⟩
  rintro v H1 ⟨bs1, h1, x, e1, rp1, rx, o1⟩
  cases rx
  cases v with
  | true => rw [if_pos rfl]; exact ⟨env, bs1, h1, er.mono e1, rp1, o1⟩
  | false => rw [if_neg Bool.false_ne_true]; exact o1.here rp1 rfl
theorem wm_or (ha : TM X W a ta) (hb : WM X W (.BoolOp .Or (b :: rest) pos) tb) : WM X W (.BoolOp .Or (a :: b :: rest) pos) (orT ta tb) := PW.imp (pw_or ha hb) fun σ H Q ⟨env, bs, h, er, rp, o⟩ => by
  refine ⟨env, bs, h, er, rp, Out.bind o ?_⟩
  rintro v H1 ⟨bs1, h1, x, e1, rp1, rx, o1⟩
  cases rx
  cases v with
  | true => rw [if_pos rfl]; exact o1.here rp1 rfl
  | false => rw [if_neg Bool.false_ne_true]; exact ⟨env, bs1, h1, er.mono e1, rp1, o1⟩
theorem WM.tm {e : Expr} {t : ME Bool} (h : WM X W e t) : TM X W e t := h.pt
theorem tm_not (ha : TM X W a ta) : TM X W (.UnaryOp .Not a pos) (notT ta) := PT.imp (pt_not ha) fun σ H Q ⟨env, bs, h, er, rp, o⟩ => by
  refine ⟨env, bs, h, er, rp, Out.bind o ?_⟩
  rintro v H1 ⟨bs1, h1, x, e1, rp1, rx, o1⟩
  cases rx
  exact o1.here rp1 rfl
theorem em_ifExp (hc : TM X W c tb) (ha : EM X W a ma) (hb : EM X W b mb) : EM X W (.IfExp c a b pos) (iteT tb ma mb) := PE.imp (pe_ifExp hc ha hb) fun σ H Q o => sim_if (X := X) (W := W) o
/-- and, or, not of bools as values -/
@[inline] def andV (ma mb : ME PV) : ME PV := fun env h => (ma env h).bind fun x h1 => match x with
  | .bl true => mb env h1
  | .bl false => .ok (.bl false) h1
  | _ => .bad
@[inline] def orV (ma mb : ME PV) : ME PV := fun env h => (ma env h).bind fun x h1 => match x with
  | .bl true => .ok (.bl true) h1
  | .bl false => mb env h1
  | _ => .bad
@[inline] def notV (ma : ME PV) : ME PV := fun env h => (ma env h).bind fun x h1 => match x with
  | .bl b => .ok (.bl (!b)) h1
  | _ => .bad
theorem em_one {op : BoolOp} (h : EM X W a ma) : EM X W (.BoolOp op [a] pos) ma := pe_one h
theorem em_and (ha : EM X W a ma) (hb : EM X W (.BoolOp .And (b :: rest) pos) mb) : EM X W (.BoolOp .And (a :: b :: rest) pos) (andV ma mb) := PE.imp (pe_and ha hb) fun σ H Q ⟨env, bs, h, er, rp, o⟩ => by
  refine ⟨env, bs, h, er, rp, Out.bind o ?_⟩
  rintro v H1 ⟨bs1, h1, x, e1, rp1, rx, o1⟩
  cases rx with
  | bl d =>
    refine ⟨d, rfl, ?_⟩
    cases d with
    | true => rw [if_pos rfl]; exact ⟨env, bs1, h1, er.mono e1, rp1, o1⟩
    | false => rw [if_neg Bool.false_ne_true]; exact o1.here rp1 (.bl _)
  | _ => exact o1.elim
theorem em_or (ha : EM X W a ma) (hb : EM X W (.BoolOp .Or (b :: rest) pos) mb) : EM X W (.BoolOp .Or (a :: b :: rest) pos) (orV ma mb) := PE.imp (pe_or ha hb) fun σ H Q ⟨env, bs, h, er, rp, o⟩ => by
  refine ⟨env, bs, h, er, rp, Out.bind o ?_⟩
  rintro v H1 ⟨bs1, h1, x, e1, rp1, rx, o1⟩
  cases rx with
  | bl d =>
    refine ⟨d, rfl, ?_⟩
    cases d with
    | true => rw [if_pos rfl]; exact o1.here rp1 (.bl _)
    | false => rw [if_neg Bool.false_ne_true]; exact ⟨env, bs1, h1, er.mono e1, rp1, o1⟩
  | _ => exact o1.elim
theorem em_not (ha : EM X W a ma) : EM X W (.UnaryOp .Not a pos) (notV ma) := PE.imp (pe_not ha) fun σ H Q ⟨env, bs, h, er, rp, o⟩ => by
  refine ⟨env, bs, h, er, rp, Out.bind o ?_⟩
  rintro v H1 ⟨bs1, h1, x, e1, rp1, rx, o1⟩
  cases rx with
  | bl d => exact ⟨d, rfl, o1.here rp1 (.bl _)⟩
  | _ => exact o1.elim
/-- a < b < c -/
@[inline] def chn (ma mb mc : ME PV) (f f' : PV → PV → M PV) : ME PV := fun env h => (ma env h).bind fun x h1 => (mb env h1).bind fun y h2 => (f x y h2).bind fun z h3 => match z with
  | .bl true => (mc env h3).bind fun w h4 => f' y w h4
  | .bl false => .ok (.bl false) h3
  | _ => .bad
end

/-! ### arguments -/
@[inline] def aNil : ME (List PV) := fun _ h => .ok [] h
@[inline] def aCons (ma : ME PV) (mr : ME (List PV)) : ME (List PV) := fun env h => (ma env h).bind fun x h1 => (mr env h1).bind fun xs h2 => .ok (x :: xs) h2
section
variable {e : Expr} {es : List Expr} {m : ME PV} {ms : ME (List PV)}
theorem am_nil : AM X W [] aNil := PA.imp pa_nil fun σ H Q ⟨env, bs, h, er, rp, o⟩ => o.here rp .nil
theorem am_cons (ha : EM X W e m) (hr : AM X W es ms) (hs : starEach (e :: es) X.env = (false, eval e X.env) :: starEach es X.env := by rfl) : AM X W (e :: es) (aCons m ms) := PA.imp (pa_cons ha hr hs) fun σ H Q ⟨env, bs, h, er, rp, o⟩ => by
  refine ⟨env, bs, h, er, rp, Out.bind o ?_⟩
  rintro v H1 ⟨bs1, h1, x, e1, rp1, rx, o1⟩
  refine ⟨env, bs1, h1, er.mono e1, rp1, Out.bind o1 ?_⟩
  rintro vs H2 ⟨bs2, h2, xs, e2, rp2, rxs, o2⟩
  exact o2.here rp2 (.cons (rx.mono e2) rxs)
/-- arguments, then an operation -/
@[inline] def app (ms : ME (List PV)) (f : List PV → M PV) : ME PV := fun env h => (ms env h).bind f
theorem sim_app {r : List V → Hp → VK → Prop} {f : List PV → M PV} (hr : SimC X r f) {σ : L2.St} {H : Hp} {Q : VK} (o : tM X.K X.mg W (app ms f) σ H Q) : tMA X.K X.mg W ms σ H fun vs H1 => r vs H1 Q := by
  obtain ⟨env, bs, h, er, rp, o⟩ := o
  refine ⟨env, bs, h, er, rp, Out.bind o ?_⟩
  rintro v H1 ⟨bs1, h1, x, e1, rp1, rx, o1⟩
  exact hr _ bs1 h1 H1 x v Q rp1 rx o1
end
end
end Sm

namespace Sm
open PySem PySem.Spec PyProof.Rows L2

/-! ### statements -/
inductive S where
  | nx (env : En) (h : HP)
  | rt (v : PV) (h : HP)
  | bk (env : En) (h : HP)
  | ct (env : En) (h : HP)
  | ex (c : Nat) (f : List PV) (env : En) (h : HP)
  | bad
abbrev MS := En → HP → S
def OutS (K : PySem.W.Frag) (mg : Str → Option Value) (W : WX) (bs : List Addr) (H : Hp) (s : S) (D : Ends) : Prop := match s with
  | .nx env h' => ∀ bs' H' σ', Ext bs H bs' H' → Rep K mg bs' h' H' → EnvR K mg bs' H' env σ' → D.nx σ' H'
  | .rt v h' => ∀ bs' H' w, Ext bs H bs' H' → Rep K mg bs' h' H' → RV K mg bs' H' v w → D.rt w H'
  | .bk env h' => ∀ bs' H' σ', Ext bs H bs' H' → Rep K mg bs' h' H' → EnvR K mg bs' H' env σ' → D.bk σ' H'
  | .ct env h' => ∀ bs' H' σ', Ext bs H bs' H' → Rep K mg bs' h' H' → EnvR K mg bs' H' env σ' → D.ct σ' H'
  | .ex c f env h' => ∀ bs' H' σ' cls d, Ext bs H bs' H' → Rep K mg bs' h' H' → EnvR K mg bs' H' env σ' → ExR K mg bs' H' c f cls d → W cls d σ' H'
  | .bad => False
@[inline] def R.toS {α : Type} (r : R α) (env : En) (f : α → HP → S) : S := match r with
  | .ok a h => f a h
  | .ex c e h => .ex c e env h
  | .bad => .bad
section
variable {K : PySem.W.Frag} {mg : Str → Option Value} {bs bs' : List Addr} {H H' : Hp} {h h' : HP} {W : WX}
theorem OutS.mono {s : S} {D : Ends} (o : OutS K mg W bs H s D) (e : Ext bs H bs' H') : OutS K mg W bs' H' s D := by
  cases s with
  | nx env h' => exact fun b1 H1 σ e1 => o b1 H1 σ (e.trans e1)
  | rt v h' => exact fun b1 H1 w e1 => o b1 H1 w (e.trans e1)
  | bk env h' => exact fun b1 H1 σ e1 => o b1 H1 σ (e.trans e1)
  | ct env h' => exact fun b1 H1 σ e1 => o b1 H1 σ (e.trans e1)
  | ex c f env h' => exact fun b1 H1 σ cls d e1 => o b1 H1 σ cls d (e.trans e1)
  | bad => exact o
theorem OutS.bind {α β : Type} {RA : List Addr → Hp → α → β → Prop} {r : R α} {env : En} {f : α → HP → S} {D : Ends} {σ : L2.St} {P : β → Hp → Prop} (o : OutS K mg W bs H (r.toS env f) D) (er : EnvR K mg bs H env σ)
    (hP : ∀ v H1, (∃ bs1 h1 x, Ext bs H bs1 H1 ∧ Rep K mg bs1 h1 H1 ∧ RA bs1 H1 x v ∧ OutS K mg W bs1 H1 (f x h1) D) → P v H1) : Out K mg RA (fun c d H' => W c d σ H') bs H r P := by
  cases r with
  | ok x h' => exact fun b1 H1 v e1 r1 a1 => hP v H1 ⟨b1, h', x, e1, r1, a1, OutS.mono o e1⟩
  | ex c f h' => exact fun b1 H1 cls d e1 r1 x1 => o b1 H1 σ cls d e1 r1 (er.mono e1) x1
  | bad => exact o
end
theorem Out.imp {α β : Type} {K : PySem.W.Frag} {mg : Str → Option Value} {bs : List Addr} {H : Hp} {RA : List Addr → Hp → α → β → Prop} {W : XK} {r : R α} {Q Q' : β → Hp → Prop} (o : Out K mg RA W bs H r Q) (h : ∀ v H1, Q v H1 → Q' v H1) : Out K mg RA W bs H r Q' := by
  cases r with
  | ok x h' => exact fun b1 H1 v e1 r1 a1 => h v H1 (o b1 H1 v e1 r1 a1)
  | ex c f h' => exact o
  | bad => exact o
def tS (K : PySem.W.Frag) (mg : Str → Option Value) (W : WX) (m : MS) : TS := fun D σ H => ∃ env bs h, EnvR K mg bs H env σ ∧ Rep K mg bs h H ∧ OutS K mg W bs H (m env h) D
/-- what a target does with a value -/
def tT (K : PySem.W.Frag) (mg : Str → Option Value) (vs : List Nat) (g : PV → ME En) : TG := fun v σ H Q =>
  ∃ env bs h x, EnvR K mg bs H env σ ∧ Rep K mg bs h H ∧ RV K mg bs H x v ∧ Out K mg (fun bs H env σ => EnvR K mg bs H env σ) (fun _ _ _ => False) bs H (g x env h) fun σ' H' => wipe σ' vs = wipe σ vs → Q σ' H'
def tTs (K : PySem.W.Frag) (mg : Str → Option Value) (vs : List Nat) (g : List PV → ME En) : TGs := fun ws σ H Q =>
  ∃ env bs h xs, EnvR K mg bs H env σ ∧ Rep K mg bs h H ∧ RVs K mg bs H xs ws ∧ Out K mg (fun bs H env σ => EnvR K mg bs H env σ) (fun _ _ _ => False) bs H (g xs env h) fun σ' H' => wipe σ' vs = wipe σ vs → Q σ' H'
theorem wipe_at {σ τ : L2.St} (hl : σ.length = τ.length) : ∀ {vs : List Nat}, (∀ j, j ∉ vs → σ[j]? = τ[j]?) → wipe σ vs = wipe τ vs := fun {vs} h => by
  refine List.ext_getElem? fun j => ?_
  by_cases hj : j ∈ vs
  · by_cases hlt : j < σ.length
    · have a : ∀ (ρ : L2.St), j < ρ.length → (wipe ρ vs)[j]? = some none := fun ρ hρ => by
        have h1 : j < (wipe ρ vs).length := by rw [wipe_length]; exact hρ
        rw [List.getElem?_eq_getElem h1]
        cases q : (wipe ρ vs)[j] with
        | none => rfl
        | some v => exact absurd hj (wipe_some (by rw [List.getElem?_eq_getElem h1, q])).2
      rw [a σ hlt, a τ (by omega)]
    · rw [List.getElem?_eq_none (by rw [wipe_length]; omega), List.getElem?_eq_none (by rw [wipe_length]; omega)]
  · have a : ∀ (ρ : L2.St) (ws : List Nat), j ∉ ws → (wipe ρ ws)[j]? = ρ[j]? := fun ρ ws => by
      induction ws with
      | nil => intro _; rfl
      | cons w ws ih =>
        intro hn
        unfold wipe
        rw [List.getElem?_set_ne (fun e => hn (by rw [e]; exact List.mem_cons_self)), ih fun q => hn (List.mem_cons_of_mem _ q)]
    rw [a σ vs hj, a τ vs hj]
    exact h j hj
theorem wipe_set {σ : L2.St} {i : Nat} {v : Option V} {vs : List Nat} (hi : i ∈ vs) : wipe (σ.set i v) vs = wipe σ vs := wipe_at (by simp) fun j hj => by
  rw [List.getElem?_set_ne (fun e => hj (by rw [← e]; exact hi))]
/-- what is walked -/
def WalkM (K : PySem.W.Frag) (mg : Str → Option Value) (bs : List Addr) (H : Hp) (items : List PV) (J : It) : Prop :=
  ∃ (G : Hp → Prop) (Y : Nat → Hp → V → Hp → Prop), Walk J items.length G Y ∧ (∀ bs1 H1, Ext bs H bs1 H1 → G H1) ∧
    ∀ i bs1 h1 H1 x H2, Ext bs H bs1 H1 → Rep K mg bs1 h1 H1 → i < items.length → Y i H1 x H2 → Ext bs1 H1 bs1 H2 ∧ Rep K mg bs1 h1 H2 ∧ ∃ it, items[i]? = some it ∧ RV K mg bs1 H2 it x
def tI (K : PySem.W.Frag) (mg : Str → Option Value) (W : WX) (m : ME (List PV)) : TI := fun σ H Q =>
  ∃ env bs h, EnvR K mg bs H env σ ∧ Rep K mg bs h H ∧ Out K mg (fun bs H items J => WalkM K mg bs H items J) (fun c d H' => W c d σ H') bs H (m env h) Q
theorem PG.imp {X : Cx} {e : Expr} {t t' : TG} (p : PG X e t) (h : ∀ v σ H Q, t' v σ H Q → t v σ H Q) : PG X e t' := ⟨fun pins s σ H v u Q I r q => p.run pins s σ H v u Q I r (h v σ H Q q)⟩
theorem PGs.imp {X : Cx} {e : List Expr} {t t' : TGs} (p : PGs X e t) (h : ∀ v σ H Q, t' v σ H Q → t v σ H Q) : PGs X e t' := ⟨fun pins s σ H v u Q I r q => p.run pins s σ H v u Q I r (h v σ H Q q)⟩
theorem PI.imp {X : Cx} {tg e : Expr} {t t' : TI} (p : PI X tg e t) (h : ∀ σ H Q, t' σ H Q → t σ H Q) : PI X tg e t' := ⟨fun pins s σ H Q I q => p.run pins s σ H Q I (h σ H Q q)⟩

abbrev SM (X : Cx) (W : WX) (st : Stmt) (m : MS) : Prop := PS X st (tS X.K X.mg W m)
abbrev BM (X : Cx) (W : WX) (st : List Stmt) (m : MS) : Prop := PSs X st (tS X.K X.mg W m)
abbrev GM (X : Cx) (vs : List Nat) (tg : Expr) (g : PV → ME En) : Prop := PG X tg (tT X.K X.mg vs g)
abbrev GMs (X : Cx) (vs : List Nat) (tg : List Expr) (g : List PV → ME En) : Prop := PGs X tg (tTs X.K X.mg vs g)
abbrev IM (X : Cx) (W : WX) (tg iter : Expr) (m : ME (List PV)) : Prop := PI X tg iter (tI X.K X.mg W m)

/-! ### blocks -/
@[inline] def skip : MS := fun env h => .nx env h
@[inline] def seq (m n : MS) : MS := fun env h => match m env h with
  | .nx env' h' => n env' h'
  | r => r
def never : MS := fun _ _ => .bad
section
variable {X : Cx} {W : WX} {st : Stmt} {rest : List Stmt} {m n : MS} {e : Expr} {me : ME PV} {pos : Pos}
theorem sm_bad : SM X W st never := ⟨fun _ _ _ _ _ _ ⟨_, _, _, _, _, o⟩ => o.elim⟩
theorem bm_bad {sts : List Stmt} : BM X W sts never := ⟨fun _ _ _ _ _ _ ⟨_, _, _, _, _, o⟩ => o.elim⟩
theorem bm_nil : BM X W [] skip := PSs.imp pss_nil fun D σ H ⟨env, bs, h, er, rp, o⟩ => o bs H σ (Ext.refl _ _) rp er
theorem bm_cons (h1 : SM X W st m) (h2 : BM X W rest n) : BM X W (st :: rest) (seq m n) := PSs.imp (pss_cons h1 h2) fun D σ H ⟨env, bs, h, er, rp, o⟩ => by
  refine ⟨env, bs, h, er, rp, ?_⟩
  unfold seq at o
  cases q : m env h with
  | nx env' h' =>
    rw [q] at o
    exact fun b1 H1 σ1 e1 r1 er1 => ⟨env', b1, h', er1, r1, o.mono e1⟩
  | rt v h' => rw [q] at o; exact o
  | bk v h' => rw [q] at o; exact o
  | ct v h' => rw [q] at o; exact o
  | ex c f v h' => rw [q] at o; exact o
  | bad => rw [q] at o; exact o
theorem bm_one (h1 : SM X W st m) : BM X W [st] m := pss_one h1
theorem sm_pass : SM X W (.Pass pos) skip := PS.imp ps_pass fun D σ H ⟨env, bs, h, er, rp, o⟩ => o bs H σ (Ext.refl _ _) rp er
@[inline] def brk : MS := fun env h => .bk env h
@[inline] def cnt : MS := fun env h => .ct env h
theorem sm_break : SM X W (.Break pos) brk := PS.imp ps_break fun D σ H ⟨env, bs, h, er, rp, o⟩ => o bs H σ (Ext.refl _ _) rp er
theorem sm_continue : SM X W (.Continue pos) cnt := PS.imp ps_continue fun D σ H ⟨env, bs, h, er, rp, o⟩ => o bs H σ (Ext.refl _ _) rp er
@[inline] def drop (m : ME PV) : MS := fun env h => (m env h).toS env fun _ h1 => .nx env h1
theorem sm_expr (he : EM X W e me) (hs : swapsWith e none pos.line X.env = pure false := by rfl) : SM X W (.Expr e pos) (drop me) := PS.imp (ps_expr he hs) fun D σ H ⟨env, bs, h, er, rp, o⟩ => by
  refine ⟨env, bs, h, er, rp, OutS.bind o er ?_⟩
  rintro v H1 ⟨bs1, h1, x, e1, rp1, rx, o1⟩
  exact o1 bs1 H1 σ (Ext.refl _ _) rp1 (er.mono e1)
@[inline] def ret (m : ME PV) : MS := fun env h => (m env h).toS env fun v h1 => .rt v h1
theorem sm_ret (he : EM X W e me) : SM X W (.Return (some e) pos) (ret me) := PS.imp (ps_ret he) fun D σ H ⟨env, bs, h, er, rp, o⟩ => by
  refine ⟨env, bs, h, er, rp, OutS.bind o er ?_⟩
  rintro v H1 ⟨bs1, h1, x, e1, rp1, rx, o1⟩
  exact o1 bs1 H1 v (Ext.refl _ _) rp1 rx
@[inline] def ifS (t : ME Bool) (m n : MS) : MS := fun env h => (t env h).toS env fun b h1 => match b with
  | true => m env h1
  | false => n env h1
theorem sm_if {c : Expr} {a b : List Stmt} {t : ME Bool} (hc : TM X W c t) (ha : BM X W a m) (hb : BM X W b n) : SM X W (.If c a b pos) (ifS t m n) := PS.imp (ps_if hc ha hb) fun D σ H ⟨env, bs, h, er, rp, o⟩ => by
  refine ⟨env, bs, h, er, rp, OutS.bind o er ?_⟩
  rintro v H1 ⟨bs1, h1, x, e1, rp1, rx, o1⟩
  cases rx
  cases v with
  | true => rw [if_pos rfl]; exact ⟨env, bs1, h1, er.mono e1, rp1, o1⟩
  | false => rw [if_neg Bool.false_ne_true]; exact ⟨env, bs1, h1, er.mono e1, rp1, o1⟩
/-- name = value -/
@[inline] def set (i : Nat) (m : ME PV) : MS := fun env h => (m env h).toS env fun v h1 => .nx (env.set i (some v)) h1
theorem sim_set {i : Nat} {D : Ends} {σ : L2.St} {H : Hp} (o : tS X.K X.mg W (set i me) D σ H) : tAsg (tM X.K X.mg W me) (gName i) D σ H := by
  obtain ⟨env, bs, h, er, rp, o⟩ := o
  refine ⟨env, bs, h, er, rp, OutS.bind o er ?_⟩
  rintro v H1 ⟨bs1, h1, x, e1, rp1, rx, o1⟩
  exact o1 bs1 H1 _ (Ext.refl _ _) rp1 ((er.mono e1).set i rx)
theorem sm_set {i : Nat} {x : Str} {pos' : Pos} (hN : X.N.Nodup) (hi : X.N[i]? = some x) (hx : Loc X.env.scope x) (he : EM X W e me) (hs : swapsWith e (some (.Name x pos')) pos.line X.env = pure false := by rfl)
    (hf : X.fn x = true ∨ X.env.scope.names.lookup x = some .local := by first | exact .inl rfl | exact .inr rfl | assumption) : SM X W (.Assign [.Name x pos'] e pos) (set i me) := PS.imp (ps_set hN hi hx he hs hf) fun _ _ _ => sim_set

/-! ### targets -/
@[inline] def gN (i : Nat) : PV → ME En := fun x env h => .ok (env.set i (some x)) h
theorem gm_name {vs : List Nat} {i : Nat} {x : Str} (hv : i ∈ vs) (hN : X.N.Nodup) (hi : X.N[i]? = some x) (hx : Loc X.env.scope x) (hf : X.fn x = true ∨ X.env.scope.names.lookup x = some .local := by first | exact .inl rfl | exact .inr rfl | assumption) : GM X vs (.Name x pos) (gN i) :=
  PG.imp (pg_name hN hi hx hf) fun v σ H Q ⟨env, bs, h, x, er, rp, rx, o⟩ => o bs H _ (Ext.refl _ _) rp (er.set i rx) (wipe_set hv)
@[inline] def gsNil : List PV → ME En := fun xs env h => match xs with
  | [] => .ok env h
  | _ => .bad
@[inline] def gsCons (g : PV → ME En) (gs : List PV → ME En) : List PV → ME En := fun xs env h => match xs with
  | x :: r => (g x env h).bind fun env1 h1 => gs r env1 h1
  | [] => .bad
theorem gms_nil {vs : List Nat} : GMs X vs [] gsNil := PGs.imp pgs_nil fun v σ H Q ⟨env, bs, h, xs, er, rp, rx, o⟩ => by
  cases rx with
  | nil => exact ⟨rfl, o bs H σ (Ext.refl _ _) rp er rfl⟩
  | cons _ _ => exact o.elim
theorem gms_cons {vs : List Nat} {es : List Expr} {g : PV → ME En} {gs : List PV → ME En} (h1 : GM X vs e g) (h2 : GMs X vs es gs) (hs : (assignEach (e :: es) X.env).map (·.2) = assign e X.env :: (assignEach es X.env).map (·.2) := by rfl) : GMs X vs (e :: es) (gsCons g gs) :=
  PGs.imp (pgs_cons h1 h2 hs) fun v σ H Q ⟨env, bs, h, xs, er, rp, rx, o⟩ => by
    cases rx with
    | nil => exact o.elim
    | @cons x w xs' ws' r rs =>
      refine ⟨w, ws', rfl, env, bs, h, x, er, rp, r, Out.bind o ?_⟩
      rintro σ1 H1 ⟨bs1, h1, env1, e1, rp1, er1, o1⟩ hw
      refine ⟨env1, bs1, h1, xs', er1, rp1, rs.mono e1, o1.imp fun σ2 H2 q hw2 => q (hw2.trans hw)⟩
@[inline] def gT (n : Nat) (gs : List PV → ME En) : PV → ME En := fun x env h => match x with
  | .tup xs => if xs.length = n then gs xs env h else .bad
  | .wtp xs => if xs.length = n then gs xs env h else .bad
  | _ => .bad
theorem TupAt.sq {K : PySem.W.Frag} {bs : List Addr} {H : Hp} {a : Addr} {vs : List V} (t : TupAt K bs H a vs) : SqT K H a vs := by
  rcases t with ⟨⟨o, t, _⟩, _⟩ | ⟨o, its, n, h1, h2, h3, h4⟩
  · exact .inl (.inr ⟨o, t⟩)
  · exact .inr ⟨o, its, n, h1, h2, h4⟩
theorem gm_tup {vs : List Nat} {es : List Expr} {k : Nat} {gs : List PV → ME En} {n : Nat} (hc : X.calm = true) (h : GMs X vs es gs) (hn : (assignEach es X.env).length = n := by rfl) (hst : (assignEach es X.env).findIdx? (·.1) = none := by rfl) : GM X vs (.Tuple es k pos) (gT n gs) :=
  PG.imp (pg_tup hc h hn hst) fun v σ H Q ⟨env, bs, h, x, er, rp, rx, o⟩ => by
    cases rx with
    | @tup xs a vs t rs =>
      unfold gT at o
      by_cases hl : xs.length = n
      · simp only [hl, if_true] at o
        exact ⟨a, vs, rfl, t.sq, by rw [← rs.length]; exact hl, env, bs, _, xs, er, rp, rs, o⟩
      · simp only [hl, if_false] at o
        exact o.elim
    | @wtp xs a vs t hn rs =>
      unfold gT at o
      by_cases hl : xs.length = n
      · simp only [hl, if_true] at o
        exact ⟨a, vs, rfl, SqT.of t, by rw [← rs.length]; exact hl, env, bs, _, xs, er, rp, rs, o⟩
      · simp only [hl, if_false] at o
        exact o.elim
    | _ => exact o.elim
/-- target = value -/
@[inline] def asg (m : ME PV) (g : PV → ME En) : MS := fun env h => (m env h).toS env fun v h1 => (g v env h1).toS env fun env1 h2 => .nx env1 h2
theorem Out.noex {α β : Type} {K : PySem.W.Frag} {mg : Str → Option Value} {RA : List Addr → Hp → α → β → Prop} {W' : WX} {bs : List Addr} {H : Hp} {r : R α} {env : En} {f : α → HP → S} {D : Ends} {P : β → Hp → Prop}
    (hr : ∀ c f h, r ≠ .ex c f h) (o : OutS K mg W' bs H (r.toS env f) D) (hP : ∀ v H1, (∃ bs1 h1 x, Ext bs H bs1 H1 ∧ Rep K mg bs1 h1 H1 ∧ RA bs1 H1 x v ∧ OutS K mg W' bs1 H1 (f x h1) D) → P v H1) : Out K mg RA (fun _ _ _ => False) bs H r P := by
  cases r with
  | ok x h' => exact fun b1 H1 v e1 r1 a1 => hP v H1 ⟨b1, h', x, e1, r1, a1, OutS.mono o e1⟩
  | ex c f h' => exact absurd rfl (hr c f h')
  | bad => exact o
/-- a target that raises nothing -/
def NoEx (g : PV → ME En) : Prop := ∀ x env h c f h', g x env h ≠ .ex c f h'
def NoExs (g : List PV → ME En) : Prop := ∀ x env h c f h', g x env h ≠ .ex c f h'
theorem noex_name {i : Nat} : NoEx (gN i) := fun _ _ _ _ _ _ => nofun
theorem noex_nil : NoExs gsNil := fun x _ _ _ _ _ => by cases x <;> exact nofun
theorem noex_cons {g : PV → ME En} {gs : List PV → ME En} (a : NoEx g) (b : NoExs gs) : NoExs (gsCons g gs) := fun x env h c f h' => by
  cases x with
  | nil => exact nofun
  | cons x r =>
    show R.bind (g x env h) _ ≠ _
    cases q : g x env h with
    | ok e1 h1 => exact b r e1 h1 c f h'
    | ex c1 f1 h1 => exact absurd q (a x env h c1 f1 h1)
    | bad => exact nofun
theorem noex_tup {n : Nat} {gs : List PV → ME En} (b : NoExs gs) : NoEx (gT n gs) := fun x env h c f h' => by
  cases x with
  | tup xs =>
    show (if xs.length = n then gs xs env h else .bad) ≠ _
    split
    · exact b xs env h c f h'
    · exact nofun
  | wtp xs =>
    show (if xs.length = n then gs xs env h else .bad) ≠ _
    split
    · exact b xs env h c f h'
    · exact nofun
  | _ => exact nofun
theorem sm_asg {vs : List Nat} {tg : Expr} {g : PV → ME En} (he : EM X W e me) (hg : GM X vs tg g) (ne : NoEx g) (hs : swapsWithSole [tg] e pos.line X.env = pure false := by rfl) (hw : swappedStores [tg] e X.env = pure none := by rfl)
    (h1 : (assignEach [tg] X.env).map (·.2) = [assign tg X.env] := by rfl) : SM X W (.Assign [tg] e pos) (asg me g) := PS.imp (ps_asg he hg hs hw h1) fun D σ H ⟨env, bs, h, er, rp, o⟩ => by
  refine ⟨env, bs, h, er, rp, OutS.bind o er ?_⟩
  rintro v H1 ⟨bs1, h1, x, e1, rp1, rx, o1⟩
  refine ⟨env, bs1, h1, x, er.mono e1, rp1, rx, Out.noex (ne x env h1) o1 ?_⟩
  rintro σ2 H2 ⟨bs2, h2, env2, e2, rp2, er2, o2⟩ _
  exact o2 bs2 H2 σ2 (Ext.refl _ _) rp2 er2

/-! ### for -/
def forGo (g : PV → ME En) (body : MS) : List PV → MS
  | [], env, h => .nx env h
  | x :: xs, env, h => (g x env h).toS env fun env1 h1 => match body env1 h1 with
    | .nx env2 h2 => forGo g body xs env2 h2
    | .ct env2 h2 => forGo g body xs env2 h2
    | .bk env2 h2 => .nx env2 h2
    | r => r
@[inline] def forS (mi : ME (List PV)) (g : PV → ME En) (body : MS) : MS := fun env h => (mi env h).toS env fun items h1 => forGo g body items env h1
theorem sm_for {vs : List Nat} {tg iter : Expr} {body : List Stmt} {mi : ME (List PV)} {g : PV → ME En} {mb : MS} (hp : PassesOwn (model X.prog X.w) X.A X.env X.xe) (hc : X.calm = true) (hi : IM X W tg iter mi) (hg : GM X vs tg g) (ne : NoEx g) (hb : BM X W body mb)
    (hs : ∀ x, foldedSetIterable iter X.env x = pure x := by intro _; rfl) : SM X W (.For tg iter body [] pos) (forS mi g mb) := PS.imp (ps_for hp hc hi hg hb hs) fun D σ H ⟨env, bs, h, er, rp, o⟩ => by
  refine ⟨env, bs, h, er, rp, OutS.bind o er ?_⟩
  rintro J H1 ⟨bs1, h1, items, e1, rp1, ⟨G, Y, wk, hG, hY⟩, o1⟩
  refine for_it wk (fun i σ' H' => ∃ env bs' h', EnvR X.K X.mg bs' H' env σ' ∧ Rep X.K X.mg bs' h' H' ∧ Ext bs1 H1 bs' H' ∧ OutS X.K X.mg W bs' H' (forGo g mb (items.drop i) env h') D) ?_ ?_ ?_ ?_
  · exact ⟨env, bs1, h1, er.mono e1, rp1, Ext.refl _ _, by simpa using o1⟩
  · rintro i σ' H' _ ⟨env', bs', h', er', rp', e', o'⟩
    exact hG bs' H' e'
  · rintro i x σ' H' H'' hi ⟨env', bs', h', er', rp', e', o'⟩ y
    obtain ⟨e2, rp2, it, hit, rit⟩ := hY i bs' h' H' x H'' e' rp' hi y
    have hd : items.drop i = it :: items.drop (i + 1) := by
      rw [List.drop_eq_getElem_cons hi]
      congr 1
      rw [List.getElem?_eq_getElem hi] at hit
      exact Option.some.inj hit
    rw [hd] at o'
    refine ⟨env', bs', h', it, er'.mono e2, rp2, rit, Out.noex (ne it env' h') (o'.mono e2) ?_⟩
    rintro σ3 H3 ⟨bs3, h3, env3, e3, rp3, er3, o3⟩ _
    refine ⟨env3, bs3, h3, er3, rp3, ?_⟩
    have e13 : Ext bs1 H1 bs3 H3 := (e'.trans e2).trans e3
    cases q : mb env3 h3 with
    | nx env4 h4 => rw [q] at o3; exact fun b4 H4 σ4 e4 r4 er4 => ⟨env4, b4, h4, er4, r4, e13.trans e4, o3.mono e4⟩
    | ct env4 h4 => rw [q] at o3; exact fun b4 H4 σ4 e4 r4 er4 => ⟨env4, b4, h4, er4, r4, e13.trans e4, o3.mono e4⟩
    | bk env4 h4 => rw [q] at o3; exact o3
    | rt v h4 => rw [q] at o3; exact o3
    | ex c f env4 h4 => rw [q] at o3; exact o3
    | bad => rw [q] at o3; exact o3
  · rintro σ' H' ⟨env', bs', h', er', rp', e', o'⟩
    rw [List.drop_length] at o'
    exact o' bs' H' σ' (Ext.refl _ _) rp' er'

/-! ### while: at most so many turns -/
def whGo (t : ME Bool) (body : MS) : Nat → MS
  | 0, _, _ => .bad
  | k + 1, env, h => (t env h).toS env fun b h1 => match b with
    | true => (match body env h1 with
      | .nx env2 h2 => whGo t body k env2 h2
      | .ct env2 h2 => whGo t body k env2 h2
      | .bk env2 h2 => .nx env2 h2
      | r => r)
    | false => .nx env h1
theorem sm_while {c : Expr} {body : List Stmt} {t : ME Bool} {mb : MS} (k : Nat) (hp : PassesOwn (model X.prog X.w) X.A X.env X.xe) (hc : TM X W c t) (hb : BM X W body mb) : SM X W (.While c body [] pos) (whGo t mb k) :=
  PS.imp (ps_while hp hc hb) fun D σ H ⟨env, bs, h, er, rp, o⟩ => by
    refine ⟨fun j σ' H' => ∃ env bs' h', EnvR X.K X.mg bs' H' env σ' ∧ Rep X.K X.mg bs' h' H' ∧ OutS X.K X.mg W bs' H' (whGo t mb j env h') D, ⟨k, env, bs, h, er, rp, o⟩, ?_⟩
    rintro j σ' H' ⟨env', bs', h', er', rp', o'⟩
    cases j with
    | zero => exact o'.elim
    | succ j =>
      refine ⟨env', bs', h', er', rp', OutS.bind o' er' ?_⟩
      rintro v H1 ⟨bs1, h1, x, e1, rp1, rx, o1⟩
      cases rx
      cases v with
      | false => rw [if_neg Bool.false_ne_true]; exact o1 bs1 H1 σ' (Ext.refl _ _) rp1 (er'.mono e1)
      | true =>
        rw [if_pos rfl]
        refine ⟨fun σ2 H2 => ∃ env bs' h', EnvR X.K X.mg bs' H2 env σ2 ∧ Rep X.K X.mg bs' h' H2 ∧ OutS X.K X.mg W bs' H2 (whGo t mb j env h') D, fun σ2 H2 z => ⟨j, Nat.lt_succ_self j, z⟩, env', bs1, h1, er'.mono e1, rp1, ?_⟩
        cases q : mb env' h1 with
        | nx env4 h4 => simp only [q] at o1; exact fun b4 H4 σ4 e4 r4 er4 => ⟨env4, b4, h4, er4, r4, o1.mono e4⟩
        | ct env4 h4 => simp only [q] at o1; exact fun b4 H4 σ4 e4 r4 er4 => ⟨env4, b4, h4, er4, r4, o1.mono e4⟩
        | bk env4 h4 => simp only [q] at o1; exact o1
        | rt v h4 => simp only [q] at o1; exact o1
        | ex c f env4 h4 => simp only [q] at o1; exact o1
        | bad => simp only [q] at o1; exact o1
end
end Sm

namespace Sm
open PySem PySem.Spec PyProof.Rows L2

section
variable {K : PySem.W.Frag} {mg : Str → Option Value} {bs bs' : List Addr} {H H' : Hp} {h h' : HP}
theorem RO.less {o : PV} {a : Addr} (r : RO K mg bs H o a) (hs : ∀ a, a ∈ bs' → a ∈ bs) : RO K mg bs' H o a := by
  cases o with
  | lst xs => obtain ⟨p, vs, q, rs⟩ := r; exact ⟨p, vs, q, rs.less p hs⟩
  | ins c xs => obtain ⟨p, C, dx, vs, m, q, l, rs⟩ := r; exact ⟨p, C, dx, vs, m, q, l, rs.less p hs⟩
  | dct ks xs =>
    obtain ⟨p, r⟩ := r
    refine ⟨p, ?_⟩
    rcases r with ⟨kvs, q, k, rs⟩ | ⟨kvs, q, k, rs⟩
    · exact .inl ⟨kvs, q, k, rs.less p hs⟩
    · exact .inr ⟨kvs, q, k, rs.less p hs⟩
  | _ => exact r.elim
/-- the later ones are no longer tracked -/
theorem Rep.cut (r : Rep K mg bs h H) (hp : bs' <+: bs) {n : Nat} (hn : n = bs'.length) : Rep K mg bs' (h.take n) H := by
  subst hn
  have hl : bs'.length ≤ h.length := by rw [← r.len]; exact hp.length_le
  refine ⟨by simp; omega, r.nd.sublist hp.sublist, fun n o e => ?_⟩
  have hn : n < bs'.length := by
    by_cases q : n < bs'.length
    · exact q
    · rw [List.getElem?_take, if_neg q] at e; cases e
  rw [List.getElem?_take_of_lt hn] at e
  obtain ⟨a, ha, ro⟩ := r.at_ n o e
  obtain ⟨t, rfl⟩ := hp
  refine ⟨a, by rw [List.getElem?_append_left hn] at ha; exact ha, ro.less fun b hb => List.mem_append_left _ hb⟩
theorem Ext.cut (e : Ext bs H bs' H') : Ext bs H bs H' := ⟨List.prefix_refl _, e.keep, fun _ q => .inl q⟩
/-- what is tracked at n, as a value of its own -/
theorem RO.value {o : PV} {a : Addr} (r : RO K mg bs H o a) (hs : ∀ b, b ∈ bs' → b ∈ bs) (ha : a ∉ bs') : RV K mg bs' H o (.ref a) := by
  cases o with
  | lst xs => obtain ⟨p, vs, q, rs⟩ := r; exact .lst q ha p (rs.less p hs)
  | ins c xs => obtain ⟨p, C, dx, vs, m, q, l, rs⟩ := r; exact .ins m q l ha p (rs.less p hs)
  | dct ks xs =>
    obtain ⟨p, r⟩ := r
    rcases r with ⟨kvs, q, k, rs⟩ | ⟨kvs, q, k, rs⟩
    · exact .dK q ha k p (rs.less p hs)
    · exact .dT q ha k p (rs.less p hs)
  | _ => exact r.elim

/-! ### what leaves a def: what it made itself is from now on a value -/
mutual
def frz (n : Nat) (h : HP) : PV → PV
  | .ref m => if m < n then .ref m else h.getD m .non
  | .tup xs => .tup (frzL n h xs)
  | .wtp xs => .wtp (frzL n h xs)
  | x => x
def frzL (n : Nat) (h : HP) : List PV → List PV
  | [] => []
  | x :: xs => frz n h x :: frzL n h xs
end
mutual
theorem RV.frz {x : PV} {v : V} (r : RV K mg bs H x v) (rp : Rep K mg bs h H) (hp : bs' <+: bs) {n : Nat} (hn : n = bs'.length) : RV K mg bs' H (frz n h x) v := match x, v, r with
  | _, _, .non => .non
  | _, _, .bl b => .bl b
  | _, _, .int i => .int i
  | _, _, .str s => .str s
  | _, _, .tup (xs := xs) (.inl ⟨q, hq⟩) rs => .tup (.inl ⟨q, fun z => hq (hp.subset z)⟩) (RVs.frz rs rp hp hn)
  | _, _, .tup (xs := xs) (.inr q) rs => .tup (.inr q) (RVs.frz rs rp hp hn)
  | _, _, .wtp (xs := xs) q hq rs => .wtp q (fun z => hq (hp.subset z)) (RVs.frz rs rp hp hn)
  | _, _, .lst q hq hpu rs => RV.less (.lst q hq hpu rs) hpu fun a z => hp.subset z
  | _, _, .scr q hq hpu rs => RV.less (.scr q hq hpu rs) hpu fun a z => hp.subset z
  | _, _, .ins m q l hq hpu rs => RV.less (.ins m q l hq hpu rs) hpu fun a z => hp.subset z
  | _, _, .dK q hq hk hpu rs => .dK q (fun z => hq (hp.subset z)) hk hpu (rs.less hpu fun a z => hp.subset z)
  | _, _, .dT q hq hk hpu rs => .dT q (fun z => hq (hp.subset z)) hk hpu (rs.less hpu fun a z => hp.subset z)
  | _, _, .ref (n := m) (a := a) q => by
    show RV K mg bs' H (if m < n then .ref m else h.getD m .non) (.ref a)
    by_cases hm : m < n
    · rw [if_pos hm]
      obtain ⟨t, rfl⟩ := hp
      rw [List.getElem?_append_left (by omega)] at q
      exact .ref q
    · rw [if_neg hm]
      have hl : m < h.length := by rw [← rp.len]; exact (List.getElem?_eq_some_iff.mp q).1
      obtain ⟨b, hb, ro⟩ := rp.at_ m h[m] (by simp [hl])
      rw [q] at hb; cases hb
      have e : h.getD m .non = h[m] := by simp [List.getD, hl]
      rw [e]
      refine ro.value (fun c z => hp.subset z) fun z => ?_
      obtain ⟨k, hk⟩ := List.getElem?_of_mem z
      have hk' : k < bs'.length := (List.getElem?_eq_some_iff.mp hk).1
      have hk2 : bs[k]? = some a := by
        obtain ⟨t, rfl⟩ := hp
        rw [List.getElem?_append_left hk']; exact hk
      have h1 := List.getElem?_eq_some_iff.mp hk2
      have h2 := List.getElem?_eq_some_iff.mp q
      have : k = m := (List.getElem_inj (xs := bs) (h₀ := h1.1) (h₁ := h2.1) rp.nd).mp (h1.2.trans h2.2.symm)
      omega
theorem RVs.frz {xs : List PV} {vs : List V} (r : RVs K mg bs H xs vs) (rp : Rep K mg bs h H) (hp : bs' <+: bs) {n : Nat} (hn : n = bs'.length) : RVs K mg bs' H (frzL n h xs) vs := match xs, vs, r with
  | _, _, .nil => .nil
  | _, _, .cons r rs => .cons (RV.frz r rp hp hn) (RVs.frz rs rp hp hn)
end
mutual
theorem frz_pur (n : Nat) (h : HP) {x : PV} (hx : pur x = true) : frz n h x = x := match x with
  | .ref _ => nomatch (show false = true from hx)
  | .tup xs => congrArg PV.tup (frzL_pur n h hx)
  | .wtp xs => congrArg PV.wtp (frzL_pur n h hx)
  | .non => rfl
  | .bl _ => rfl
  | .int _ => rfl
  | .str _ => rfl
  | .lst _ => rfl
  | .scr _ => rfl
  | .ins _ _ => rfl
  | .dct _ _ => rfl
theorem frzL_pur (n : Nat) (h : HP) {xs : List PV} (hx : purL xs = true) : frzL n h xs = xs := match xs with
  | [] => rfl
  | x :: xs => by
    show frz n h x :: frzL n h xs = x :: xs
    rw [frz_pur n h (Bool.and_eq_true_iff.mp hx).1, frzL_pur n h (Bool.and_eq_true_iff.mp hx).2]
end
end

/-! ### defs -/
/-- what a def does: nN slots, the body mb -/
def callF (nN : Nat) (mb : MS) (xs : List PV) : M PV := fun h => match mb (xs.map some ++ List.replicate (nN - xs.length) none) h with
  | .nx _ h' => .ok .non (h'.take h.length)
  | .rt v h' => .ok (frz h.length h' v) (h'.take h.length)
  | .ex c f _ h' => .ex c f (h'.take h.length)
  | _ => .bad
def spM (K : PySem.W.Frag) (mg : Str → Option Value) (n : Nat) (mf : List PV → M PV) : Sp := fun vs H Q E => vs.length = n ∧ ∃ bs h xs, Rep K mg bs h H ∧ RVs K mg bs H xs vs ∧ Out K mg (RV K mg) E bs H (mf xs h) Q
theorem ExR.less {K : PySem.W.Frag} {mg : Str → Option Value} {bs bs' : List Addr} {H : Hp} {c : Nat} {f : List PV} {cls : Value} {d : Option Addr} (x : ExR K mg bs H c f cls d) (hs : ∀ a, a ∈ bs' → a ∈ bs) : ExR K mg bs' H c f cls d := by
  obtain ⟨x1, x2⟩ := x
  refine ⟨x1, ?_⟩
  match f, x2 with
  | [], _ => trivial
  | [x], ⟨p, dd, v, e, q, n, r⟩ => exact ⟨p, dd, v, e, q, fun z => n (hs _ z), r.less p hs⟩
theorem start_env {K : PySem.W.Frag} {mg : Str → Option Value} {bs : List Addr} {H : Hp} {xs : List PV} {vs : List V} (N : List Str) (r : RVs K mg bs H xs vs) : EnvR K mg bs H (xs.map some ++ List.replicate (N.length - xs.length) none) (L2.start N vs) := by
  have hl := r.length
  refine ⟨by unfold L2.start; simp [hl], fun i x hx => ?_⟩
  have hi : i < xs.length := by
    by_cases hi : i < xs.length
    · exact hi
    · rw [List.getElem?_append_right (by simpa using hi), List.getElem?_replicate] at hx
      split at hx <;> cases hx
  rw [List.getElem?_append_left (by simpa using hi), List.getElem?_map] at hx
  have hx' : xs[i]? = some x := by
    cases e : xs[i]? with
    | none => rw [e] at hx; cases hx
    | some a => rw [e] at hx; cases hx; rfl
  obtain ⟨v, hv, rv⟩ := r.get hx'
  refine ⟨v, ?_, rv⟩
  unfold L2.start
  rw [List.getElem?_append_left (by simp; omega), List.getElem?_map, hv]
  rfl
section
variable {P : Program} {w : World} {K : PySem.W.Frag} {mg : Str → Option Value} {base : Heap} {x qual : Str} {params : Arguments} {body : List Stmt} {scope : Scope} {dvs : List V} {kws : List (Str × V)} {f : Addr} {fd : FuncData}
theorem fn_m {N ps : List Str} {k : Nat} {mb : MS} (F : FunD K x qual params body scope dvs kws f fd) (Sc : FnScope N ps scope)
    (hb : ∀ (cdv : Value) (A : Around) (outer : List Env) (s : Shared) (H : Hp) (E : XK), Room k (A.deeper (envOfC qual scope s.heap.objs.size f cdv)) →
      BM (cxOf (L2.CX P w) P w K mg base N qual scope f cdv A outer s H E) (fun c d _ H' => E c d H') body mb) :
    FnOk P w K mg base (L2.CX P w) (k + 1) f fd ps (spM K mg ps.length (callF N.length mb)) := by
  refine F.ok Sc (fun vs H Q E h => h.1) fun cdv A outer s H vs Q E hr hsp => ⟨_, hb cdv A outer s H E hr, ?_⟩
  obtain ⟨hl, bs, h, xs, rp, rx, o⟩ := hsp
  refine ⟨_, bs, h, start_env N rx, rp, ?_⟩
  unfold callF at o
  have hn : h.length = bs.length := rp.len.symm
  cases q : mb (xs.map some ++ List.replicate (N.length - xs.length) none) h with
  | nx env h' =>
    rw [q] at o
    exact fun b1 H1 σ e1 r1 _ => o bs H1 .non e1.cut (r1.cut e1.pre hn) .non
  | rt v h' =>
    rw [q] at o
    exact fun b1 H1 w1 e1 r1 rv => o bs H1 w1 e1.cut (r1.cut e1.pre hn) (rv.frz r1 e1.pre hn)
  | ex c f env h' =>
    rw [q] at o
    exact fun b1 H1 σ cls d e1 r1 _ x1 => o bs H1 cls d e1.cut (r1.cut e1.pre hn) (x1.less fun a z => e1.pre.subset z)
  | bk env h' => rw [q] at o; exact o.elim
  | ct env h' => rw [q] at o; exact o.elim
  | bad => rw [q] at o; exact o.elim
/-- a def of the module by its name: what it does -/
def Fnc (P : Program) (w : World) (K : PySem.W.Frag) (mg : Str → Option Value) (base : Heap) (x : Str) (n k : Nat) (mf : List PV → M PV) : Prop :=
  ∃ (f : Addr) (fd : FuncData) (ps : List Str), ps.length = n ∧ mg x = some (.ref f) ∧ PySem.W.keepIn K (.ref f) = true ∧ Binds K fd ps [] ∧ FnOk P w K mg base (L2.CX P w) k f fd ps (spM K mg n mf)
end
section
variable {X : Cx} {W : WX} {x : Str} {n k j : Nat} {mf : List PV → M PV} {e : Expr} {es : List Expr} {ms : ME (List PV)} {p pos : Pos}
theorem sim_call {σ : L2.St} {H : Hp} {Q : VK} (o : tM X.K X.mg W (app ms mf) σ H Q) (hl : ∀ env h xs h', ms env h = .ok xs h' → xs.length = n) : tMA X.K X.mg W ms σ H fun vs H1 => spM X.K X.mg n mf vs H1 Q (WE W σ) := by
  obtain ⟨env, bs, h, er, rp, o⟩ := o
  refine ⟨env, bs, h, er, rp, ?_⟩
  cases q : ms env h with
  | bad => unfold app at o; rw [q] at o; exact o
  | ex c f h' => unfold app at o; rw [q] at o; exact o
  | ok xs h' =>
    have hx := hl env h xs h' q
    unfold app at o
    rw [q] at o
    exact fun b1 H1 vs e1 r1 rx => ⟨by rw [← rx.length]; exact hx, b1, h', xs, r1, rx, Out.mono o e1⟩
/-- how many arguments -/
theorem len_nil {env : En} {h : HP} {xs : List PV} {h' : HP} (e : aNil env h = .ok xs h') : xs.length = 0 := by cases e; rfl
theorem len_cons {m : ME PV} {ms : ME (List PV)} {n : Nat} (hl : ∀ env h xs h', ms env h = .ok xs h' → xs.length = n) : ∀ env h xs h', aCons m ms env h = .ok xs h' → xs.length = n + 1 := fun env h xs h' e => by
  unfold aCons at e
  cases q : m env h with
  | bad => rw [q] at e; cases e
  | ex c f h1 => rw [q] at e; cases e
  | ok y h1 =>
    rw [q] at e
    have e2 : (ms env h1).bind (fun xs h2 => R.ok (y :: xs) h2) = .ok xs h' := e
    cases q2 : ms env h1 with
    | bad => rw [q2] at e2; cases e2
    | ex c f h1 => rw [q2] at e2; cases e2
    | ok ys h2 =>
      rw [q2] at e2
      have e3 : R.ok (y :: ys) h2 = .ok xs h' := e2
      cases e3
      exact congrArg (· + 1) (hl _ _ _ _ q2)
theorem em_call (C : Fnc X.prog X.w X.K X.mg X.base x n k mf) (hr : Room j X.A) (hj : k ≤ j) (hg : Gl X x) (tk : Takes X W) (ha : AM X W (e :: es) ms) (hl : ∀ env h xs h', ms env h = .ok xs h' → xs.length = n)
    (hdb : (x == ("__debug__" : Str)) = false := by decide) (he : starEach (e :: es) X.env = (false, eval e X.env) :: starEach es X.env := by rfl) (hpl : (backTo pos (starEach es X.env)).any (·.1) = false := by rfl) :
    EM X W (.Call (.Name x p) (e :: es) [] pos) (app ms mf) := by
  obtain ⟨f, fd, ps, hp, hm, hk, hb, F⟩ := C
  exact PE.imp (pe_callS F (hr.mono hj) hg hm hk hb (fun σ => passAt tk σ) ha hdb he hpl) fun σ H Q o => sim_call o hl
theorem em_call0 (C : Fnc X.prog X.w X.K X.mg X.base x 0 k mf) (hr : Room j X.A) (hj : k ≤ j) (hg : Gl X x) (tk : Takes X W) (hdb : (x == ("__debug__" : Str)) = false := by decide) : EM X W (.Call (.Name x p) [] [] pos) (app aNil mf) := by
  obtain ⟨f, fd, ps, hp, hm, hk, hb, F⟩ := C
  refine ⟨fun pins s σ H Q I o => ?_⟩
  refine wpAny_Call_Name_kw (ld_glob I hg hm ?_ hdb)
  obtain ⟨env, bs, h, er, rp, o⟩ := o
  exact PySem.W.callWith_K0 I.kIn hk (run_fnS (us := []) (E := fun σ => WE W σ) F (hr.mono hj) hb (passAt tk σ) I .nil ⟨rfl, bs, h, [], rp, .nil, o⟩)
end

/-! ### displays -/
def lim : Nat := 16777216
theorem lim_eq : lim = sizeLine := by rw [sizeLine_eq]; rfl
@[inline] def mkT (xs : List PV) : M PV := fun h => if xs.length ≤ lim then .ok (.tup xs) h else .bad
@[inline] def mkW (xs : List PV) : M PV := fun h => if xs.length ≤ lim then .ok (.wtp xs) h else .bad
@[inline] def mkL (xs : List PV) : M PV := fun h => if xs.length ≤ lim ∧ purL xs = true then .ok (.lst xs) h else .bad
@[inline] def newL (xs : List PV) : M PV := fun h => if xs.length ≤ lim ∧ purL xs = true then .ok (.ref h.length) (h ++ [.lst xs]) else .bad
section
variable {K : PySem.W.Frag} {mg : Str → Option Value} {bs : List Addr} {H : Hp} {h : HP} {W : XK} {xs : List PV} {vs : List V} {Q : VK}
theorem out_mkT (rp : Rep K mg bs h H) (rx : RVs K mg bs H xs vs) (o : Out K mg (RV K mg) W bs H (mkT xs h) Q) : vs.length ≤ sizeLine ∧ ∀ (p : Addr) (ob : Obj), H p = none → ob.dict = none → Q (.ref p) (upd H p (.frz ob (.tup vs))) := by
  unfold mkT at o
  by_cases hl : xs.length ≤ lim
  · rw [if_pos hl] at o
    refine ⟨by rw [← rx.length, ← lim_eq]; exact hl, fun p ob hp hd => ?_⟩
    exact o bs _ _ (Ext.fresh hp) (rp.fresh hp) (.tup (.inl ⟨⟨ob, upd_same, hd⟩, rp.free hp⟩) (rx.mono (Ext.fresh hp)))
  · rw [if_neg hl] at o; exact o.elim
theorem out_mkW (rp : Rep K mg bs h H) (rx : RVs K mg bs H xs vs) (o : Out K mg (RV K mg) W bs H (mkW xs h) Q) : vs.length ≤ sizeLine ∧ ∀ p, H p = none → Q (.ref p) (upd H p (.tup vs)) := by
  unfold mkW at o
  by_cases hl : xs.length ≤ lim
  · rw [if_pos hl] at o
    refine ⟨by rw [← rx.length, ← lim_eq]; exact hl, fun p hp => ?_⟩
    exact o bs _ _ (Ext.fresh hp) (rp.fresh hp) (.wtp upd_same (rp.free hp) (rx.mono (Ext.fresh hp)))
  · rw [if_neg hl] at o; exact o.elim
theorem out_mkL (rp : Rep K mg bs h H) (rx : RVs K mg bs H xs vs) (o : Out K mg (RV K mg) W bs H (mkL xs h) Q) : vs.length ≤ sizeLine ∧ ∀ p, H p = none → Q (.ref p) (upd H p (.lst vs)) := by
  unfold mkL at o
  by_cases hl : xs.length ≤ lim ∧ purL xs = true
  · rw [if_pos hl] at o
    refine ⟨by rw [← rx.length, ← lim_eq]; exact hl.1, fun p hp => ?_⟩
    exact o bs _ _ (Ext.fresh hp) (rp.fresh hp) (.lst upd_same (rp.free hp) hl.2 (rx.mono (Ext.fresh hp)))
  · rw [if_neg hl] at o; exact o.elim
theorem out_newL (rp : Rep K mg bs h H) (rx : RVs K mg bs H xs vs) (o : Out K mg (RV K mg) W bs H (newL xs h) Q) : vs.length ≤ sizeLine ∧ ∀ p, H p = none → Q (.ref p) (upd H p (.lst vs)) := by
  unfold newL at o
  by_cases hl : xs.length ≤ lim ∧ purL xs = true
  · rw [if_pos hl] at o
    refine ⟨by rw [← rx.length, ← lim_eq]; exact hl.1, fun p hp => ?_⟩
    refine o (bs ++ [p]) _ _ (Ext.push hp) (rp.push hp ⟨hl.2, vs, upd_same, rx.mono (Ext.push hp)⟩) (.ref ?_)
    rw [← rp.len]
    simp
  · rw [if_neg hl] at o; exact o.elim
end
section
variable {X : Cx} {W : WX} {es : List Expr} {ms : ME (List PV)} {pos : Pos}
def tTupF (t : TA) : TE := fun σ H Q => t σ H fun xs H1 => xs.length ≤ sizeLine ∧ ∀ (p : Addr) (ob : Obj), H1 p = none → ob.dict = none → Q (.ref p) (upd H1 p (.frz ob (.tup xs)))
theorem pe_tupF {x1} {t : TA} (h : PA X es t) : PE X (.Tuple es x1 pos) (tTupF t) := by
  refine ⟨fun pins s σ H Q I hq => ?_⟩
  refine wpAny_Tuple_spliced (thn (h.run pos pins s σ H _ I hq) fun us s1 ⟨xs, H1, I1, r, z, q⟩ => ⟨by rw [← r.length]; exact z, ?_⟩)
  have hf : H1 s1.heap.objs.size = none := I1.hok.fresh (Nat.le_refl _)
  refine ⟨.ref s1.heap.objs.size, upd H1 s1.heap.objs.size (.frz { cls := .type "tuple", data := .seq us.toArray } (.tup xs)), I1.laid (t' := s1.toks) (fun b u e => Heap.get?_push_of_some _ e) (Nat.le_refl _) ?_, rfl, q _ _ hf rfl⟩
  exact ⟨Heap.get?_push_size _ rfl, z, us, r, ⟨_, Heap.get?_push_size _ rfl, rfl, _, rfl⟩⟩
theorem em_wtp {x1} (ha : AM X W es ms) : EM X W (.Tuple es x1 pos) (app ms mkW) := PE.imp (pe_tup ha) fun σ H Q ⟨env, bs, h, er, rp, o⟩ => by
  refine ⟨env, bs, h, er, rp, Out.bind o ?_⟩
  rintro v H1 ⟨bs1, h1, x, e1, rp1, rx, o1⟩
  exact out_mkW rp1 rx o1
theorem em_tup {x1} (ha : AM X W es ms) : EM X W (.Tuple es x1 pos) (app ms mkT) := PE.imp (pe_tupF ha) fun σ H Q ⟨env, bs, h, er, rp, o⟩ => by
  refine ⟨env, bs, h, er, rp, Out.bind o ?_⟩
  rintro v H1 ⟨bs1, h1, x, e1, rp1, rx, o1⟩
  exact out_mkT rp1 rx o1
theorem em_lst (ha : AM X W es ms) : EM X W (.List es pos) (app ms mkL) := PE.imp (pe_lst ha) fun σ H Q ⟨env, bs, h, er, rp, o⟩ => by
  refine ⟨env, bs, h, er, rp, Out.bind o ?_⟩
  rintro v H1 ⟨bs1, h1, x, e1, rp1, rx, o1⟩
  exact out_mkL rp1 rx o1
theorem em_lstT (ha : AM X W es ms) : EM X W (.List es pos) (app ms newL) := PE.imp (pe_lst ha) fun σ H Q ⟨env, bs, h, er, rp, o⟩ => by
  refine ⟨env, bs, h, er, rp, Out.bind o ?_⟩
  rintro v H1 ⟨bs1, h1, x, e1, rp1, rx, o1⟩
  exact out_newL rp1 rx o1
end

/-! ### list comprehensions -/
@[inline] def R.nbind {α β : Type} (r : R α) (f : α → HP → R β) : R β := match r with
  | .ok a h => f a h
  | _ => .bad
def wipeE (env : En) : List Nat → En
  | [] => env
  | v :: vs => (wipeE env vs).set v none
theorem EnvR.wipe {K : PySem.W.Frag} {mg : Str → Option Value} {bs : List Addr} {H : Hp} {env : En} {σ : L2.St} (e : EnvR K mg bs H env σ) : ∀ vs : List Nat, EnvR K mg bs H (wipeE env vs) (wipe σ vs)
  | [] => e
  | v :: vs => (EnvR.wipe e vs).wipe1 v
/-- the list at the heap's end holds what is made so far -/
def lcGo (g : PV → ME En) (tt : ME Bool) (te : ME PV) (env : En) : List PV → List PV → HP → R (List PV)
  | [], acc, h => .ok acc h
  | x :: xs, acc, h => (g x env (h ++ [.lst acc])).nbind fun env2 h1 => (tt env2 h1).nbind fun b h2 => match b with
    | true => (te env2 h2).nbind fun y h3 => if pur y = true ∧ acc.length < lim then (match h3[h.length]? with
      | some (.lst a) => if a.length < lim then lcGo g tt te env xs (a ++ [y]) (h3.take h.length) else .bad
      | _ => .bad) else .bad
    | false => (match h2[h.length]? with
      | some (.lst a) => lcGo g tt te env xs a (h2.take h.length)
      | _ => .bad)
@[inline] def lcM (mi : ME (List PV)) (g : PV → ME En) (tt : ME Bool) (te : ME PV) (vs : List Nat) : ME (List PV) := fun env h => (mi env h).bind fun items h1 => lcGo g tt te (wipeE env vs) items [] h1
abbrev W0 : WX := fun _ _ _ _ => False
abbrev TsM (X : Cx) (W : WX) (es : List Expr) (m : ME Bool) : Prop := PTs X es (tMT X.K X.mg W m)
section
variable {X : Cx} {W : WX}
@[inline] def yes : ME Bool := fun _ h => .ok true h
theorem tsm_nil : TsM X W [] yes := ⟨fun pins s σ H Q I ⟨env, bs, h, er, rp, o⟩ => pts_nil.run pins s σ H Q I (o.here rp rfl)⟩
theorem tsm_one {c : Expr} {t : ME Bool} (h : TM X W c t) : TsM X W [c] t := pts_one h
theorem sim_lc {mi : ME (List PV)} {g : PV → ME En} {tt : ME Bool} {te : ME PV} {vs : List Nat} {fin : List PV → M PV} {σ : L2.St} {H : Hp} {Q : VK}
    (hfin : ∀ (bs : List Addr) (H : Hp) (h : HP) (acc : List PV) (D : Addr) (H' : Hp), H D = none → Ext bs H (bs ++ [D]) H' → Rep X.K X.mg (bs ++ [D]) (h ++ [.lst acc]) H' → Out X.K X.mg (RV X.K X.mg) (fun c d H' => W c d σ H') bs H (fin acc h) Q → Q (.ref D) H')
    (o : tM X.K X.mg W (fun env h => (lcM mi g tt te vs env h).bind fin) σ H Q) :
    tLc (tI X.K X.mg W mi) (tT X.K X.mg vs g) (tMT X.K X.mg W0 tt) (tM X.K X.mg W0 te) vs σ H Q := by
  obtain ⟨env, bs, h, er, rp, o⟩ := o
  have o' : Out X.K X.mg (RV X.K X.mg) (fun c d H' => W c d σ H') bs H ((mi env h).bind fun items h1 => (lcGo g tt te (wipeE env vs) items [] h1).bind fin) Q := by
    have e : ((lcM mi g tt te vs env h).bind fin) = ((mi env h).bind fun items h1 => (lcGo g tt te (wipeE env vs) items [] h1).bind fin) := by
      unfold lcM
      cases mi env h <;> rfl
    rw [← e]; exact o
  refine ⟨env, bs, h, er, rp, Out.bind o' ?_⟩
  rintro J H1 ⟨bs1, h1, items, e1, rp1, ⟨G, Y, wk, hG, hY⟩, o1⟩
  intro D hD
  have er1 := (er.mono e1).wipe vs
  generalize hr : lcGo g tt te (wipeE env vs) items [] h1 = r at o1
  have nb : r ≠ .bad := fun q => by rw [q] at o1; exact o1
  have lD : ∀ {b2 : List Addr}, bs1 ++ [D] <+: b2 → b2[bs1.length]? = some D := fun hp => by
    obtain ⟨t, rfl⟩ := hp
    rw [List.getElem?_append_left (by simp)]
    simp
  refine lc_it wk (fun i H' => ∃ h' acc, h'.length = h1.length ∧ Ext bs1 H1 (bs1 ++ [D]) H' ∧ Rep X.K X.mg (bs1 ++ [D]) (h' ++ [.lst acc]) H' ∧ lcGo g tt te (wipeE env vs) (items.drop i) acc h' = r) ?_ ?_ ?_ ?_
  · exact ⟨h1, [], rfl, Ext.push hD, rp1.push hD ⟨rfl, [], upd_same, .nil⟩, by simpa using hr⟩
  · rintro i H' _ ⟨h', acc, hl, e', rp', q'⟩
    exact hG _ _ e'
  · rintro i x H' H'' hi ⟨h', acc, hl, e', rp', q'⟩ y
    obtain ⟨e2, rp2, it, hit, rit⟩ := hY i _ _ H' x H'' e' rp' hi y
    have hd : items.drop i = it :: items.drop (i + 1) := by
      rw [List.drop_eq_getElem_cons hi]
      congr 1
      rw [List.getElem?_eq_getElem hi] at hit
      exact Option.some.inj hit
    rw [hd] at q'
    have hlb : h'.length = bs1.length := by rw [hl, ← rp1.len]
    unfold lcGo at q'
    refine ⟨wipeE env vs, bs1 ++ [D], h' ++ [.lst acc], it, er1.mono (e'.trans e2), rp2, rit, ?_⟩
    cases qg : g it (wipeE env vs) (h' ++ [.lst acc]) with
    | bad => rw [qg] at q'; exact absurd q'.symm nb
    | ex c f h3 => rw [qg] at q'; exact absurd q'.symm nb
    | ok env2 h2 =>
      rw [qg] at q'
      intro bs2 H2 σ2 e3 rp3 er3 hw
      refine ⟨hw.trans (wipe_at (wipe_length σ vs) fun j hj => wipe_out hj), env2, bs2, h2, er3, rp3, ?_⟩
      have q2 : (tt env2 h2).nbind _ = r := q'
      cases qt : tt env2 h2 with
      | bad => rw [qt] at q2; exact absurd q2.symm nb
      | ex c f h3 => rw [qt] at q2; exact absurd q2.symm nb
      | ok b h3 =>
        rw [qt] at q2
        rintro bs3 H3 b' e4 rp4 rfl
        have e13 : Ext bs1 H1 bs3 H3 := ((e'.trans e2).trans e3).trans e4
        have p3 : bs1 ++ [D] <+: bs3 := (e2.trans (e3.trans e4)).pre
        cases b with
        | false =>
          rw [if_neg Bool.false_ne_true]
          have q3 : (match h3[h'.length]? with
            | some (.lst a) => lcGo g tt te (wipeE env vs) (items.drop (i + 1)) a (h3.take h'.length)
            | _ => .bad) = r := q2
          cases qh : h3[h'.length]? with
          | none => rw [qh] at q3; exact absurd q3.symm nb
          | some ob =>
            rw [qh] at q3
            cases ob with
            | lst a =>
              obtain ⟨b1, hb1, ro⟩ := rp4.at_ _ _ qh
              rw [hlb, lD p3] at hb1
              cases hb1
              refine ⟨h3.take h'.length, a, ?_, ?_, ?_, q3⟩
              · have := (List.getElem?_eq_some_iff.mp qh).1
                simp; omega
              · exact ⟨List.prefix_append _ _, e13.keep, fun z hz => e13.new z (p3.subset hz)⟩
              · have hc := rp4.cut p3 (n := h'.length + 1) (by simp [hlb])
                have ht : h3.take (h'.length + 1) = h3.take h'.length ++ [.lst a] := by
                  rw [List.take_add_one, qh]; rfl
                rw [ht] at hc
                exact hc
            | _ => exact absurd q3.symm nb
        | true =>
          rw [if_pos rfl]
          refine ⟨env2, bs3, h3, er3.mono e4, rp4, ?_⟩
          have q3 : (te env2 h3).nbind _ = r := q2
          cases qe : te env2 h3 with
          | bad => rw [qe] at q3; exact absurd q3.symm nb
          | ex c f h4 => rw [qe] at q3; exact absurd q3.symm nb
          | ok y h4 =>
            rw [qe] at q3
            intro bs4 H4 v e5 rp5 ry
            have q4 : (if pur y = true ∧ acc.length < lim then (match h4[h'.length]? with
              | some (.lst a) => if a.length < lim then lcGo g tt te (wipeE env vs) (items.drop (i + 1)) (a ++ [y]) (h4.take h'.length) else .bad
              | _ => .bad) else .bad) = r := q3
            by_cases hc1 : pur y = true ∧ acc.length < lim
            · rw [if_pos hc1] at q4
              cases qh : h4[h'.length]? with
              | none => rw [qh] at q4; exact absurd q4.symm nb
              | some ob =>
                rw [qh] at q4
                cases ob with
                | lst a =>
                  have q5 : (if a.length < lim then lcGo g tt te (wipeE env vs) (items.drop (i + 1)) (a ++ [y]) (h4.take h'.length) else .bad) = r := q4
                  by_cases hc2 : a.length < lim
                  · rw [if_pos hc2] at q5
                    have p4 : bs1 ++ [D] <+: bs4 := p3.trans e5.pre
                    have e14 := e13.trans e5
                    obtain ⟨b1, hb1, ro⟩ := rp5.at_ _ _ qh
                    have hat : bs4[h'.length]? = some D := by rw [hlb, lD p4]
                    rw [hat] at hb1
                    cases hb1
                    obtain ⟨pa, av, hav, rav⟩ := ro
                    refine ⟨av, hav, by rw [← rav.length, ← lim_eq]; exact hc2, h4.take h'.length, a ++ [y], ?_, ?_, ?_, q5⟩
                    · have := (List.getElem?_eq_some_iff.mp qh).1
                      simp; omega
                    · refine ⟨List.prefix_append _ _, fun z u hz hn => ?_, fun z hz => e14.new z (p4.subset hz)⟩
                      rw [upd_ne (ne_of_none hz hD)]
                      exact e14.keep z u hz hn
                    · have hm : D ∈ bs4 := List.mem_of_getElem? hat
                      have ew : Ext bs4 H4 bs4 (upd H4 D (.lst (av ++ [v]))) := Ext.write hm
                      have hs := rp5.set (x := .lst (a ++ [y])) (o := .lst (av ++ [v])) hat ⟨by rw [purL_append, pa]; simp [purL, hc1.1], av ++ [v], upd_same, (rav.mono ew).append (.cons (ry.mono ew) .nil)⟩
                      have hc := hs.cut p4 (n := h'.length + 1) (by simp [hlb])
                      have ht : (h4.set h'.length (.lst (a ++ [y]))).take (h'.length + 1) = h4.take h'.length ++ [.lst (a ++ [y])] := by
                        have hlt := (List.getElem?_eq_some_iff.mp qh).1
                        rw [List.take_add_one, List.getElem?_set_self hlt, List.take_set_of_le (Nat.le_refl _)]; rfl
                      rw [ht] at hc
                      exact hc
                  · rw [if_neg hc2] at q5; exact absurd q5.symm nb
                | _ => exact absurd q4.symm nb
            · rw [if_neg hc1] at q4; exact absurd q4.symm nb
  · rintro H' ⟨h', acc, hl, e', rp', q'⟩
    rw [List.drop_length] at q'
    have q2 : R.ok acc h' = r := q'
    rw [← q2] at o1
    exact hfin bs1 H1 h' acc D H' hD e' rp' o1
variable {elt tg iter : Expr} {ifs : List Expr} {scope : Scope} {own : List (Str × Nat)} {pos : Pos} {mi : ME (List PV)} {g : PV → ME En} {tt : ME Bool} {te : ME PV}
@[inline] def lcV (m : ME (List PV)) : ME PV := fun env h => (m env h).bind fun acc h1 => .ok (.lst acc) h1
@[inline] def lcN (m : ME (List PV)) : ME PV := fun env h => (m env h).bind fun acc h1 => .ok (.ref h1.length) (h1 ++ [.lst acc])
theorem fin_lcV {σ : L2.St} {Q : VK} (bs : List Addr) (H : Hp) (h : HP) (acc : List PV) (D : Addr) (H' : Hp) (hD : H D = none) (e : Ext bs H (bs ++ [D]) H') (rp : Rep X.K X.mg (bs ++ [D]) (h ++ [.lst acc]) H') (o : Out X.K X.mg (RV X.K X.mg) (fun c d H' => W c d σ H') bs H (R.ok (.lst acc) h) Q) : Q (.ref D) H' := by
  have hl : h.length = bs.length := by have := rp.len; simp at this; omega
  have hc := rp.cut (bs' := bs) (List.prefix_append _ _) (n := h.length) hl
  rw [List.take_left] at hc
  refine o bs H' _ e.cut hc ?_
  obtain ⟨a, ha, ro⟩ := rp.at_ h.length (.lst acc) (by simp)
  rw [hl] at ha
  have : a = D := by simpa using ha.symm
  subst this
  refine ro.value (fun b hb => List.mem_append_left _ hb) ?_
  have := rp.nd
  rw [List.nodup_append] at this
  exact fun z => this.2.2 a z a (by simp) rfl
theorem fin_lcN {σ : L2.St} {Q : VK} (bs : List Addr) (H : Hp) (h : HP) (acc : List PV) (D : Addr) (H' : Hp) (hD : H D = none) (e : Ext bs H (bs ++ [D]) H') (rp : Rep X.K X.mg (bs ++ [D]) (h ++ [.lst acc]) H') (o : Out X.K X.mg (RV X.K X.mg) (fun c d H' => W c d σ H') bs H (R.ok (.ref h.length) (h ++ [.lst acc])) Q) : Q (.ref D) H' := by
  have hl : h.length = bs.length := by have := rp.len; simp at this; omega
  exact o (bs ++ [D]) H' _ e rp (.ref (by rw [hl]; simp))
theorem em_lc (hc : X.calm = true) (hN : X.N.Nodup) (hi : IM X W tg iter mi) (ok : BlkOk X.N X.env.scope scope own)
    (hg : ∀ (s : Shared) (H : Hp) (C : Addr) (cl : List (Str × Addr)) (fp : List Addr), GM (X.blk s H scope (compEnvC scope cl C X.env) fp) (own.map (·.2)) tg g)
    (ht : ∀ (s : Shared) (H : Hp) (C : Addr) (cl : List (Str × Addr)) (fp : List Addr), TsM (X.blk s H scope (compEnvC scope cl C X.env) fp) W0 ifs tt)
    (he : ∀ (s : Shared) (H : Hp) (C : Addr) (cl : List (Str × Addr)) (fp : List Addr), EM (X.blk s H scope (compEnvC scope cl C X.env) fp) W0 elt te) (hs : ∀ x, foldedSetIterable iter X.env x = Pure.pure x := by intro _; rfl) :
    EM X W (.ListComp elt [⟨tg, iter, ifs, 0⟩] scope pos) (lcV (lcM mi g tt te (own.map (·.2)))) := PE.imp (pe_lc hc hN hi ok hg ht he hs) fun σ H Q o => sim_lc fin_lcV o
theorem em_lcN (hc : X.calm = true) (hN : X.N.Nodup) (hi : IM X W tg iter mi) (ok : BlkOk X.N X.env.scope scope own)
    (hg : ∀ (s : Shared) (H : Hp) (C : Addr) (cl : List (Str × Addr)) (fp : List Addr), GM (X.blk s H scope (compEnvC scope cl C X.env) fp) (own.map (·.2)) tg g)
    (ht : ∀ (s : Shared) (H : Hp) (C : Addr) (cl : List (Str × Addr)) (fp : List Addr), TsM (X.blk s H scope (compEnvC scope cl C X.env) fp) W0 ifs tt)
    (he : ∀ (s : Shared) (H : Hp) (C : Addr) (cl : List (Str × Addr)) (fp : List Addr), EM (X.blk s H scope (compEnvC scope cl C X.env) fp) W0 elt te) (hs : ∀ x, foldedSetIterable iter X.env x = Pure.pure x := by intro _; rfl) :
    EM X W (.ListComp elt [⟨tg, iter, ifs, 0⟩] scope pos) (lcN (lcM mi g tt te (own.map (·.2)))) := PE.imp (pe_lc hc hN hi ok hg ht he hs) fun σ H Q o => sim_lc fin_lcN o
theorem sm_setLc {i : Nat} {y : Str} {py spos : Pos} (hc : X.calm = true) (hN : X.N.Nodup) (hy : X.N[i]? = some y) (hyl : X.env.scope.names.lookup y = some .local)
    (hsw : swapsWith (.ListComp elt [⟨tg, iter, ifs, 0⟩] scope pos) (some (.Name y py)) spos.line X.env = Pure.pure true) (hi : IM X W tg iter mi) (ok : BlkOk X.N X.env.scope scope own)
    (hg : ∀ (s : Shared) (H : Hp) (C : Addr) (cl : List (Str × Addr)) (fp : List Addr), GM (X.blk s H scope (compEnvC scope cl C X.env) fp) (own.map (·.2)) tg g)
    (ht : ∀ (s : Shared) (H : Hp) (C : Addr) (cl : List (Str × Addr)) (fp : List Addr), TsM (X.blk s H scope (compEnvC scope cl C X.env) fp) W0 ifs tt)
    (he : ∀ (s : Shared) (H : Hp) (C : Addr) (cl : List (Str × Addr)) (fp : List Addr), EM (X.blk s H scope (compEnvC scope cl C X.env) fp) W0 elt te) (hs : ∀ x, foldedSetIterable iter X.env x = Pure.pure x := by intro _; rfl) :
    SM X W (.Assign [.Name y py] (.ListComp elt [⟨tg, iter, ifs, 0⟩] scope pos) spos) (set i (lcV (lcM mi g tt te (own.map (·.2))))) := PS.imp (ps_setLc hc hN hy hyl hsw hi ok hg ht he hs) fun D σ H o => by
  have := sim_set (X := X) (W := W) o
  exact sim_lc fin_lcV this
theorem sm_setLcN {i : Nat} {y : Str} {py spos : Pos} (hc : X.calm = true) (hN : X.N.Nodup) (hy : X.N[i]? = some y) (hyl : X.env.scope.names.lookup y = some .local)
    (hsw : swapsWith (.ListComp elt [⟨tg, iter, ifs, 0⟩] scope pos) (some (.Name y py)) spos.line X.env = Pure.pure true) (hi : IM X W tg iter mi) (ok : BlkOk X.N X.env.scope scope own)
    (hg : ∀ (s : Shared) (H : Hp) (C : Addr) (cl : List (Str × Addr)) (fp : List Addr), GM (X.blk s H scope (compEnvC scope cl C X.env) fp) (own.map (·.2)) tg g)
    (ht : ∀ (s : Shared) (H : Hp) (C : Addr) (cl : List (Str × Addr)) (fp : List Addr), TsM (X.blk s H scope (compEnvC scope cl C X.env) fp) W0 ifs tt)
    (he : ∀ (s : Shared) (H : Hp) (C : Addr) (cl : List (Str × Addr)) (fp : List Addr), EM (X.blk s H scope (compEnvC scope cl C X.env) fp) W0 elt te) (hs : ∀ x, foldedSetIterable iter X.env x = Pure.pure x := by intro _; rfl) :
    SM X W (.Assign [.Name y py] (.ListComp elt [⟨tg, iter, ifs, 0⟩] scope pos) spos) (set i (lcN (lcM mi g tt te (own.map (·.2))))) := PS.imp (ps_setLc hc hN hy hyl hsw hi ok hg ht he hs) fun D σ H o => by
  have := sim_set (X := X) (W := W) o
  exact sim_lc fin_lcN this
end
end Sm

namespace Sm
open PySem PySem.Spec PyProof.Rows L2

section
variable {K : PySem.W.Frag} {mg : Str → Option Value} {bs : List Addr} {H : Hp} {h : HP} {x : PV} {v : V}
/-! ### lists and tuples by what they hold -/
@[inline] def lstOf (h : HP) : PV → Option (List PV)
  | .lst xs => some xs
  | .ref n => (match h[n]? with
    | some (.lst xs) => some xs
    | _ => none)
  | _ => none
@[inline] def seqOf (h : HP) : PV → Option (List PV)
  | .tup xs => some xs
  | .wtp xs => some xs
  | .scr xs => some xs
  | x => lstOf h x
theorem ref_at (rp : Rep K mg bs h H) {n : Nat} {a : Addr} (q : bs[n]? = some a) {o : PV} (e : h[n]? = some o) : RO K mg bs H o a := by
  obtain ⟨b, hb, ro⟩ := rp.at_ n o e
  rw [q] at hb; cases hb
  exact ro
theorem lstOf_ok (rp : Rep K mg bs h H) (rx : RV K mg bs H x v) {xs : List PV} (e : lstOf h x = some xs) : ∃ a vs, v = .ref a ∧ H a = some (.lst vs) ∧ RVs K mg bs H xs vs ∧ purL xs = true := by
  cases rx with
  | lst q hn hp rs => cases e; exact ⟨_, _, rfl, q, rs, hp⟩
  | @ref n a q =>
    have e : (match h[n]? with
      | some (.lst xs) => some xs
      | _ => none) = some xs := e
    cases eh : h[n]? with
    | none => rw [eh] at e; cases e
    | some o =>
      rw [eh] at e
      cases o with
      | lst ys =>
        have : ys = xs := by injection e
        subst this
        obtain ⟨hp, vs, q2, rs⟩ := ref_at rp q eh
        exact ⟨a, vs, rfl, q2, rs, hp⟩
      | _ => cases e
  | _ => cases e
theorem seqOf_ok (rp : Rep K mg bs h H) (rx : RV K mg bs H x v) {xs : List PV} (e : seqOf h x = some xs) : ∃ a vs, v = .ref a ∧ (SqL K H a vs ∨ SqT K H a vs) ∧ RVs K mg bs H xs vs := by
  cases rx with
  | tup t rs => cases e; exact ⟨_, _, rfl, .inr t.sq, rs⟩
  | wtp t hn rs => cases e; exact ⟨_, _, rfl, .inr (SqT.of t), rs⟩
  | scr q hn hp rs => cases e; exact ⟨_, _, rfl, .inl (.inl (.inr ⟨_, q⟩)), rs⟩
  | lst q hn hp rs =>
    obtain ⟨a, vs, e1, e2, rs, _⟩ := lstOf_ok rp (.lst q hn hp rs) (show lstOf h (.lst _) = some xs from e)
    exact ⟨a, vs, e1, .inl (SqL.of e2), rs⟩
  | @ref n a q =>
    obtain ⟨a, vs, e1, e2, rs, _⟩ := lstOf_ok rp (.ref q) (show lstOf h (.ref n) = some xs from e)
    exact ⟨a, vs, e1, .inl (SqL.of e2), rs⟩
  | _ => cases e
/-- what stands at a ref, else the value itself -/
@[inline] def val (h : HP) : PV → PV
  | .ref n => h.getD n .non
  | x => x
end

/-! ### ints -/
@[inline] def i2 (g : Int → Int → PV) : PV → PV → M PV := fun x y h => match x, y with
  | .int i, .int j => .ok (g i j) h
  | _, _ => .bad
@[inline] def i2c (c : Int → Int → Bool) (g : Int → Int → PV) : PV → PV → M PV := fun x y h => match x, y with
  | .int i, .int j => (match c i j with
    | true => .ok (g i j) h
    | false => .bad)
  | _, _ => .bad
section
variable {X : Cx}
theorem sim_i2 {g : Int → Int → PV} {g' : Int → Int → V} (hg : ∀ i j bs H, RV X.K X.mg bs H (g i j) (g' i j)) : Sim2 X (rI0 g') (i2 g) := by
  intro W bs h H x y v w Q rp rx ry o
  cases rx with
  | int i =>
    cases ry with
    | int j => exact ⟨i, j, rfl, rfl, o.here rp (hg i j bs H)⟩
    | _ => exact o.elim
  | _ => exact o.elim
theorem sim_i2c {c : Int → Int → Bool} {C : Int → Int → Prop} {g : Int → Int → PV} {g' : Int → Int → V} (hc : ∀ i j, c i j = true → C i j) (hg : ∀ i j bs H, c i j = true → RV X.K X.mg bs H (g i j) (g' i j)) : Sim2 X (rI C g') (i2c c g) := by
  intro W bs h H x y v w Q rp rx ry o
  cases rx with
  | int i =>
    cases ry with
    | int j =>
      cases e : c i j with
      | true => simp only [i2c, e] at o; exact ⟨i, j, rfl, rfl, hc i j e, o.here rp (hg i j bs H e)⟩
      | false => simp only [i2c, e] at o; exact o.elim
    | _ => exact o.elim
  | _ => exact o.elim
def subM : PV → PV → M PV := i2 fun i j => .int (i - j)
def mulB (i j : Int) : Bool := decide (i.natAbs < 18446744073709551616) || decide (j.natAbs < 18446744073709551616)
def divB (_ j : Int) : Bool := decide (0 < j) && decide (j < 18446744073709551616)
def modB (_ j : Int) : Bool := decide (0 < j)
def powB (i j : Int) : Bool := decide (0 ≤ j) && decide (j ≤ 1000000) && decide (i.natAbs < 18446744073709551616)
def shlB (i j : Int) : Bool := decide (0 ≤ i) && decide (0 ≤ j) && decide (j ≤ 1000000) && decide (i.natAbs.log2 < 1000000)
def orB (i j : Int) : Bool := decide (0 ≤ i) && decide (0 ≤ j)
def fdivM : PV → PV → M PV := i2c divB fun i j => .int (i / j)
def modM : PV → PV → M PV := i2c modB fun i j => .int (i % j)
def powM : PV → PV → M PV := i2c powB fun i j => .int (i ^ j.toNat)
def shlM : PV → PV → M PV := i2c shlB fun i j => .int (i * 2 ^ j.toNat)
def orM : PV → PV → M PV := i2c orB fun i j => .int ((i.toNat ||| j.toNat : Nat) : Int)
theorem sim_sub : Sim2 X (rI0 fun i j => .int (i - j)) subM := sim_i2 fun i j _ _ => .int _
theorem mulB_ok {i j : Int} (h : mulB i j = true) : CMul i j := by
  unfold mulB at h
  rw [Bool.or_eq_true] at h
  rcases h with h | h
  · have := of_decide_eq_true h; exact .inl (by omega)
  · have := of_decide_eq_true h; exact .inr (by omega)
theorem sim_fdiv : Sim2 X (rI CDivW fun i j => .int (i / j)) fdivM := sim_i2c (fun i j h => by
  unfold divB at h
  rw [Bool.and_eq_true] at h
  have h1 := of_decide_eq_true h.1
  have h2 := of_decide_eq_true h.2
  exact wide_div (b := 64) h1 (by have : (2 : Nat) ^ 64 = 18446744073709551616 := by decide
                                  omega) (by decide) (by decide)) fun i j _ _ _ => .int _
theorem sim_mod : Sim2 X (rI (fun _ j => 0 < j) fun i j => .int (i % j)) modM := sim_i2c (fun i j h => of_decide_eq_true h) fun i j _ _ _ => .int _
theorem sim_pow : Sim2 X (rI CPow fun i j => .int (i ^ j.toNat)) powM := sim_i2c (fun i j h => by
  unfold powB at h
  rw [Bool.and_eq_true, Bool.and_eq_true] at h
  refine ⟨of_decide_eq_true h.1.1, of_decide_eq_true h.1.2, ?_⟩
  have h3 := of_decide_eq_true h.2
  have : (2 : Nat) ^ 64 = 18446744073709551616 := by decide
  omega) fun i j _ _ _ => .int _
theorem sim_shl : Sim2 X (rI CShl fun i j => .int (i * 2 ^ j.toNat)) shlM := sim_i2c (fun i j h => by
  unfold shlB at h
  rw [Bool.and_eq_true, Bool.and_eq_true, Bool.and_eq_true] at h
  have h1 := of_decide_eq_true h.1.1.2
  have h2 := of_decide_eq_true h.1.2
  have h3 := of_decide_eq_true h.2
  have b : Builtin.Int.intBits i ≤ i.natAbs.log2 + 1 := by
    unfold Builtin.Int.intBits
    split <;> omega
  refine ⟨h1, ?_⟩
  have : (2 : Int) ^ 27 = 134217728 := by decide
  omega) fun i j _ _ _ => .int _
theorem sim_or : Sim2 X (rI (fun i j => 0 ≤ i ∧ 0 ≤ j) fun i j => .int (Builtin.bitOr i j)) orM := sim_i2c (fun i j h => by
  unfold orB at h
  rw [Bool.and_eq_true] at h
  exact ⟨of_decide_eq_true h.1, of_decide_eq_true h.2⟩) fun i j bs H h => by
  unfold orB at h
  rw [Bool.and_eq_true] at h
  rw [bitOr_nn (of_decide_eq_true h.1) (of_decide_eq_true h.2)]
  exact .int _
theorem op_orC : OpR X (binaryOp .BitOr) (rI (fun i j => 0 ≤ i ∧ 0 ≤ j) fun i j => .int (Builtin.bitOr i j)) := by
  intro pins s σ H x y v u Q I rx ry hh
  obtain ⟨i, j, e1, e2, _, q⟩ := hh
  exact op_or pins s σ H x y v u Q I rx ry ⟨i, j, e1, e2, q⟩
def negM : PV → M PV := fun x h => match x with
  | .int i => .ok (.int (-i)) h
  | _ => .bad
theorem sim_neg : Sim1 X (rU fun i => .int (-i)) negM := by
  intro W bs h H x v Q rp rx o
  cases rx with
  | int i => exact ⟨i, rfl, o.here rp (.int _)⟩
  | _ => exact o.elim

/-! ### +, * -/
def addM : PV → PV → M PV := fun x y h => match x, y with
  | .int i, .int j => .ok (.int (i + j)) h
  | .str s, .str t => if s.length + t.length ≤ lim then .ok (.str (s ++ t)) h else .bad
  | .tup xs, .tup ys => if xs.length + ys.length ≤ lim then .ok (.tup (xs ++ ys)) h else .bad
  | x, y => (match lstOf h x, lstOf h y with
    | some xs, some ys => if xs.length + ys.length ≤ lim then .ok (.lst (xs ++ ys)) h else .bad
    | _, _ => .bad)
/-- t + u: a new tuple, known to the object -/
def rCatF (K : PySem.W.Frag) : R2 := fun x y H Q => ∃ a b xs ys, x = .ref a ∧ y = .ref b ∧ SqT K H a xs ∧ SqT K H b ys ∧ xs.length + ys.length ≤ sizeLine ∧
  (xs = [] → Q (.ref b) H) ∧ (xs ≠ [] → ys = [] → Q (.ref a) H) ∧ (xs ≠ [] → ys ≠ [] → ∀ (p : Addr) (ob : Obj), H p = none → ob.dict = none → Q (.ref p) (upd H p (.frz ob (.tup (xs ++ ys)))))
theorem op_catF : OpR X (binaryOp .Add) (rCatF X.K) := by
  intro pins s σ H x y v u Q I rx ry h
  obtain ⟨a, b, xs, ys, rfl, rfl, ha, hb, hz, q0, q1, q2⟩ := h
  by_cases hx : xs = []
  · exact op_catA pins s σ H _ _ v u Q I rx ry ⟨a, b, xs, ys, rfl, rfl, ha, hb, hz, q0, q1, fun z => absurd hx z⟩
  · by_cases hy : ys = []
    · exact op_catA pins s σ H _ _ v u Q I rx ry ⟨a, b, xs, ys, rfl, rfl, ha, hb, hz, q0, q1, fun _ z => absurd hy z⟩
    · cases rx
      cases ry
      obtain ⟨its, r1, p1, _⟩ := I.tuple ha
      obtain ⟨its2, r2, p2, _⟩ := I.tuple hb
      refine HT.cat_tup p1 p2 (fun z => hx (r1.nil_iff.mp z)) (fun z => absurd (r2.nil_iff.mp z) hy) (fun z => ?_) (by rw [← r1.length, ← r2.length]; exact hz)
      refine ⟨.ref s.heap.objs.size, _, I.laid (t' := s.toks) (o := .frz { cls := .type "tuple", data := .seq (its ++ its2).toArray } (.tup (xs ++ ys))) (fun b ob q => Heap.get?_push_of_some _ q) (Nat.le_refl _) ?_, rfl, q2 hx hy _ _ (I.hok.fresh (Nat.le_refl _)) rfl⟩
      exact ⟨Heap.get?_push_size _ rfl, by rw [List.length_append]; exact hz, _, r1.append r2, IsTup.new _ _⟩
def rAddA (K : PySem.W.Frag) : R2 := fun x y H Q => (∃ i j, x = .int i ∧ y = .int j ∧ Q (.int (i + j)) H) ∨ (∃ i j, x = .str i ∧ y = .str j ∧ i.length + j.length ≤ sizeLine ∧ Q (.str (i ++ j)) H) ∨ rCatF K x y H Q ∨ rCat x y H Q
theorem op_addA : OpR X (binaryOp .Add) (rAddA X.K) := by
  intro pins s σ H x y v u Q I rx ry hh
  rcases hh with hh | hh | hh | hh
  · exact op_add pins s σ H x y v u Q I rx ry hh
  · exact op_add_str pins s σ H x y v u Q I rx ry hh
  · exact op_catF pins s σ H x y v u Q I rx ry hh
  · exact op_cat pins s σ H x y v u Q I rx ry hh
end
end Sm

namespace Sm
open PySem PySem.Spec PyProof.Rows L2

theorem str_app (s t : List Nat) : (⟨s.toArray⟩ : Str) ++ ⟨t.toArray⟩ = ⟨(s ++ t).toArray⟩ := by
  show Str.append _ _ = _
  unfold Str.append
  simp
theorem str_len (s : List Nat) : (⟨s.toArray⟩ : Str).length = s.length := by simp [Str.length]
section
variable {X : Cx}
theorem sim_add : Sim2 X (rAddA X.K) addM := by
  intro W bs h H x y v w Q rp rx ry o
  have lists : Out X.K X.mg (RV X.K X.mg) W bs H (match lstOf h x, lstOf h y with
      | some xs, some ys => if xs.length + ys.length ≤ lim then R.ok (.lst (xs ++ ys)) h else .bad
      | _, _ => .bad) Q → rAddA X.K v w H Q := fun o => by
    cases ex : lstOf h x with
    | none => rw [ex] at o; exact o.elim
    | some xs =>
      cases ey : lstOf h y with
      | none => rw [ex, ey] at o; exact o.elim
      | some ys =>
        rw [ex, ey] at o
        obtain ⟨a, vs, rfl, ha, ra, pa⟩ := lstOf_ok rp rx ex
        obtain ⟨b, ws, rfl, hb, rb, pb⟩ := lstOf_ok rp ry ey
        by_cases hl : xs.length + ys.length ≤ lim
        · have o2 : Out X.K X.mg (RV X.K X.mg) W bs H (R.ok (.lst (xs ++ ys)) h) Q := by simpa only [hl, if_true] using o
          refine .inr (.inr (.inr ⟨a, b, vs, ws, rfl, rfl, ha, hb, by rw [← ra.length, ← rb.length, ← lim_eq]; exact hl, fun p hp => ?_⟩))
          exact o2 bs _ _ (Ext.fresh hp) (rp.fresh hp) (.lst upd_same (rp.free hp) (by rw [purL_append, pa, pb]; rfl) ((ra.append rb).mono (Ext.fresh hp)))
        · simp only [hl, if_false] at o; exact o.elim
  cases rx with
  | int i =>
    cases ry with
    | int j => exact .inl ⟨i, j, rfl, rfl, o.here rp (.int _)⟩
    | _ => exact o.elim
  | str s =>
    cases ry with
    | str t =>
      by_cases hl : s.length + t.length ≤ lim
      · have o2 : Out X.K X.mg (RV X.K X.mg) W bs H (R.ok (.str (s ++ t)) h) Q := by
          have : addM (.str s) (.str t) h = .ok (.str (s ++ t)) h := by simp only [addM, hl, if_true]
          rw [← this]; exact o
        refine .inr (.inl ⟨_, _, rfl, rfl, by rw [str_len, str_len, ← lim_eq]; exact hl, ?_⟩)
        rw [str_app]
        exact o2.here rp (.str _)
      · simp only [addM, hl, if_false] at o; exact o.elim
    | _ => exact o.elim
  | @tup xs a vs t rs =>
    cases ry with
    | @tup ys b ws t2 rs2 =>
      by_cases hl : xs.length + ys.length ≤ lim
      · have o2 : Out X.K X.mg (RV X.K X.mg) W bs H (R.ok (.tup (xs ++ ys)) h) Q := by
          have : addM (.tup xs) (.tup ys) h = .ok (.tup (xs ++ ys)) h := by simp only [addM, hl, if_true]
          rw [← this]; exact o
        refine .inr (.inr (.inl ⟨a, b, vs, ws, rfl, rfl, t.sq, t2.sq, by rw [← rs.length, ← rs2.length, ← lim_eq]; exact hl, fun e => ?_, fun _ e => ?_, fun _ _ p ob hp hd => ?_⟩))
        · subst e
          cases rs
          exact o2.here rp (.tup t2 rs2)
        · subst e
          cases rs2
          rw [List.append_nil] at o2
          exact o2.here rp (.tup t rs)
        · exact o2 bs _ _ (Ext.fresh hp) (rp.fresh hp) (.tup (.inl ⟨⟨ob, upd_same, hd⟩, rp.free hp⟩) ((rs.append rs2).mono (Ext.fresh hp)))
      · simp only [addM, hl, if_false] at o; exact o.elim
    | _ => exact o.elim
  | lst q hn hp rs => exact lists (by cases ry <;> exact o)
  | ref q => exact lists (by cases ry <;> exact o)
  | _ => exact o.elim

/-! ### ==: data at any depth -/
mutual
def dOk : Nat → PV → Bool
  | _, .non => true
  | _, .bl _ => true
  | _, .int _ => true
  | _, .str s => s.all (fun c => decide (c < 1114112))
  | 0, _ => false
  | n + 1, .tup xs => dOkL n xs
  | n + 1, .wtp xs => dOkL n xs
  | n + 1, .lst xs => dOkL n xs
  | _ + 1, _ => false
def dOkL : Nat → List PV → Bool
  | _, [] => true
  | n, x :: xs => dOk n x && dOkL n xs
end
mutual
def toD : PV → PyData
  | .bl b => .bool b
  | .int i => .int i
  | .str s => .str ⟨s.toArray⟩
  | .tup xs => .tuple (toDL xs)
  | .wtp xs => .tuple (toDL xs)
  | .lst xs => .list (toDL xs)
  | _ => .none
def toDL : List PV → List PyData
  | [] => []
  | x :: xs => toD x :: toDL xs
end
mutual
def peq : PV → PV → Bool
  | .non, .non => true
  | .bl a, .bl b => a == b
  | .bl a, .int j => (if a then 1 else 0) == j
  | .int i, .bl b => i == (if b then 1 else 0)
  | .int i, .int j => i == j
  | .str x, .str y => x == y
  | .lst xs, .lst ys => peqL xs ys
  | .tup xs, .tup ys => peqL xs ys
  | .tup xs, .wtp ys => peqL xs ys
  | .wtp xs, .tup ys => peqL xs ys
  | .wtp xs, .wtp ys => peqL xs ys
  | _, _ => false
def peqL : List PV → List PV → Bool
  | [], [] => true
  | x :: xs, y :: ys => peq x y && peqL xs ys
  | _, _ => false
end
mutual
theorem dp_of {K : PySem.W.Frag} {mg : Str → Option Value} {bs : List Addr} {H : Hp} : ∀ {x : PV} {v : V} {n : Nat}, RV K mg bs H x v → dOk n x = true → Dp K H v (toD x)
  | _, _, _, .non, _ => .non
  | _, _, _, .bl b, _ => .bl b
  | _, _, _, .int i, _ => .int i
  | _, _, _, .str s, _ => .str _
  | _, _, n + 1, .tup t rs, h => .tup t.sq (dpL_of rs (show dOkL n _ = true from h))
  | _, _, 0, .tup t rs, h => nomatch (show false = true from h)
  | _, _, n + 1, .wtp t hn rs, h => .tup (SqT.of t) (dpL_of rs (show dOkL n _ = true from h))
  | _, _, 0, .wtp t hn rs, h => nomatch (show false = true from h)
  | _, _, n + 1, .lst q hn hp rs, h => .lst (SqL.of q) (dpL_of rs (show dOkL n _ = true from h))
  | _, _, 0, .lst q hn hp rs, h => nomatch (show false = true from h)
  | _, _, n, .scr q hn hp rs, h => by cases n <;> exact nomatch (show false = true from h)
  | _, _, n, .ins m q l hn hp rs, h => by cases n <;> exact nomatch (show false = true from h)
  | _, _, n, .dK q hn k hp rs, h => by cases n <;> exact nomatch (show false = true from h)
  | _, _, n, .dT q hn k hp rs, h => by cases n <;> exact nomatch (show false = true from h)
  | _, _, n, .ref q, h => by cases n <;> exact nomatch (show false = true from h)
theorem dpL_of {K : PySem.W.Frag} {mg : Str → Option Value} {bs : List Addr} {H : Hp} : ∀ {xs : List PV} {vs : List V} {n : Nat}, RVs K mg bs H xs vs → dOkL n xs = true → DpAll K H vs (toDL xs)
  | _, _, _, .nil, _ => .nil
  | _, _, _, .cons r rs, h => .cons (dp_of r (Bool.and_eq_true_iff.mp h).1) (dpL_of rs (Bool.and_eq_true_iff.mp h).2)
end
mutual
theorem lay_of : ∀ {x : PV} {n : Nat}, dOk n x = true → (toD x).canLay0 = true ∧ (toD x).depth ≤ n
  | .non, _, _ => ⟨rfl, Nat.zero_le _⟩
  | .bl _, _, _ => ⟨rfl, Nat.zero_le _⟩
  | .int _, _, _ => ⟨rfl, Nat.zero_le _⟩
  | .str s, n, h => by
    refine ⟨?_, Nat.zero_le _⟩
    show PyData.strOk ⟨s.toArray⟩ = true
    have h' : s.all (fun c => decide (c < 1114112)) = true := by cases n <;> exact h
    unfold PyData.strOk
    simpa using h'
  | .tup xs, 0, h => nomatch (show false = true from h)
  | .tup xs, n + 1, h => by
    have q := layL_of (xs := xs) (n := n) h
    exact ⟨q.1, Nat.succ_le_succ q.2⟩
  | .wtp xs, 0, h => nomatch (show false = true from h)
  | .wtp xs, n + 1, h => by
    have q := layL_of (xs := xs) (n := n) h
    exact ⟨q.1, Nat.succ_le_succ q.2⟩
  | .lst xs, 0, h => nomatch (show false = true from h)
  | .lst xs, n + 1, h => by
    have q := layL_of (xs := xs) (n := n) h
    exact ⟨q.1, Nat.succ_le_succ q.2⟩
  | .scr _, n, h => by cases n <;> exact nomatch (show false = true from h)
  | .ins _ _, n, h => by cases n <;> exact nomatch (show false = true from h)
  | .dct _ _, n, h => by cases n <;> exact nomatch (show false = true from h)
  | .ref _, n, h => by cases n <;> exact nomatch (show false = true from h)
theorem layL_of : ∀ {xs : List PV} {n : Nat}, dOkL n xs = true → PyData.canLayAll0 (toDL xs) = true ∧ PyData.depthAll (toDL xs) ≤ n
  | [], _, _ => ⟨rfl, Nat.zero_le _⟩
  | x :: xs, n, h => by
    have h1 := lay_of (Bool.and_eq_true_iff.mp h).1
    have h2 := layL_of (Bool.and_eq_true_iff.mp h).2
    refine ⟨?_, ?_⟩
    · show ((toD x).canLay0 && PyData.canLayAll0 (toDL xs)) = true
      rw [h1.1, h2.1]; rfl
    · show max (toD x).depth (PyData.depthAll (toDL xs)) ≤ n
      omega
end
theorem shaped_of {x : PV} (h : dOk 64 x = true) : SeqAt.shaped (toD x) = true := by
  have q := lay_of h
  unfold SeqAt.shaped
  rw [q.1, decide_eq_true q.2]; rfl
theorem str_beq (s t : List Nat) : ((⟨s.toArray⟩ : Str) == ⟨t.toArray⟩) = (s == t) := by
  by_cases h : s = t
  · subst h; simp
  · have : (⟨s.toArray⟩ : Str) ≠ ⟨t.toArray⟩ := fun e => h (by injection e with e; simpa using congrArg Array.toList e)
    rw [beq_eq_false_iff_ne.mpr this, beq_eq_false_iff_ne.mpr h]
mutual
theorem eqv_of : ∀ {x y : PV} {n m : Nat}, dOk n x = true → dOk m y = true → PyData.eqv (toD x) (toD y) = peq x y
  | .non, y, n, m, hx, hy => by cases y <;> first | rfl | (cases m <;> exact nomatch (show false = true from hy))
  | .bl a, y, n, m, hx, hy => by cases y <;> first | rfl | (cases m <;> exact nomatch (show false = true from hy))
  | .int a, y, n, m, hx, hy => by cases y <;> first | rfl | (cases m <;> exact nomatch (show false = true from hy))
  | .str a, .str b, n, m, hx, hy => str_beq a b
  | .str a, .non, n, m, hx, hy => rfl
  | .str a, .bl _, n, m, hx, hy => rfl
  | .str a, .int _, n, m, hx, hy => rfl
  | .str a, .tup _, n, m, hx, hy => rfl
  | .str a, .wtp _, n, m, hx, hy => rfl
  | .str a, .lst _, n, m, hx, hy => rfl
  | .str a, .scr _, n, m, hx, hy => by cases m <;> exact nomatch (show false = true from hy)
  | .str a, .ins _ _, n, m, hx, hy => by cases m <;> exact nomatch (show false = true from hy)
  | .str a, .dct _ _, n, m, hx, hy => by cases m <;> exact nomatch (show false = true from hy)
  | .str a, .ref _, n, m, hx, hy => by cases m <;> exact nomatch (show false = true from hy)
  | .tup xs, .tup ys, n + 1, m + 1, hx, hy => eqvL_of (xs := xs) (ys := ys) (n := n) (m := m) hx hy
  | .tup xs, .tup ys, 0, _, hx, hy => nomatch (show false = true from hx)
  | .tup xs, .tup ys, n + 1, 0, hx, hy => nomatch (show false = true from hy)
  | .tup xs, .wtp ys, n + 1, m + 1, hx, hy => eqvL_of (xs := xs) (ys := ys) (n := n) (m := m) hx hy
  | .tup xs, .wtp ys, 0, _, hx, hy => nomatch (show false = true from hx)
  | .tup xs, .wtp ys, n + 1, 0, hx, hy => nomatch (show false = true from hy)
  | .tup xs, .non, n, m, hx, hy => rfl
  | .tup xs, .bl _, n, m, hx, hy => rfl
  | .tup xs, .int _, n, m, hx, hy => rfl
  | .tup xs, .str _, n, m, hx, hy => rfl
  | .tup xs, .lst _, n, m, hx, hy => rfl
  | .tup xs, .scr _, n, m, hx, hy => by cases m <;> exact nomatch (show false = true from hy)
  | .tup xs, .ins _ _, n, m, hx, hy => by cases m <;> exact nomatch (show false = true from hy)
  | .tup xs, .dct _ _, n, m, hx, hy => by cases m <;> exact nomatch (show false = true from hy)
  | .tup xs, .ref _, n, m, hx, hy => by cases m <;> exact nomatch (show false = true from hy)
  | .wtp xs, .tup ys, n + 1, m + 1, hx, hy => eqvL_of (xs := xs) (ys := ys) (n := n) (m := m) hx hy
  | .wtp xs, .tup ys, 0, _, hx, hy => nomatch (show false = true from hx)
  | .wtp xs, .tup ys, n + 1, 0, hx, hy => nomatch (show false = true from hy)
  | .wtp xs, .wtp ys, n + 1, m + 1, hx, hy => eqvL_of (xs := xs) (ys := ys) (n := n) (m := m) hx hy
  | .wtp xs, .wtp ys, 0, _, hx, hy => nomatch (show false = true from hx)
  | .wtp xs, .wtp ys, n + 1, 0, hx, hy => nomatch (show false = true from hy)
  | .wtp xs, .non, n, m, hx, hy => rfl
  | .wtp xs, .bl _, n, m, hx, hy => rfl
  | .wtp xs, .int _, n, m, hx, hy => rfl
  | .wtp xs, .str _, n, m, hx, hy => rfl
  | .wtp xs, .lst _, n, m, hx, hy => rfl
  | .wtp xs, .scr _, n, m, hx, hy => by cases m <;> exact nomatch (show false = true from hy)
  | .wtp xs, .ins _ _, n, m, hx, hy => by cases m <;> exact nomatch (show false = true from hy)
  | .wtp xs, .dct _ _, n, m, hx, hy => by cases m <;> exact nomatch (show false = true from hy)
  | .wtp xs, .ref _, n, m, hx, hy => by cases m <;> exact nomatch (show false = true from hy)
  | .lst xs, .lst ys, n + 1, m + 1, hx, hy => eqvL_of (xs := xs) (ys := ys) (n := n) (m := m) hx hy
  | .lst xs, .lst ys, 0, _, hx, hy => nomatch (show false = true from hx)
  | .lst xs, .lst ys, n + 1, 0, hx, hy => nomatch (show false = true from hy)
  | .lst xs, .non, n, m, hx, hy => rfl
  | .lst xs, .bl _, n, m, hx, hy => rfl
  | .lst xs, .int _, n, m, hx, hy => rfl
  | .lst xs, .str _, n, m, hx, hy => rfl
  | .lst xs, .tup _, n, m, hx, hy => rfl
  | .lst xs, .wtp _, n, m, hx, hy => rfl
  | .lst xs, .scr _, n, m, hx, hy => by cases m <;> exact nomatch (show false = true from hy)
  | .lst xs, .ins _ _, n, m, hx, hy => by cases m <;> exact nomatch (show false = true from hy)
  | .lst xs, .dct _ _, n, m, hx, hy => by cases m <;> exact nomatch (show false = true from hy)
  | .lst xs, .ref _, n, m, hx, hy => by cases m <;> exact nomatch (show false = true from hy)
  | .scr _, y, n, m, hx, hy => by cases n <;> exact nomatch (show false = true from hx)
  | .ins _ _, y, n, m, hx, hy => by cases n <;> exact nomatch (show false = true from hx)
  | .dct _ _, y, n, m, hx, hy => by cases n <;> exact nomatch (show false = true from hx)
  | .ref _, y, n, m, hx, hy => by cases n <;> exact nomatch (show false = true from hx)
theorem eqvL_of : ∀ {xs ys : List PV} {n m : Nat}, dOkL n xs = true → dOkL m ys = true → PyData.eqvAll (toDL xs) (toDL ys) = peqL xs ys
  | [], [], _, _, _, _ => rfl
  | x :: xs, y :: ys, n, m, hx, hy => by
    show (PyData.eqv (toD x) (toD y) && PyData.eqvAll (toDL xs) (toDL ys)) = (peq x y && peqL xs ys)
    rw [eqv_of (Bool.and_eq_true_iff.mp hx).1 (Bool.and_eq_true_iff.mp hy).1, eqvL_of (Bool.and_eq_true_iff.mp hx).2 (Bool.and_eq_true_iff.mp hy).2]
  | [], _ :: _, _, _, _, _ => rfl
  | _ :: _, [], _, _, _, _ => rfl
end
end
end Sm

namespace Sm
open PySem PySem.Spec PyProof.Rows L2

/-! ### operations with their plain functions, as one -/
def OpS (X : Cx) (f : Value → Value → Sem Value) (g : PV → PV → M PV) : Prop := ∃ r, OpR X f r ∧ Sim2 X r g
def UnS (X : Cx) (f : Value → Sem Value) (g : PV → M PV) : Prop := ∃ r, UnR X f r ∧ Sim1 X r g
def CallS (X : Cx) (f : Value) (g : List PV → M PV) : Prop := ∃ r, CallR X f r ∧ SimC X r g
def IxS (X : Cx) (g : PV → PV → M PV) : Prop := ∃ r, IxR X r ∧ Sim2 X r g
section
variable {X : Cx} {W : WX} {a b c : Expr} {ma mb mc : ME PV} {f f' : PV → PV → M PV} {pos : Pos}
theorem OpS.or {F : Value → Value → Sem Value} {g g' k : PV → PV → M PV} (s : OpS X F g) (t : OpS X F g') (hk : ∀ x y h, k x y h = g x y h ∨ k x y h = g' x y h) : OpS X F k := by
  obtain ⟨r, h1, h2⟩ := s
  obtain ⟨r', h1', h2'⟩ := t
  refine ⟨fun x y H Q => r x y H Q ∨ r' x y H Q, fun pins s σ H x y v u Q I rx ry q => ?_, fun W bs h H x y v w Q rp rx ry o => ?_⟩
  · rcases q with q | q
    · exact h1 pins s σ H x y v u Q I rx ry q
    · exact h1' pins s σ H x y v u Q I rx ry q
  · rcases hk x y h with e | e
    · rw [e] at o; exact .inl (h2 W bs h H x y v w Q rp rx ry o)
    · rw [e] at o; exact .inr (h2' W bs h H x y v w Q rp rx ry o)
theorem CallS.or {F : Value} {g g' k : List PV → M PV} (s : CallS X F g) (t : CallS X F g') (hk : ∀ x h, k x h = g x h ∨ k x h = g' x h) : CallS X F k := by
  obtain ⟨r, h1, h2⟩ := s
  obtain ⟨r', h1', h2'⟩ := t
  refine ⟨fun x H Q => r x H Q ∨ r' x H Q, fun pins s σ H x v Q I rx q => ?_, fun W bs h H x v Q rp rx o => ?_⟩
  · rcases q with q | q
    · exact h1 pins s σ H x v Q I rx q
    · exact h1' pins s σ H x v Q I rx q
  · rcases hk x h with e | e
    · rw [e] at o; exact .inl (h2 W bs h H x v Q rp rx o)
    · rw [e] at o; exact .inr (h2' W bs h H x v Q rp rx o)
theorem em_bop {op : Operator} (s : OpS X (binaryOp op) f) (ha : EM X W a ma) (hb : EM X W b mb) : EM X W (.BinOp a op b pos) (bin ma mb f) := by
  obtain ⟨r, h1, h2⟩ := s
  exact em_op h1 h2 ha hb
theorem em_uop {op : UnaryOp} {f : PV → M PV} (s : UnS X (unaryOp op) f) (ha : EM X W a ma) : EM X W (.UnaryOp op a pos) (un ma f) := by
  obtain ⟨r, h1, h2⟩ := s
  exact em_un h1 h2 ha
theorem em_cop {op : CmpOp} (s : OpS X (compareOp op) f) (ha : EM X W a ma) (hb : EM X W b mb) (hm : behindInMarks op b = false) : EM X W (.Compare a [op] [b] pos) (bin ma mb f) := by
  obtain ⟨r, h1, h2⟩ := s
  exact em_cmp h1 h2 ha hb hm
theorem tm_cop {op : CmpOp} (s : OpS X (compareOp op) f) (ha : EM X W a ma) (hb : EM X W b mb) (hm : behindInMarks op b = false) : TM X W (.Compare a [op] [b] pos) (tst (bin ma mb f)) := by
  obtain ⟨r, h1, h2⟩ := s
  exact tm_cmp h1 h2 ha hb hm
theorem em_sub (s : IxS X f) (ha : EM X W a ma) (hb : EM X W b mb) (hs : PlainIx b) : EM X W (.Subscript a b pos) (bin ma mb f) := by
  obtain ⟨r, h1, h2⟩ := s
  exact em_ix h1 h2 ha hb hs
theorem sim_chn {r r' : R2} (hr : Sim2 X r f) (hr' : Sim2 X r' f') {σ : L2.St} {H : Hp} {Q : VK} (o : tM X.K X.mg W (chn ma mb mc f f') σ H Q) : tChain r r' (tM X.K X.mg W ma) (tM X.K X.mg W mb) (tM X.K X.mg W mc) σ H Q := by
  obtain ⟨env, bs, h, er, rp, o⟩ := o
  refine ⟨env, bs, h, er, rp, Out.bind o ?_⟩
  rintro v H1 ⟨bs1, h1, x, e1, rp1, rx, o1⟩
  refine ⟨env, bs1, h1, er.mono e1, rp1, Out.bind o1 ?_⟩
  rintro w H2 ⟨bs2, h2, y, e2, rp2, ry, o2⟩
  refine hr _ bs2 h2 H2 x y v w _ rp2 (rx.mono e2) ry (Out.bind o2 ?_)
  rintro z H3 ⟨bs3, h3, z', e3, rp3, rz, o3⟩
  cases rz with
  | bl d =>
    refine ⟨d, rfl, ?_⟩
    cases d with
    | true =>
      rw [if_pos rfl]
      refine ⟨env, bs3, h3, ((er.mono e1).mono e2).mono e3, rp3, Out.bind o3 ?_⟩
      rintro u H4 ⟨bs4, h4, u', e4, rp4, ru, o4⟩
      exact hr' _ bs4 h4 H4 y u' w u Q rp4 ((ry.mono e3).mono e4) ru o4
    | false =>
      rw [if_neg Bool.false_ne_true]
      exact o3.here rp3 (.bl false)
  | _ => exact o3.elim
theorem em_chain {op op' : CmpOp} (s : OpS X (compareOp op) f) (s' : OpS X (compareOp op') f') (ha : EM X W a ma) (hb : EM X W b mb) (hc : EM X W c mc)
    (hm : lastMarks [op, op'] [b, c] = false := by with_unfolding_all rfl) :
    EM X W (.Compare a [op, op'] [b, c] pos) (chn ma mb mc f f') := by
  obtain ⟨r, h1, h2⟩ := s
  obtain ⟨r', h1', h2'⟩ := s'
  exact PE.imp (pe_chain h1 h1' ha hb hc hm) fun _ _ _ => sim_chn h2 h2'
theorem tm_chain {op op' : CmpOp} (s : OpS X (compareOp op) f) (s' : OpS X (compareOp op') f') (ha : EM X W a ma) (hb : EM X W b mb) (hc : EM X W c mc)
    (hm : lastMarks [op, op'] [b, c] = false := by with_unfolding_all rfl) :
    TM X W (.Compare a [op, op'] [b, c] pos) (tst (chn ma mb mc f f')) := by
  obtain ⟨r, h1, h2⟩ := s
  obtain ⟨r', h1', h2'⟩ := s'
  exact PT.imp (pt_chain h1 h1' ha hb hc hm) fun _ _ _ o => sim_chn h2 h2' (sim_tB o)
/-- a built-in called by its name -/
theorem em_blt {id : String} {x : Str} {e : Expr} {es : List Expr} {ms : ME (List PV)} {g : List PV → M PV} {p : Pos} (s : CallS X (.builtin id) g) (hg : Gl X x) (hm : X.mg x = none) (hv : bootBuiltins x = some (.builtin id)) (ha : AM X W (e :: es) ms)
    (hn : x ≠ "__name__" := by decide) (hdb : (x == ("__debug__" : Str)) = false := by decide) (he : starEach (e :: es) X.env = (false, eval e X.env) :: starEach es X.env := by rfl) (hpl : (backTo pos (starEach es X.env)).any (·.1) = false := by rfl) :
    EM X W (.Call (.Name x p) (e :: es) [] pos) (app ms g) := by
  obtain ⟨r, h1, h2⟩ := s
  exact PE.imp (pe_callB h1 hg hm hv ha hn hdb he hpl) fun _ _ _ o => sim_app h2 o
theorem em_typ {T : String} {x : Str} {e : Expr} {es : List Expr} {ms : ME (List PV)} {g : List PV → M PV} {p : Pos} (s : CallS X (.type T) g) (hg : Gl X x) (hm : X.mg x = none) (hv : bootBuiltins x = some (.type T)) (ha : AM X W (e :: es) ms)
    (hn : x ≠ "__name__" := by decide) (hdb : (x == ("__debug__" : Str)) = false := by decide) (he : starEach (e :: es) X.env = (false, eval e X.env) :: starEach es X.env := by rfl) (hpl : (backTo pos (starEach es X.env)).any (·.1) = false := by rfl) :
    EM X W (.Call (.Name x p) (e :: es) [] pos) (app ms g) := by
  obtain ⟨r, h1, h2⟩ := s
  exact PE.imp (pe_callTy h1 hg hm hv ha hn hdb he hpl) fun _ _ _ o => sim_app h2 o
end

section
variable {X : Cx}
/-! ### numbers -/
theorem o_add : OpS X (binaryOp .Add) addM := ⟨_, op_addA, sim_add⟩
theorem o_sub : OpS X (binaryOp .Sub) subM := ⟨_, op_sub, sim_sub⟩
theorem o_fdiv : OpS X (binaryOp .FloorDiv) fdivM := ⟨_, op_fdivW, sim_fdiv⟩
theorem o_mod : OpS X (binaryOp .Mod) modM := ⟨_, op_mod, sim_mod⟩
theorem o_pow : OpS X (binaryOp .Pow) powM := ⟨_, op_pow, sim_pow⟩
theorem o_shl : OpS X (binaryOp .LShift) shlM := ⟨_, op_shlW, sim_shl⟩
theorem o_or : OpS X (binaryOp .BitOr) orM := ⟨_, op_orC, sim_or⟩
theorem o_neg : UnS X (unaryOp .USub) negM := ⟨_, un_neg, sim_neg⟩
/-- a text so many times -/
def rMulS : R2 := fun x y H Q => ∃ z n, x = .str z ∧ y = .int n ∧ (n ≤ 100000 ∧ -100000 ≤ n ∧ z.length ≤ 100) ∧ Q (.str (Txt.mul z n)) H
theorem op_mulS : OpR X (binaryOp .Mult) rMulS := by
  intro pins s σ H x y v u Q I rx ry hh
  obtain ⟨z, n, rfl, rfl, ⟨h1, h2, h3⟩, q⟩ := hh
  obtain ⟨t, rfl⟩ := rx
  obtain ⟨t', rfl⟩ := ry
  refine SB.mul ⟨?_, fun a b => ?_, fun a b => ?_⟩ fun t2 k => ⟨.str _, H, I.tok k, ⟨t2, rfl⟩, q⟩
  · rw [Bool.or_eq_false_iff]
    exact ⟨decide_eq_false (by omega), decide_eq_false (by omega)⟩
  · have e : n ≠ 0 := by omega
    intro c
    have h4 : (100 : Int) ≤ (2 ^ 63 - 1) / n := by
      have := Int.le_ediv_iff_mul_le (a := 100) (b := 2 ^ 63 - 1) (c := n) (by omega)
      rw [this]
      have e63 : (2 : Int) ^ 63 = 9223372036854775808 := by decide
      rw [e63]
      omega
    omega
  · have h5 : n.toNat ≤ 100000 := by omega
    have h6 : z.length * n.toNat ≤ 100 * 100000 := Nat.mul_le_mul h3 h5
    have e : Builtin.Str.tooLong (z.length * n.toNat) = false := by
      have : sizeLine = 16777216 := sizeLine_eq
      unfold Builtin.Str.tooLong
      first
        | exact decide_eq_false (by omega)
        | (simp; omega)
    exact e
theorem txt_mul (s : List Nat) (n : Int) : Txt.mul ⟨s.toArray⟩ n = ⟨((List.replicate n.toNat s).flatten).toArray⟩ := by
  unfold Txt.mul
  by_cases h1 : n < 1
  · rw [if_pos h1]
    have : n.toNat = 0 := by omega
    rw [this]; rfl
  · rw [if_neg h1]
    by_cases h2 : (n == 1 || (⟨s.toArray⟩ : Str).length == 0) = true
    · rw [if_pos h2]
      rw [Bool.or_eq_true] at h2
      rcases h2 with h2 | h2
      · have : n = 1 := by simpa using h2
        subst this; simp
      · have : s = [] := by
          have : (⟨s.toArray⟩ : Str).length = 0 := by simpa using h2
          rw [str_len] at this
          exact List.length_eq_zero_iff.mp this
        subst this; simp
    · rw [if_neg h2]
      have : ∀ (k : Nat) (acc : Array Nat), (List.replicate k s.toArray).foldl (· ++ ·) acc = acc ++ ((List.replicate k s).flatten).toArray := fun k => by
        induction k with
        | zero => intro acc; simp
        | succ k ih =>
          intro acc
          rw [List.replicate_succ, List.foldl_cons, ih, List.replicate_succ, List.flatten_cons]
          simp [Array.append_assoc]
      rw [this]
      simp
def mulM : PV → PV → M PV := fun x y h => match x, y with
  | .int i, .int j => (match mulB i j with
    | true => .ok (.int (i * j)) h
    | false => .bad)
  | .str s, .int n => if n ≤ 100000 ∧ -100000 ≤ n ∧ s.length ≤ 100 then .ok (.str (List.replicate n.toNat s).flatten) h else .bad
  | _, _ => .bad
theorem o_mul : OpS X (binaryOp .Mult) mulM := by
  refine ⟨fun x y H Q => rI CMul (fun i j => .int (i * j)) x y H Q ∨ rMulS x y H Q, fun pins s σ H x y v u Q I rx ry q => ?_, fun W bs h H x y v w Q rp rx ry o => ?_⟩
  · rcases q with q | q
    · exact op_mul pins s σ H x y v u Q I rx ry q
    · exact op_mulS pins s σ H x y v u Q I rx ry q
  · cases rx with
    | int i =>
      cases ry with
      | int j =>
        cases e : mulB i j with
        | true => simp only [mulM, e] at o; exact .inl ⟨i, j, rfl, rfl, mulB_ok e, o.here rp (.int _)⟩
        | false => simp only [mulM, e] at o; exact o.elim
      | _ => exact o.elim
    | str s =>
      cases ry with
      | int n =>
        by_cases hc : n ≤ 100000 ∧ -100000 ≤ n ∧ s.length ≤ 100
        · simp only [mulM, hc, and_self, if_true] at o
          refine .inr ⟨_, n, rfl, rfl, ⟨hc.1, hc.2.1, by rw [str_len]; exact hc.2.2⟩, ?_⟩
          rw [txt_mul]
          exact o.here rp (.str _)
        · simp only [mulM, hc, if_false] at o; exact o.elim
      | _ => exact o.elim
    | _ => exact o.elim

/-! ### comparisons -/
def ltM : PV → PV → M PV := i2 fun i j => .bl (decide (i < j))
def leM : PV → PV → M PV := i2 fun i j => .bl (decide (i ≤ j))
def gtM : PV → PV → M PV := i2 fun i j => .bl (decide (j < i))
def geM : PV → PV → M PV := i2 fun i j => .bl (decide (j ≤ i))
theorem o_lt : OpS X (compareOp .Lt) ltM := ⟨_, op_lt, sim_i2 fun i j _ _ => .bl _⟩
theorem o_le : OpS X (compareOp .LtE) leM := ⟨_, op_le, sim_i2 fun i j _ _ => .bl _⟩
theorem o_gt : OpS X (compareOp .Gt) gtM := ⟨_, op_gt, sim_i2 fun i j _ _ => .bl _⟩
theorem o_ge : OpS X (compareOp .GtE) geM := ⟨_, op_ge, sim_i2 fun i j _ _ => .bl _⟩
def isN : PV → PV → M PV := fun x y h => match y with
  | .non => (match x with
    | .non => .ok (.bl true) h
    | _ => .ok (.bl false) h)
  | _ => .bad
def notN : PV → PV → M PV := fun x y h => match y with
  | .non => (match x with
    | .non => .ok (.bl false) h
    | _ => .ok (.bl true) h)
  | _ => .bad
theorem o_isN : OpS X (compareOp .Is) isN := ⟨_, op_isN, fun W bs h H x y v w Q rp rx ry o => by
  cases ry with
  | non => cases rx <;> exact ⟨rfl, o.here rp (.bl _)⟩
  | _ => exact o.elim⟩
theorem o_notN : OpS X (compareOp .IsNot) notN := ⟨_, op_notN, fun W bs h H x y v w Q rp rx ry o => by
  cases ry with
  | non => cases rx <;> exact ⟨rfl, o.here rp (.bl _)⟩
  | _ => exact o.elim⟩
theorem dp_val {K : PySem.W.Frag} {mg : Str → Option Value} {bs : List Addr} {H : Hp} {h : HP} {x : PV} {v : V} (rp : Rep K mg bs h H) (rx : RV K mg bs H x v) {n : Nat} (hd : dOk n (val h x) = true) : Dp K H v (toD (val h x)) := by
  cases rx with
  | @ref m a q =>
    have hl : m < h.length := by rw [← rp.len]; exact (List.getElem?_eq_some_iff.mp q).1
    have eh : h[m]? = some h[m] := by simp [hl]
    have ro := ref_at rp q eh
    have e : val h (.ref m) = h[m] := by simp [val, List.getD, hl]
    rw [e] at hd ⊢
    cases eo : h[m] with
    | lst xs =>
      rw [eo] at hd ro
      obtain ⟨_, vs, q2, rs⟩ := ro
      cases n with
      | zero => exact nomatch (show false = true from hd)
      | succ n => exact .lst (SqL.of q2) (dpL_of rs (show dOkL n _ = true from hd))
    | ins c xs => rw [eo] at hd; cases n <;> exact nomatch (show false = true from hd)
    | dct ks xs => rw [eo] at hd; cases n <;> exact nomatch (show false = true from hd)
    | _ => rw [eo] at ro; exact ro.elim
  | non => exact .non
  | bl b => exact .bl b
  | int i => exact .int i
  | str s => exact .str _
  | tup t rs => exact dp_of (.tup t rs) hd
  | wtp t hn rs => exact dp_of (.wtp t hn rs) hd
  | lst q hn hp rs => exact dp_of (.lst q hn hp rs) hd
  | scr q hn hp rs => exact dp_of (.scr q hn hp rs) hd
  | ins m q l hn hp rs => exact dp_of (.ins m q l hn hp rs) hd
  | dK q hn k hp rs => exact dp_of (.dK q hn k hp rs) hd
  | dT q hn k hp rs => exact dp_of (.dT q hn k hp rs) hd
def eqM : PV → PV → M PV := fun x y h => match dOk 64 (val h x) && dOk 64 (val h y) with
  | true => .ok (.bl (peq (val h x) (val h y))) h
  | false => .bad
def neM : PV → PV → M PV := fun x y h => match dOk 64 (val h x) && dOk 64 (val h y) with
  | true => .ok (.bl (!peq (val h x) (val h y))) h
  | false => .bad
theorem o_eq (hu : X.A.units + 64 < cLine) : OpS X (compareOp .Eq) eqM := ⟨_, op_eqD hu, fun W bs h H x y v w Q rp rx ry o => by
  cases e : (dOk 64 (val h x) && dOk 64 (val h y)) with
  | false => simp only [eqM, e] at o; exact o.elim
  | true =>
    simp only [eqM, e] at o
    obtain ⟨h1, h2⟩ := Bool.and_eq_true_iff.mp e
    refine ⟨_, _, dp_val rp rx h1, dp_val rp ry h2, shaped_of h1, shaped_of h2, ?_⟩
    rw [eqv_of h1 h2]
    exact o.here rp (.bl _)⟩
theorem o_ne (hu : X.A.units + 64 < cLine) : OpS X (compareOp .NotEq) neM := ⟨_, op_neD hu, fun W bs h H x y v w Q rp rx ry o => by
  cases e : (dOk 64 (val h x) && dOk 64 (val h y)) with
  | false => simp only [neM, e] at o; exact o.elim
  | true =>
    simp only [neM, e] at o
    obtain ⟨h1, h2⟩ := Bool.and_eq_true_iff.mp e
    refine ⟨_, _, dp_val rp rx h1, dp_val rp ry h2, shaped_of h1, shaped_of h2, ?_⟩
    rw [eqv_of h1 h2]
    exact o.here rp (.bl _)⟩

/-! ### in -/
def flatP : PV → Bool
  | .non => true
  | .bl _ => true
  | .int _ => true
  | .str _ => true
  | _ => false
theorem flat_of {K : PySem.W.Frag} {mg : Str → Option Value} {bs : List Addr} {H : Hp} {x : PV} {v : V} (r : RV K mg bs H x v) (h : flatP x = true) : flatV v = true := by
  cases r <;> first | rfl | exact nomatch (show false = true from h)
theorem eqV_of {K : PySem.W.Frag} {mg : Str → Option Value} {bs : List Addr} {H : Hp} {x y : PV} {v w : V} (r : RV K mg bs H x v) (q : RV K mg bs H y w) (hx : flatP x = true) (hy : flatP y = true) : eqV v w = peq x y := by
  cases r <;> first
    | exact nomatch (show false = true from hx)
    | (cases q <;> first
        | exact nomatch (show false = true from hy)
        | rfl
        | exact str_beq _ _)
theorem inV_of {K : PySem.W.Frag} {mg : Str → Option Value} {bs : List Addr} {H : Hp} {x : PV} {v : V} (r : RV K mg bs H x v) (hx : flatP x = true) : ∀ {ys : List PV} {vs : List V}, RVs K mg bs H ys vs → ys.all flatP = true → vs.all flatV = true ∧ inV v vs = ys.any (fun y => peq y x)
  | _, _, .nil, _ => ⟨rfl, rfl⟩
  | _, _, .cons (x := y) (xs := ys) q qs, h => by
    rw [List.all_cons, Bool.and_eq_true] at h
    obtain ⟨i1, i2⟩ := inV_of r hx qs h.2
    refine ⟨by rw [List.all_cons, flat_of q h.1, i1]; rfl, ?_⟩
    unfold inV at i2 ⊢
    rw [List.any_cons, List.any_cons, i2, eqV_of q r h.1 hx]
def inM (neg : Bool) : PV → PV → M PV := fun x y h => match y with
  | .str t => (match x with
    | .str [c] => .ok (.bl (if neg then !decide (c ∈ t) else decide (c ∈ t))) h
    | _ => .bad)
  | y => (match seqOf h y with
    | some ys => if flatP x = true ∧ ys.all flatP = true then .ok (.bl (if neg then !ys.any (fun y => peq y x) else ys.any (fun y => peq y x))) h else .bad
    | none => .bad)
theorem sim_inSeq (neg : Bool) {W : XK} {bs : List Addr} {h : HP} {H : Hp} {x y : PV} {v w : V} {Q : VK} (rp : Rep X.K X.mg bs h H) (rx : RV X.K X.mg bs H x v) (ry : RV X.K X.mg bs H y w)
    (o : Out X.K X.mg (RV X.K X.mg) W bs H (match seqOf h y with
    | some ys => if flatP x = true ∧ ys.all flatP = true then R.ok (.bl (if neg then !ys.any (fun y => peq y x) else ys.any (fun y => peq y x))) h else .bad
    | none => .bad) Q) : rIn X.K neg v w H Q := by
  cases e : seqOf h y with
  | none => rw [e] at o; exact o.elim
  | some ys =>
    rw [e] at o
    obtain ⟨a, vs, rfl, hs, rs⟩ := seqOf_ok rp ry e
    by_cases hc : flatP x = true ∧ ys.all flatP = true
    · have o2 : Out X.K X.mg (RV X.K X.mg) W bs H (R.ok (.bl (if neg then !ys.any (fun y => peq y x) else ys.any (fun y => peq y x))) h) Q := by simpa only [hc, and_self, if_true] using o
      obtain ⟨i1, i2⟩ := inV_of rx hc.1 rs hc.2
      refine ⟨a, vs, rfl, hs, flat_of rx hc.1, i1, ?_⟩
      rw [i2]
      exact o2.here rp (.bl _)
    · simp only [hc, if_false] at o; exact o.elim
theorem o_in : OpS X (compareOp .In) (inM false) := ⟨fun x y H Q => (∃ (c : Nat) (z : Str), x = .str ⟨#[c]⟩ ∧ y = .str z ∧ Q (.bl (decide (c ∈ z.cps.toList))) H) ∨ rIn X.K false x y H Q,
  fun pins s σ H x y v u Q I rx ry q => by
    rcases q with q | q
    · exact op_in_sign pins s σ H x y v u Q I rx ry q
    · exact op_in_seq pins s σ H x y v u Q I rx ry q,
  fun W bs h H x y v w Q rp rx ry o => by
    cases ry with
    | str t =>
      cases rx with
      | str s =>
        match s, o with
        | [c], o => exact .inl ⟨c, _, rfl, rfl, by simpa using o.here rp (.bl _)⟩
      | _ => exact o.elim
    | non => exact .inr (sim_inSeq false rp rx .non o)
    | bl b => exact .inr (sim_inSeq false rp rx (.bl b) o)
    | int b => exact .inr (sim_inSeq false rp rx (.int b) o)
    | tup t rs => exact .inr (sim_inSeq false rp rx (.tup t rs) o)
    | wtp t hn rs => exact .inr (sim_inSeq false rp rx (.wtp t hn rs) o)
    | lst q hn hp rs => exact .inr (sim_inSeq false rp rx (.lst q hn hp rs) o)
    | scr q hn hp rs => exact .inr (sim_inSeq false rp rx (.scr q hn hp rs) o)
    | ins m q l hn hp rs => exact .inr (sim_inSeq false rp rx (.ins m q l hn hp rs) o)
    | dK q hn k hp rs => exact .inr (sim_inSeq false rp rx (.dK q hn k hp rs) o)
    | dT q hn k hp rs => exact .inr (sim_inSeq false rp rx (.dT q hn k hp rs) o)
    | ref q => exact .inr (sim_inSeq false rp rx (.ref q) o)⟩
theorem o_notin : OpS X (compareOp .NotIn) (inM true) := ⟨fun x y H Q => (∃ (c : Nat) (z : Str), x = .str ⟨#[c]⟩ ∧ y = .str z ∧ Q (.bl (!decide (c ∈ z.cps.toList))) H) ∨ rIn X.K true x y H Q,
  fun pins s σ H x y v u Q I rx ry q => by
    rcases q with q | q
    · exact op_notIn_sign pins s σ H x y v u Q I rx ry q
    · exact op_notIn_seq pins s σ H x y v u Q I rx ry q,
  fun W bs h H x y v w Q rp rx ry o => by
    cases ry with
    | str t =>
      cases rx with
      | str s =>
        match s, o with
        | [c], o => exact .inl ⟨c, _, rfl, rfl, by simpa using o.here rp (.bl _)⟩
      | _ => exact o.elim
    | non => exact .inr (sim_inSeq true rp rx .non o)
    | bl b => exact .inr (sim_inSeq true rp rx (.bl b) o)
    | int b => exact .inr (sim_inSeq true rp rx (.int b) o)
    | tup t rs => exact .inr (sim_inSeq true rp rx (.tup t rs) o)
    | wtp t hn rs => exact .inr (sim_inSeq true rp rx (.wtp t hn rs) o)
    | lst q hn hp rs => exact .inr (sim_inSeq true rp rx (.lst q hn hp rs) o)
    | scr q hn hp rs => exact .inr (sim_inSeq true rp rx (.scr q hn hp rs) o)
    | ins m q l hn hp rs => exact .inr (sim_inSeq true rp rx (.ins m q l hn hp rs) o)
    | dK q hn k hp rs => exact .inr (sim_inSeq true rp rx (.dK q hn k hp rs) o)
    | dT q hn k hp rs => exact .inr (sim_inSeq true rp rx (.dT q hn k hp rs) o)
    | ref q => exact .inr (sim_inSeq true rp rx (.ref q) o)⟩
end
end Sm

namespace Sm
open PySem PySem.Spec PyProof.Rows L2

/-! ### lists of ints, of bools, of texts -/
def intsOf : List PV → Option (List Int)
  | [] => some []
  | .int i :: xs => (match intsOf xs with
    | some ns => some (i :: ns)
    | none => none)
  | _ :: _ => none
def boolsOf : List PV → Option (List Bool)
  | [] => some []
  | .bl i :: xs => (match boolsOf xs with
    | some ns => some (i :: ns)
    | none => none)
  | _ :: _ => none
def strsOf : List PV → Option (List (List Nat))
  | [] => some []
  | .str i :: xs => (match strsOf xs with
    | some ns => some (i :: ns)
    | none => none)
  | _ :: _ => none
theorem intsOf_map (ns : List Int) : intsOf (ns.map PV.int) = some ns := by
  induction ns with
  | nil => rfl
  | cons n ns ih => simp only [List.map_cons, intsOf, ih]
theorem boolsOf_map (ns : List Bool) : boolsOf (ns.map PV.bl) = some ns := by
  induction ns with
  | nil => rfl
  | cons n ns ih => simp only [List.map_cons, boolsOf, ih]
theorem strsOf_map (ns : List (List Nat)) : strsOf (ns.map PV.str) = some ns := by
  induction ns with
  | nil => rfl
  | cons n ns ih => simp only [List.map_cons, strsOf, ih]
theorem intsOf_ok : ∀ {xs : List PV} {ns : List Int}, intsOf xs = some ns → xs = ns.map PV.int
  | [], ns, h => by cases h; rfl
  | .int i :: xs, ns, h => by
    unfold intsOf at h
    cases e : intsOf xs with
    | none => rw [e] at h; cases h
    | some ms => rw [e] at h; cases h; rw [intsOf_ok e]; rfl
  | .non :: _, _, h => nomatch h
  | .bl _ :: _, _, h => nomatch h
  | .str _ :: _, _, h => nomatch h
  | .tup _ :: _, _, h => nomatch h
  | .wtp _ :: _, _, h => nomatch h
  | .lst _ :: _, _, h => nomatch h
  | .scr _ :: _, _, h => nomatch h
  | .ins _ _ :: _, _, h => nomatch h
  | .dct _ _ :: _, _, h => nomatch h
  | .ref _ :: _, _, h => nomatch h
theorem boolsOf_ok : ∀ {xs : List PV} {ns : List Bool}, boolsOf xs = some ns → xs = ns.map PV.bl
  | [], ns, h => by cases h; rfl
  | .bl i :: xs, ns, h => by
    unfold boolsOf at h
    cases e : boolsOf xs with
    | none => rw [e] at h; cases h
    | some ms => rw [e] at h; cases h; rw [boolsOf_ok e]; rfl
  | .non :: _, _, h => nomatch h
  | .int _ :: _, _, h => nomatch h
  | .str _ :: _, _, h => nomatch h
  | .tup _ :: _, _, h => nomatch h
  | .wtp _ :: _, _, h => nomatch h
  | .lst _ :: _, _, h => nomatch h
  | .scr _ :: _, _, h => nomatch h
  | .ins _ _ :: _, _, h => nomatch h
  | .dct _ _ :: _, _, h => nomatch h
  | .ref _ :: _, _, h => nomatch h
theorem strsOf_ok : ∀ {xs : List PV} {ns : List (List Nat)}, strsOf xs = some ns → xs = ns.map PV.str
  | [], ns, h => by cases h; rfl
  | .str i :: xs, ns, h => by
    unfold strsOf at h
    cases e : strsOf xs with
    | none => rw [e] at h; cases h
    | some ms => rw [e] at h; cases h; rw [strsOf_ok e]; rfl
  | .non :: _, _, h => nomatch h
  | .int _ :: _, _, h => nomatch h
  | .bl _ :: _, _, h => nomatch h
  | .tup _ :: _, _, h => nomatch h
  | .wtp _ :: _, _, h => nomatch h
  | .lst _ :: _, _, h => nomatch h
  | .scr _ :: _, _, h => nomatch h
  | .ins _ _ :: _, _, h => nomatch h
  | .dct _ _ :: _, _, h => nomatch h
  | .ref _ :: _, _, h => nomatch h
section
variable {K : PySem.W.Frag} {mg : Str → Option Value} {bs : List Addr} {H : Hp}
theorem rv_ints : ∀ {ns : List Int} {vs : List V}, RVs K mg bs H (ns.map PV.int) vs → vs = ns.map V.int
  | [], _, .nil => rfl
  | _ :: _, _, .cons (.int _) rs => by rw [rv_ints rs]; rfl
theorem rv_bools : ∀ {ns : List Bool} {vs : List V}, RVs K mg bs H (ns.map PV.bl) vs → vs = ns.map V.bl
  | [], _, .nil => rfl
  | _ :: _, _, .cons (.bl _) rs => by rw [rv_bools rs]; rfl
theorem rv_strs : ∀ {ns : List (List Nat)} {vs : List V}, RVs K mg bs H (ns.map PV.str) vs → vs = (ns.map fun s => (⟨s.toArray⟩ : Str)).map V.str
  | [], _, .nil => rfl
  | _ :: _, _, .cons (.str _) rs => by rw [rv_strs rs]; rfl
theorem rvs_ints (ns : List Int) : RVs K mg bs H (ns.map PV.int) (ns.map V.int) := by
  induction ns with
  | nil => exact .nil
  | cons n ns ih => exact .cons (.int n) ih
theorem rvs_strs (ns : List (List Nat)) : RVs K mg bs H (ns.map PV.str) ((ns.map fun s => (⟨s.toArray⟩ : Str)).map V.str) := by
  induction ns with
  | nil => exact .nil
  | cons n ns ih => exact .cons (.str n) ih
end
theorem pur_ints (ns : List Int) : purL (ns.map PV.int) = true := by
  induction ns with
  | nil => rfl
  | cons n ns ih => exact ih
theorem pur_strs (ns : List (List Nat)) : purL (ns.map PV.str) = true := by
  induction ns with
  | nil => rfl
  | cons n ns ih => exact ih

section
variable {X : Cx}
/-! ### built-in functions -/
def absM : List PV → M PV := fun xs h => match xs with
  | [.int i] => .ok (.int (if i < 0 then -i else i)) h
  | _ => .bad
theorem c_abs : CallS X (.builtin "abs") absM := ⟨_, call_abs, fun W bs h H xs vs Q rp rx o => by
  match xs, rx, o with
  | [.int i], .cons (.int _) .nil, o => exact ⟨i, rfl, o.here rp (.int _)⟩⟩
def maxL : Int → List Int → Int
  | m, [] => m
  | m, x :: xs => maxL (if x > m then x else m) xs
def minL : Int → List Int → Int
  | m, [] => m
  | m, x :: xs => minL (if x < m then x else m) xs
theorem maxL_ok : ∀ (xs : List Int) (m : Int), (maxL m xs = m ∨ maxL m xs ∈ xs) ∧ m ≤ maxL m xs ∧ ∀ y ∈ xs, y ≤ maxL m xs
  | [], m => ⟨.inl rfl, Int.le_refl _, fun _ h => nomatch h⟩
  | x :: xs, m => by
    obtain ⟨h1, h2, h3⟩ := maxL_ok xs (if x > m then x else m)
    have e : maxL m (x :: xs) = maxL (if x > m then x else m) xs := rfl
    rw [e]
    refine ⟨?_, ?_, fun y hy => ?_⟩
    · rcases h1 with h1 | h1
      · rw [h1]
        split
        · exact .inr (List.mem_cons_self)
        · exact .inl rfl
      · exact .inr (List.mem_cons_of_mem _ h1)
    · exact Int.le_trans (by split <;> omega) h2
    · rcases List.mem_cons.mp hy with q | q
      · subst q; exact Int.le_trans (by split <;> omega) h2
      · exact h3 y q
theorem minL_ok : ∀ (xs : List Int) (m : Int), (minL m xs = m ∨ minL m xs ∈ xs) ∧ minL m xs ≤ m ∧ ∀ y ∈ xs, minL m xs ≤ y
  | [], m => ⟨.inl rfl, Int.le_refl _, fun _ h => nomatch h⟩
  | x :: xs, m => by
    obtain ⟨h1, h2, h3⟩ := minL_ok xs (if x < m then x else m)
    have e : minL m (x :: xs) = minL (if x < m then x else m) xs := rfl
    rw [e]
    refine ⟨?_, ?_, fun y hy => ?_⟩
    · rcases h1 with h1 | h1
      · rw [h1]
        split
        · exact .inr (List.mem_cons_self)
        · exact .inl rfl
      · exact .inr (List.mem_cons_of_mem _ h1)
    · exact Int.le_trans h2 (by split <;> omega)
    · rcases List.mem_cons.mp hy with q | q
      · subst q; exact Int.le_trans h2 (by split <;> omega)
      · exact h3 y q
def intsAt (h : HP) (x : PV) : Option (List Int) := match lstOf h x with
  | some xs => intsOf xs
  | none => none
theorem intsAt_ok {bs : List Addr} {h : HP} {H : Hp} {x : PV} {v : V} (rp : Rep X.K X.mg bs h H) (rx : RV X.K X.mg bs H x v) {ns : List Int} (e : intsAt h x = some ns) : ∃ a, v = .ref a ∧ H a = some (.lst (ns.map V.int)) := by
  unfold intsAt at e
  cases e1 : lstOf h x with
  | none => rw [e1] at e; cases e
  | some xs =>
    rw [e1] at e
    obtain ⟨a, vs, rfl, ha, rs, _⟩ := lstOf_ok rp rx e1
    have := intsOf_ok e
    subst this
    exact ⟨a, rfl, by rw [ha, rv_ints rs]⟩
def maxM : List PV → M PV := fun xs h => match xs with
  | [.int i, .int j] => .ok (.int (if j > i then j else i)) h
  | [x] => (match intsAt h x with
    | some (n :: ns) => .ok (.int (maxL n ns)) h
    | _ => .bad)
  | _ => .bad
def minM : List PV → M PV := fun xs h => match xs with
  | [.int i, .int j] => .ok (.int (if j < i then j else i)) h
  | [x] => (match intsAt h x with
    | some (n :: ns) => .ok (.int (minL n ns)) h
    | _ => .bad)
  | _ => .bad
theorem c_max (hc : X.calm = true) : CallS X (.builtin "max") maxM := ⟨fun xs H Q => (∃ i j, xs = [.int i, .int j] ∧ Q (.int (if j > i then j else i)) H) ∨ rMax X.K xs H Q,
  fun pins s σ H xs us Q I r q => by
    rcases q with q | q
    · exact call_max2 hc pins s σ H xs us Q I r q
    · exact cr_max hc pins s σ H xs us Q I r q,
  fun W bs h H xs vs Q rp rx o => by
    match xs, vs, rx, o with
    | [], _, _, o => exact o.elim
    | [x], [v], .cons r .nil, o =>
      have o : Out X.K X.mg (RV X.K X.mg) W bs H (match intsAt h x with
        | some (n :: ns) => R.ok (.int (maxL n ns)) h
        | _ => .bad) Q := by cases x <;> exact o
      cases e : intsAt h x with
      | none => rw [e] at o; exact o.elim
      | some ns =>
        rw [e] at o
        obtain ⟨a, rfl, ha⟩ := intsAt_ok rp r e
        cases ns with
        | nil => exact o.elim
        | cons n ns =>
          refine .inr ⟨a, n :: ns, rfl, SqL.of ha, by simp, fun m hm hle => ?_⟩
          obtain ⟨h1, h2, h3⟩ := maxL_ok ns n
          have : m = maxL n ns := by
            have a1 : m ≤ maxL n ns := by
              rcases List.mem_cons.mp hm with q | q
              · rw [q]; exact h2
              · exact h3 m q
            have a2 : maxL n ns ≤ m := by
              rcases h1 with q | q
              · rw [q]; exact hle n List.mem_cons_self
              · exact hle _ (List.mem_cons_of_mem _ q)
            omega
          rw [this]
          exact o.here rp (.int _)
    | [.int i, .int j], [_, _], .cons (.int _) (.cons (.int _) .nil), o => exact .inl ⟨i, j, rfl, o.here rp (.int _)⟩
    | x :: y :: z :: t, _, _, o => cases x <;> first | exact o.elim | (cases y <;> exact o.elim)
    | [x, y], [v, w], .cons r (.cons r' .nil), o =>
      cases r <;> first
        | exact o.elim
        | (cases r' <;> first
          | exact o.elim
          | exact .inl ⟨_, _, rfl, o.here rp (.int _)⟩)⟩
theorem c_min (hc : X.calm = true) : CallS X (.builtin "min") minM := ⟨fun xs H Q => (∃ i j, xs = [.int i, .int j] ∧ Q (.int (if j < i then j else i)) H) ∨ rMin X.K xs H Q,
  fun pins s σ H xs us Q I r q => by
    rcases q with q | q
    · exact call_min2 hc pins s σ H xs us Q I r q
    · exact cr_min hc pins s σ H xs us Q I r q,
  fun W bs h H xs vs Q rp rx o => by
    match xs, vs, rx, o with
    | [], _, _, o => exact o.elim
    | [x], [v], .cons r .nil, o =>
      have o : Out X.K X.mg (RV X.K X.mg) W bs H (match intsAt h x with
        | some (n :: ns) => R.ok (.int (minL n ns)) h
        | _ => .bad) Q := by cases x <;> exact o
      cases e : intsAt h x with
      | none => rw [e] at o; exact o.elim
      | some ns =>
        rw [e] at o
        obtain ⟨a, rfl, ha⟩ := intsAt_ok rp r e
        cases ns with
        | nil => exact o.elim
        | cons n ns =>
          refine .inr ⟨a, n :: ns, rfl, SqL.of ha, by simp, fun m hm hle => ?_⟩
          obtain ⟨h1, h2, h3⟩ := minL_ok ns n
          have : m = minL n ns := by
            have a1 : minL n ns ≤ m := by
              rcases List.mem_cons.mp hm with q | q
              · rw [q]; exact h2
              · exact h3 m q
            have a2 : m ≤ minL n ns := by
              rcases h1 with q | q
              · rw [q]; exact hle n List.mem_cons_self
              · exact hle _ (List.mem_cons_of_mem _ q)
            omega
          rw [this]
          exact o.here rp (.int _)
    | [.int i, .int j], [_, _], .cons (.int _) (.cons (.int _) .nil), o => exact .inl ⟨i, j, rfl, o.here rp (.int _)⟩
    | x :: y :: z :: t, _, _, o => cases x <;> first | exact o.elim | (cases y <;> exact o.elim)
    | [x, y], [v, w], .cons r (.cons r' .nil), o =>
      cases r <;> first
        | exact o.elim
        | (cases r' <;> first
          | exact o.elim
          | exact .inl ⟨_, _, rfl, o.here rp (.int _)⟩)⟩
end
end Sm

namespace Sm
open PySem PySem.Spec PyProof.Rows L2
section
variable {X : Cx}
def lenM : List PV → M PV := fun xs h => match xs with
  | [.str s] => if s.length ≤ lim then .ok (.int s.length) h else .bad
  | [x] => (match seqOf h x with
    | some ys => .ok (.int ys.length) h
    | none => .bad)
  | _ => .bad
theorem c_len : CallS X (.builtin "len") lenM := ⟨fun xs H Q => (∃ z, xs = [.str z] ∧ z.length ≤ sizeLine ∧ Q (.int z.length) H) ∨ (∃ p ys, xs = [.ref p] ∧ (SqL X.K H p ys ∨ SqT X.K H p ys) ∧ Q (.int ys.length) H),
  fun pins s σ H xs us Q I r q => by
    rcases q with q | q
    · exact call_len_str pins s σ H xs us Q I r q
    · exact call_len_seq pins s σ H xs us Q I r q,
  fun W bs h H xs vs Q rp rx o => by
    match xs, vs, rx, o with
    | [], _, _, o => exact o.elim
    | x :: y :: t, _, _, o => cases x <;> exact o.elim
    | [x], [v], .cons r .nil, o =>
      have gen : Out X.K X.mg (RV X.K X.mg) W bs H (match seqOf h x with
          | some ys => R.ok (.int ys.length) h
          | none => .bad) Q → (∃ p ys, [v] = [V.ref p] ∧ (SqL X.K H p ys ∨ SqT X.K H p ys) ∧ Q (.int ys.length) H) := fun o => by
        cases e : seqOf h x with
        | none => rw [e] at o; exact o.elim
        | some ys =>
          rw [e] at o
          obtain ⟨a, vs, rfl, hs, rs⟩ := seqOf_ok rp r e
          refine ⟨a, vs, rfl, hs, ?_⟩
          rw [← rs.length]
          exact o.here rp (.int _)
      cases x with
      | str s =>
        cases r
        by_cases hl : s.length ≤ lim
        · simp only [lenM, hl, if_true] at o
          refine .inl ⟨_, rfl, by rw [str_len, ← lim_eq]; exact hl, ?_⟩
          rw [str_len]
          exact o.here rp (.int _)
        · simp only [lenM, hl, if_false] at o; exact o.elim
      | _ => exact .inr (gen o)⟩
def sumM : List PV → M PV := fun xs h => match xs with
  | [x] => (match intsAt h x with
    | some ns => .ok (.int ns.sum) h
    | none => .bad)
  | _ => .bad
theorem c_sum (hc : X.calm = true) : CallS X (.builtin "sum") sumM := ⟨_, cr_sum hc, fun W bs h H xs vs Q rp rx o => by
  match xs, vs, rx, o with
  | [], _, _, o => exact o.elim
  | x :: y :: t, _, _, o => exact o.elim
  | [x], [v], .cons r .nil, o =>
    cases e : intsAt h x with
    | none => simp only [sumM, e] at o; exact o.elim
    | some ns =>
      simp only [sumM, e] at o
      obtain ⟨a, rfl, ha⟩ := intsAt_ok rp r e
      exact ⟨a, ns, rfl, SqL.of ha, o.here rp (.int _)⟩⟩
def boolsAt (h : HP) (x : PV) : Option (List Bool) := match lstOf h x with
  | some xs => boolsOf xs
  | none => none
theorem boolsAt_ok {bs : List Addr} {h : HP} {H : Hp} {x : PV} {v : V} (rp : Rep X.K X.mg bs h H) (rx : RV X.K X.mg bs H x v) {ns : List Bool} (e : boolsAt h x = some ns) : ∃ a, v = .ref a ∧ H a = some (.lst (ns.map V.bl)) := by
  unfold boolsAt at e
  cases e1 : lstOf h x with
  | none => rw [e1] at e; cases e
  | some xs =>
    rw [e1] at e
    obtain ⟨a, vs, rfl, ha, rs, _⟩ := lstOf_ok rp rx e1
    have := boolsOf_ok e
    subst this
    exact ⟨a, rfl, by rw [ha, rv_bools rs]⟩
def allM : List PV → M PV := fun xs h => match xs with
  | [x] => (match boolsAt h x with
    | some ns => .ok (.bl (ns.all id)) h
    | none => .bad)
  | _ => .bad
def anyM : List PV → M PV := fun xs h => match xs with
  | [x] => (match boolsAt h x with
    | some ns => .ok (.bl (ns.any id)) h
    | none => .bad)
  | _ => .bad
theorem c_all (hc : X.calm = true) : CallS X (.builtin "all") allM := ⟨_, cr_all hc, fun W bs h H xs vs Q rp rx o => by
  match xs, vs, rx, o with
  | [], _, _, o => exact o.elim
  | x :: y :: t, _, _, o => exact o.elim
  | [x], [v], .cons r .nil, o =>
    cases e : boolsAt h x with
    | none => simp only [allM, e] at o; exact o.elim
    | some ns =>
      simp only [allM, e] at o
      obtain ⟨a, rfl, ha⟩ := boolsAt_ok rp r e
      exact ⟨a, ns, rfl, SqL.of ha, o.here rp (.bl _)⟩⟩
theorem c_any (hc : X.calm = true) : CallS X (.builtin "any") anyM := ⟨_, cr_any hc, fun W bs h H xs vs Q rp rx o => by
  match xs, vs, rx, o with
  | [], _, _, o => exact o.elim
  | x :: y :: t, _, _, o => exact o.elim
  | [x], [v], .cons r .nil, o =>
    cases e : boolsAt h x with
    | none => simp only [anyM, e] at o; exact o.elim
    | some ns =>
      simp only [anyM, e] at o
      obtain ⟨a, rfl, ha⟩ := boolsAt_ok rp r e
      exact ⟨a, ns, rfl, SqL.of ha, o.here rp (.bl _)⟩⟩

/-! ### texts of numbers -/
def dgs : Nat → Nat → List Nat
  | 0, _ => []
  | f + 1, n => if n < 10 then [48 + n] else dgs f (n / 10) ++ [48 + n % 10]
def digs (n : Nat) : List Nat := dgs (n + 1) n
theorem dgs_more : ∀ (f g n : Nat), n < f → n < g → dgs f n = dgs g n
  | 0, _, _, h, _ => absurd h (Nat.not_lt_zero _)
  | _, 0, _, _, h => absurd h (Nat.not_lt_zero _)
  | f + 1, g + 1, n, h1, h2 => by
    unfold dgs
    split
    · rfl
    · rw [dgs_more f g (n / 10) (by omega) (by omega)]
theorem digit_is : ∀ d : Nat, d < 10 → (Nat.digitChar d).toNat = 48 + d := by decide
theorem digs_is (n : Nat) : (Nat.toDigits 10 n).map Char.toNat = digs n := by
  induction n using Nat.strongRecOn with
  | _ m ih =>
    by_cases h : m < 10
    · rw [Nat.toDigits_of_lt_base h]
      unfold digs dgs
      rw [if_pos h]
      show [(Nat.digitChar m).toNat] = _
      rw [digit_is m h]
    · have hm : m % 10 < 10 := Nat.mod_lt m (by decide)
      have t : Nat.toDigits 10 (m / 10) ++ Nat.toDigits 10 (m % 10) = Nat.toDigits 10 (10 * (m / 10) + m % 10) := Nat.toDigits_append_toDigits (by decide) (by omega) hm
      rw [Nat.div_add_mod] at t
      rw [← t, List.map_append, Nat.toDigits_of_lt_base hm, ih (m / 10) (by omega)]
      show digs (m / 10) ++ [(Nat.digitChar (m % 10)).toNat] = _
      rw [digit_is _ hm]
      show _ = dgs (m + 1) m
      rw [show dgs (m + 1) m = dgs m (m / 10) ++ [48 + m % 10] from by rw [dgs, if_neg h]]
      rw [show digs (m / 10) = dgs m (m / 10) from dgs_more _ _ _ (by omega) (by omega)]
def sdig (i : Int) : List Nat := if i < 0 then 45 :: digs i.natAbs else digs i.natAbs
theorem sdig_is (i : Int) : (Str.ofString (toString i)).cps.toList = sdig i := by
  unfold sdig
  cases i with
  | ofNat m =>
    rw [if_neg (by simp)]
    exact (PySem.W.KIN.signs_num m).trans (digs_is m)
  | negSucc m =>
    rw [if_pos (Int.negSucc_lt_zero m), signs_ofString]
    show ("-" ++ Nat.repr (m + 1)).toList.map Char.toNat = _
    rw [String.toList_append, List.map_append, Nat.toList_repr, digs_is]
    rfl
theorem str_back {s : Str} {l : List Nat} (h : s.cps.toList = l) : s = ⟨l.toArray⟩ := by
  subst h; simp
def strM : List PV → M PV := fun xs h => match xs with
  | [.int i] => if i.natAbs.log2 < 1920 then .ok (.str (sdig i)) h else .bad
  | _ => .bad
theorem c_str : CallS X (.type "str") strM := ⟨_, call_str_int, fun W bs h H xs vs Q rp rx o => by
  match xs, vs, rx, o with
  | [.int i], [_], .cons (.int _) .nil, o =>
    by_cases hc : i.natAbs.log2 < 1920
    · simp only [strM, hc, if_true] at o
      refine ⟨i, rfl, hc, ?_⟩
      rw [str_back (sdig_is i)]
      exact o.here rp (.str _)
    · simp only [strM, hc, if_false] at o; exact o.elim⟩
def dval (cs : List Nat) : Nat := cs.foldl (fun acc c => acc * 10 + (c - 48)) 0
def isDg (c : Nat) : Bool := decide (48 ≤ c) && decide (c ≤ 57)
def parseI : List Nat → Option Int
  | 45 :: cs => if cs ≠ [] ∧ cs.all isDg = true ∧ cs.length < 600 then some (-(dval cs : Int)) else none
  | cs => if cs ≠ [] ∧ cs.all isDg = true ∧ cs.length < 600 then some (dval cs : Int) else none
theorem allDg {cs : List Nat} (h : cs.all isDg = true) : PySem.NumText.AllDigits cs := fun c hc => by
  have := List.all_eq_true.mp h c hc
  unfold isDg at this
  rw [Bool.and_eq_true] at this
  exact ⟨of_decide_eq_true this.1, of_decide_eq_true this.2⟩
theorem parseI_ok {s : List Nat} {n : Int} (h : parseI s = some n) : PySem.intText? ⟨s.toArray⟩ = some n ∧ (⟨s.toArray⟩ : Str).length ≤ 640 := by
  have pos : ∀ cs : List Nat, (if cs ≠ [] ∧ cs.all isDg = true ∧ cs.length < 600 then some ((dval cs : Nat) : Int) else none) = some n → PySem.intText? ⟨cs.toArray⟩ = some n ∧ (⟨cs.toArray⟩ : Str).length ≤ 640 := fun cs h => by
    by_cases hc : cs ≠ [] ∧ cs.all isDg = true ∧ cs.length < 600
    · rw [if_pos hc] at h
      cases h
      refine ⟨?_, by rw [str_len]; omega⟩
      have := PySem.intText_digits (x := ⟨cs.toArray⟩) (by simpa using allDg hc.2.1) (by simpa using hc.1) (by rw [str_len]; omega)
      rw [this]
      simp [PySem.NumText.digitsVal, dval]
    · rw [if_neg hc] at h; cases h
  match s, h with
  | [], h => exact pos [] h
  | c :: cs, h =>
    by_cases hc : c = 45
    · subst hc
      have h : (if cs ≠ [] ∧ cs.all isDg = true ∧ cs.length < 600 then some (-((dval cs : Nat) : Int)) else none) = some n := h
      by_cases hd : cs ≠ [] ∧ cs.all isDg = true ∧ cs.length < 600
      · rw [if_pos hd] at h
        cases h
        refine ⟨?_, by rw [str_len]; simp; omega⟩
        have := PySem.intText_neg (x := ⟨(45 :: cs).toArray⟩) (cs := cs) (by simp) (allDg hd.2.1) hd.1 (by rw [str_len]; simp; omega)
        rw [this]
        simp [PySem.NumText.digitsVal, dval]
      · rw [if_neg hd] at h; cases h
    · refine pos (c :: cs) ?_
      unfold parseI at h
      split at h
      · rename_i e; injection e with e1 _; exact absurd e1 hc
      · exact h
def intM : List PV → M PV := fun xs h => match xs with
  | [.int i] => .ok (.int i) h
  | [.bl b] => .ok (.int (if b then 1 else 0)) h
  | [.str s] => (match parseI s with
    | some n => .ok (.int n) h
    | none => .bad)
  | _ => .bad
theorem c_int : CallS X (.type "int") intM := ⟨fun xs H Q => ((∃ i, xs = [.int i] ∧ Q (.int i) H) ∨ ∃ k, xs = [.bl k] ∧ Q (.int (if k then 1 else 0)) H) ∨ (∃ a n, xs = [.str a] ∧ PySem.intText? a = some n ∧ a.length ≤ 640 ∧ Q (.int n) H),
  fun pins s σ H xs us Q I r q => by
    rcases q with q | q
    · exact call_int1 pins s σ H xs us Q I r q
    · exact call_int_str pins s σ H xs us Q I r q,
  fun W bs h H xs vs Q rp rx o => by
    match xs, vs, rx, o with
    | [.int i], [_], .cons (.int _) .nil, o => exact .inl (.inl ⟨i, rfl, o.here rp (.int _)⟩)
    | [.bl i], [_], .cons (.bl _) .nil, o => exact .inl (.inr ⟨i, rfl, o.here rp (.int _)⟩)
    | [.str s], [_], .cons (.str _) .nil, o =>
      cases e : parseI s with
      | none => simp only [intM, e] at o; exact o.elim
      | some n =>
        simp only [intM, e] at o
        obtain ⟨h1, h2⟩ := parseI_ok e
        exact .inr ⟨_, n, rfl, h1, h2, o.here rp (.int _)⟩⟩

/-! ### list(..), tuple(..), sorted(..) -/
def listM : List PV → M PV := fun xs h => match xs with
  | [x] => (match seqOf h x with
    | some ys => if purL ys = true then .ok (.lst ys) h else .bad
    | none => .bad)
  | _ => .bad
theorem c_list : CallS X (.type "list") listM := ⟨_, call_list_of, fun W bs h H xs vs Q rp rx o => by
  match xs, vs, rx, o with
  | [], _, _, o => exact o.elim
  | x :: y :: t, _, _, o => exact o.elim
  | [x], [v], .cons r .nil, o =>
    cases e : seqOf h x with
    | none => simp only [listM, e] at o; exact o.elim
    | some ys =>
      by_cases hp : purL ys = true
      · simp only [listM, e, hp, if_true] at o
        obtain ⟨a, vs, rfl, hs, rs⟩ := seqOf_ok rp r e
        exact ⟨a, vs, rfl, hs, fun l hl => o bs _ _ (Ext.fresh hl) (rp.fresh hl) (.lst upd_same (rp.free hl) hp (rs.mono (Ext.fresh hl)))⟩
      · simp only [listM, e, hp, if_false] at o; exact o.elim⟩
/-- tuple(list): a new tuple, known to the object -/
def rTupF (K : PySem.W.Frag) : List V → Hp → VK → Prop := fun xs H Q => ∃ p ys, xs = [.ref p] ∧ ((SqL K H p ys ∧ ∀ (l : Addr) (ob : Obj), H l = none → ob.dict = none → Q (.ref l) (upd H l (.frz ob (.tup ys)))) ∨ (SqT K H p ys ∧ Q (.ref p) H))
theorem call_tupleF : CallR X (.type "tuple") (rTupF X.K) := by
  intro pins s σ H xs us Q I r hh
  obtain ⟨p, ys, rfl, hq⟩ := hh
  rcases hq with ⟨hq, q⟩ | ⟨hq, q⟩
  · obtain ⟨u, rfl, ru⟩ := vals1 r
    cases ru
    obtain ⟨its, r', pl, hz⟩ := I.list hq
    have hlen := r'.length
    refine call_tuple_list pl.isList (fun h' kp => ?_) (by simp only [List.size_toArray] <;> omega)
    have I1 : Inv X pins σ H { s with heap := h' } := I.kept (t' := s.toks) kp
    have I2 : Inv X pins σ (upd H h'.objs.size (.frz { cls := .type "tuple", data := .seq its.toArray } (.tup ys))) { s with heap := h'.push { cls := .type "tuple", data := .seq its.toArray } } :=
      I1.laid (t' := s.toks) (fun b o e => Heap.get?_push_of_some _ e) (Nat.le_refl _) (show ObjOk X.prog X.w _ _ _ (.frz _ (.tup ys)) from ⟨Heap.get?_push_size _ rfl, hz, its, r', IsTup.new _ _⟩)
    exact ⟨.ref h'.objs.size, _, I2, rfl, q _ _ (I1.hok.fresh (Nat.le_refl _)) rfl⟩
  · exact call_tuple_of pins s σ H _ us Q I r ⟨p, ys, rfl, .inr ⟨hq, q⟩⟩
def tupleM : List PV → M PV := fun xs h => match xs with
  | [.tup ys] => .ok (.tup ys) h
  | [.wtp ys] => .ok (.wtp ys) h
  | [x] => (match seqOf h x with
    | some ys => .ok (.tup ys) h
    | none => .bad)
  | _ => .bad
theorem c_tuple : CallS X (.type "tuple") tupleM := ⟨_, call_tupleF, fun W bs h H xs vs Q rp rx o => by
  match xs, vs, rx, o with
  | [], _, _, o => exact o.elim
  | x :: y :: t, _, _, o => cases x <;> exact o.elim
  | [x], [v], .cons r .nil, o =>
    have gen : ∀ ys a vs, seqOf h x = some ys → v = .ref a → SqL X.K H a vs → RVs X.K X.mg bs H ys vs → Out X.K X.mg (RV X.K X.mg) W bs H (match seqOf h x with
          | some ys => R.ok (.tup ys) h
          | none => .bad) Q → rTupF X.K [v] H Q := fun ys a vs e ev hs rs o => by
      rw [e] at o
      subst ev
      exact ⟨a, vs, rfl, .inl ⟨hs, fun l ob hl hd => o bs _ _ (Ext.fresh hl) (rp.fresh hl) (.tup (.inl ⟨⟨ob, upd_same, hd⟩, rp.free hl⟩) (rs.mono (Ext.fresh hl)))⟩⟩
    cases r with
    | tup t rs => exact ⟨_, _, rfl, .inr ⟨t.sq, o.here rp (.tup t rs)⟩⟩
    | wtp t hn rs => exact ⟨_, _, rfl, .inr ⟨SqT.of t, o.here rp (.wtp t hn rs)⟩⟩
    | lst q hn hp rs => exact gen _ _ _ rfl rfl (SqL.of q) rs o
    | scr q hn hp rs => exact gen _ _ _ rfl rfl (.inl (.inr ⟨_, q⟩)) rs o
    | ref q =>
      rename_i n a
      cases e : seqOf h (.ref n) with
      | none => simp only [tupleM, e] at o; exact o.elim
      | some ys =>
        obtain ⟨b, vs, e1, e2, rs, _⟩ := lstOf_ok rp (.ref q) (show lstOf h (.ref n) = some ys from e)
        exact gen ys b vs e e1 (SqL.of e2) rs (by simpa only [tupleM] using o)
    | _ => exact o.elim⟩
/-- sorted, by putting each in its place -/
def ins1 (x : Int) : List Int → List Int
  | [] => [x]
  | y :: ys => if x ≤ y then x :: y :: ys else y :: ins1 x ys
def isort : List Int → List Int
  | [] => []
  | x :: xs => ins1 x (isort xs)
theorem ins1_perm (x : Int) : ∀ ys, (ins1 x ys).Perm (x :: ys)
  | [] => .refl _
  | y :: ys => by
    unfold ins1
    split
    · exact .refl _
    · exact ((ins1_perm x ys).cons y).trans (.swap x y ys)
theorem isort_perm : ∀ xs, (isort xs).Perm xs
  | [] => .refl _
  | x :: xs => (ins1_perm x _).trans ((isort_perm xs).cons x)
theorem ins1_sorted (x : Int) : ∀ ys, ys.Pairwise (· ≤ ·) → (ins1 x ys).Pairwise (· ≤ ·)
  | [], _ => List.pairwise_singleton _ _
  | y :: ys, h => by
    unfold ins1
    split
    · rename_i hxy
      refine List.Pairwise.cons (fun z hz => ?_) h
      rcases List.mem_cons.mp hz with q | q
      · rw [q]; exact hxy
      · exact Int.le_trans hxy ((List.pairwise_cons.mp h).1 z q)
    · rename_i hxy
      refine List.Pairwise.cons (fun z hz => ?_) (ins1_sorted x ys (List.pairwise_cons.mp h).2)
      rcases List.mem_cons.mp ((ins1_perm x ys).mem_iff.mp hz) with q | q
      · rw [q]; omega
      · exact (List.pairwise_cons.mp h).1 z q
theorem isort_sorted : ∀ xs, (isort xs).Pairwise (· ≤ ·)
  | [] => .nil
  | x :: xs => ins1_sorted x _ (isort_sorted xs)
theorem isort_only {a b : List Int} (hp : a.Perm b) (ha : a.Pairwise (· ≤ ·)) : a = isort b :=
  PySem.W.ksm_same (hp.trans (isort_perm b).symm) ha (isort_sorted b)
def sortedM : List PV → M PV := fun xs h => match xs with
  | [x] => (match intsAt h x with
    | some ns => .ok (.lst ((isort ns).map PV.int)) h
    | none => .bad)
  | _ => .bad
theorem c_sorted : CallS X (.builtin "sorted") sortedM := ⟨_, cr_sortedI, fun W bs h H xs vs Q rp rx o => by
  match xs, vs, rx, o with
  | [], _, _, o => exact o.elim
  | x :: y :: t, _, _, o => exact o.elim
  | [x], [v], .cons r .nil, o =>
    cases e : intsAt h x with
    | none => simp only [sortedM, e] at o; exact o.elim
    | some ns =>
      simp only [sortedM, e] at o
      obtain ⟨a, rfl, ha⟩ := intsAt_ok rp r e
      refine ⟨a, ns, rfl, SqL.of ha, fun ns' p hp hs hf => ?_⟩
      rw [isort_only hp hs]
      exact o bs _ _ (Ext.fresh hf) (rp.fresh hf) (.lst upd_same (rp.free hf) (pur_ints _) (rvs_ints _))⟩
end
end Sm

namespace Sm
open PySem PySem.Spec PyProof.Rows L2

/-! ### places -/
section
variable {K : PySem.W.Frag} {mg : Str → Option Value} {bs : List Addr} {H : Hp}
theorem RVs.atI {xs : List PV} {vs : List V} (r : RVs K mg bs H xs vs) {i : Int} {x : PV} (h : atI xs i = some x) : ∃ v, L2.atI vs i = some v ∧ RV K mg bs H x v := by
  unfold L2.atI at h ⊢
  rw [← r.length]
  cases e : ixN xs.length i with
  | none => rw [e] at h; cases h
  | some j =>
    rw [e] at h
    exact r.get h
theorem cutV_of {xs : List PV} {vs : List V} (r : RVs K mg bs H xs vs) (lo hi : Option Int) : RVs K mg bs H ((xs.drop (HT.sIx xs.length 0 lo)).take (HT.sIx xs.length xs.length hi - HT.sIx xs.length 0 lo)) (cutV vs lo hi) := by
  unfold cutV
  rw [← r.length]
  exact (r.drop _).take _
end
def cutL {α : Type} (xs : List α) (lo hi : Option Int) : List α := (xs.drop (HT.sIx xs.length 0 lo)).take (HT.sIx xs.length xs.length hi - HT.sIx xs.length 0 lo)
section
variable {X : Cx}
def ixM : PV → PV → M PV := fun x y h => match y with
  | .int i => (match x with
    | .str s => if s.length ≤ lim then (match atI s i with
      | some c => .ok (.str [c]) h
      | none => .bad) else .bad
    | x => (match seqOf h x with
      | some xs => (match atI xs i with
        | some v => .ok v h
        | none => .bad)
      | none => .bad))
  | _ => .bad
theorem i_seq : IxS X ixM := ⟨_, ix_seq, fun W bs h H x y v w Q rp rx ry o => by
  cases ry with
  | int i =>
    have gen : Out X.K X.mg (RV X.K X.mg) W bs H (match seqOf h x with
        | some xs => (match atI xs i with
          | some v => R.ok v h
          | none => .bad)
        | none => .bad) Q → rIx X.K v (.int i) H Q := fun o => by
      cases e : seqOf h x with
      | none => rw [e] at o; exact o.elim
      | some xs =>
        rw [e] at o
        obtain ⟨a, vs, rfl, hs, rs⟩ := seqOf_ok rp rx e
        have o : Out X.K X.mg (RV X.K X.mg) W bs H (match atI xs i with
          | some v => R.ok v h
          | none => .bad) Q := o
        cases e2 : atI xs i with
        | none => rw [e2] at o; exact o.elim
        | some z =>
          rw [e2] at o
          obtain ⟨zv, hz, rz⟩ := rs.atI e2
          rcases hs with hs | hs
          · exact .inl ⟨a, vs, i, zv, rfl, rfl, hs, hz, o.here rp rz⟩
          · exact .inr (.inl ⟨a, vs, i, zv, rfl, rfl, hs, hz, o.here rp rz⟩)
    cases rx with
    | str s =>
      by_cases hl : s.length ≤ lim
      · cases e : atI s i with
        | none => simp only [ixM, hl, if_true, e] at o; exact o.elim
        | some c =>
          simp only [ixM, hl, if_true, e] at o
          refine .inr (.inr ⟨_, i, c, rfl, rfl, by rw [str_len, ← lim_eq]; exact hl, by simpa using e, ?_⟩)
          exact o.here rp (.str [c])
      · simp only [ixM, hl, if_false] at o; exact o.elim
    | non => exact gen o
    | bl b => exact gen o
    | int b => exact gen o
    | tup t rs => exact gen o
    | wtp t hn rs => exact gen o
    | lst q hn hp rs => exact gen o
    | scr q hn hp rs => exact gen o
    | ins m q l hn hp rs => exact gen o
    | dK q hn k hp rs => exact gen o
    | dT q hn k hp rs => exact gen o
    | ref q => exact gen o
  | _ => exact o.elim⟩

/-! ### slices -/
def rSlF (K : PySem.W.Frag) : V → Option Int → Option Int → Hp → VK → Prop := fun x lo hi H Q => ∃ a xs, x = .ref a ∧ SqT K H a xs ∧
  (HT.sIx xs.length 0 lo = 0 ∧ HT.sIx xs.length xs.length hi = xs.length → Q (.ref a) H) ∧ (¬ (HT.sIx xs.length 0 lo = 0 ∧ HT.sIx xs.length xs.length hi = xs.length) → ∀ (p : Addr) (ob : Obj), H p = none → ob.dict = none → Q (.ref p) (upd H p (.frz ob (.tup (cutV xs lo hi)))))
theorem sl_tupF : SlR X (rSlF X.K) := by
  intro pins s σ H x v vl vu lo hi sl Q I rx hs pl pu h
  obtain ⟨a, xs, rfl, hx, q1, q2⟩ := h
  by_cases hw : HT.sIx xs.length 0 lo = 0 ∧ HT.sIx xs.length xs.length hi = xs.length
  · exact sl_tupA pins s σ H _ v vl vu lo hi sl Q I rx hs pl pu ⟨a, xs, rfl, hx, q1, fun z => absurd hw z⟩
  · cases rx
    obtain ⟨its, r, ht, hz⟩ := I.tuple hx
    have hlen : its.toArray.size = xs.length := by rw [List.size_toArray]; exact r.length.symm
    refine ⟨"tuple", _, PyProof.Rows.slot_tuple_getitem.lookup, ht.typeIs, ?_⟩
    refine HT.getItem_tuple_cut ht hs pl pu (by rw [hlen]; exact hw) ?_ (by rw [hlen]; exact hz)
    rw [hlen]
    refine ⟨.ref s.heap.objs.size, _, I.laid (t' := s.toks) (o := .frz _ (.tup (cutV xs lo hi))) (fun b ob q => Heap.get?_push_of_some _ q) (Nat.le_refl _) ⟨Heap.get?_push_size _ rfl, ?_⟩, rfl, q2 hw _ _ (I.hok.fresh (Nat.le_refl _)) rfl⟩
    exact ⟨Nat.le_trans (cutV_length xs lo hi) hz, _, (r.drop (HT.sIx xs.length 0 lo)).take (HT.sIx xs.length xs.length hi - HT.sIx xs.length 0 lo), IsTup.new _ _⟩
def slM (x : PV) (lo hi : Option Int) : M PV := fun h => match x with
  | .str s => if s.length ≤ lim then .ok (.str (cutL s lo hi)) h else .bad
  | .tup xs => .ok (.tup (cutL xs lo hi)) h
  | x => (match lstOf h x with
    | some xs => .ok (.lst (cutL xs lo hi)) h
    | none => .bad)
def rSlX (K : PySem.W.Frag) : V → Option Int → Option Int → Hp → VK → Prop := fun x lo hi H Q => rSlS x lo hi H Q ∨ (rSlF K x lo hi H Q ∨ rSlL K x lo hi H Q)
theorem sl_any : SlR X (rSlX X.K) := SlR.or sl_str (SlR.or sl_tupF sl_list)
theorem sim_sl {W : XK} {bs : List Addr} {h : HP} {H : Hp} {x : PV} {v : V} {lo hi : Option Int} {Q : VK} (rp : Rep X.K X.mg bs h H) (rx : RV X.K X.mg bs H x v) (o : Out X.K X.mg (RV X.K X.mg) W bs H (slM x lo hi h) Q) : rSlX X.K v lo hi H Q := by
  have gen : Out X.K X.mg (RV X.K X.mg) W bs H (match lstOf h x with
      | some xs => R.ok (.lst (cutL xs lo hi)) h
      | none => .bad) Q → rSlX X.K v lo hi H Q := fun o => by
    cases e : lstOf h x with
    | none => rw [e] at o; exact o.elim
    | some xs =>
      rw [e] at o
      obtain ⟨a, vs, rfl, hs, rs, pp⟩ := lstOf_ok rp rx e
      refine .inr (.inr ⟨a, vs, rfl, SqL.of hs, fun p hp => ?_⟩)
      exact o bs _ _ (Ext.fresh hp) (rp.fresh hp) (.lst upd_same (rp.free hp) (purL_take (purL_drop pp _) _) ((cutV_of rs lo hi).mono (Ext.fresh hp)))
  cases rx with
  | str s =>
    by_cases hl : s.length ≤ lim
    · simp only [slM, hl, if_true] at o
      refine .inl ⟨_, rfl, by rw [str_len, ← lim_eq]; exact hl, ?_⟩
      have e : cutS ⟨s.toArray⟩ lo hi = ⟨(cutL s lo hi).toArray⟩ := by
        unfold cutS cutL
        rw [str_len]
      rw [e]
      exact o.here rp (.str _)
    · simp only [slM, hl, if_false] at o; exact o.elim
  | @tup xs a vs t rs =>
    refine .inr (.inl ⟨_, _, rfl, t.sq, fun hw => ?_, fun hw p ob hp hd => ?_⟩)
    · have e : cutL xs lo hi = xs := by
        unfold cutL
        rw [rs.length, hw.1, hw.2, List.drop_zero, Nat.sub_zero, ← rs.length, List.take_length]
      have o : Out X.K X.mg (RV X.K X.mg) W bs H (R.ok (.tup (cutL xs lo hi)) h) Q := o
      rw [e] at o
      exact o.here rp (.tup t rs)
    · have o : Out X.K X.mg (RV X.K X.mg) W bs H (R.ok (.tup (cutL xs lo hi)) h) Q := o
      exact o bs _ _ (Ext.fresh hp) (rp.fresh hp) (.tup (.inl ⟨⟨ob, upd_same, hd⟩, rp.free hp⟩) ((cutV_of rs lo hi).mono (Ext.fresh hp)))
  | non => exact gen o
  | bl b => exact gen o
  | int b => exact gen o
  | wtp t hn rs => exact gen o
  | lst q hn hp rs => exact gen o
  | scr q hn hp rs => exact gen o
  | ins m q l hn hp rs => exact gen o
  | dK q hn k hp rs => exact gen o
  | dT q hn k hp rs => exact gen o
  | ref q => exact gen o
/-- a slice's part -/
abbrev OM (X : Cx) (W : WX) (e : Option Expr) (m : ME (Option Int)) : Prop := PO X e (tG X.K X.mg (fun _ _ a b => a = b) W m)
@[inline] def noP : ME (Option Int) := fun _ h => .ok none h
@[inline] def isP (m : ME PV) : ME (Option Int) := fun env h => (m env h).bind fun x h1 => match x with
  | .int i => .ok (some i) h1
  | _ => .bad
variable {W : WX}
theorem om_none : OM X W none noP := ⟨fun pins s σ H Q I ⟨env, bs, h, er, rp, o⟩ => po_none.run pins s σ H Q I (o.here rp rfl)⟩
theorem om_some {e : Expr} {m : ME PV} (he : EM X W e m) : OM X W (some e) (isP m) := ⟨fun pins s σ H Q I ⟨env, bs, h, er, rp, o⟩ => (po_some he).run pins s σ H Q I (by
  refine ⟨env, bs, h, er, rp, Out.bind o ?_⟩
  rintro v H1 ⟨bs1, h1, x, e1, rp1, rx, o1⟩
  cases rx with
  | int i => exact ⟨i, rfl, o1.here rp1 rfl⟩
  | _ => exact o1.elim)⟩
@[inline] def slice (m : ME PV) (ml mh : ME (Option Int)) : ME PV := fun env h => (m env h).bind fun x h1 => (ml env h1).bind fun lo h2 => (mh env h2).bind fun hi h3 => slM x lo hi h3
theorem em_slice {e : Expr} {lo hi : Option Expr} {m : ME PV} {ml mh : ME (Option Int)} {pos p2 : Pos} (he : EM X W e m) (hl : OM X W lo ml) (hh : OM X W hi mh) : EM X W (.Subscript e (.Slice lo hi none p2) pos) (slice m ml mh) :=
  PE.imp (pe_slice sl_any he hl hh) fun σ H Q ⟨env, bs, h, er, rp, o⟩ => by
    refine ⟨env, bs, h, er, rp, Out.bind o ?_⟩
    rintro v H1 ⟨bs1, h1, x, e1, rp1, rx, o1⟩
    refine ⟨env, bs1, h1, er.mono e1, rp1, Out.bind o1 ?_⟩
    rintro l H2 ⟨bs2, h2, l', e2, rp2, rl, o2⟩
    refine ⟨env, bs2, h2, (er.mono e1).mono e2, rp2, Out.bind o2 ?_⟩
    rintro u H3 ⟨bs3, h3, u', e3, rp3, ru, o3⟩
    cases rl
    cases ru
    exact sim_sl rp3 ((rx.mono e2).mono e3) o3

/-! ### xs[i] = v -/
def setM (o i v : PV) : M Unit := fun h => match o, i with
  | .ref n, .int k => (match h[n]? with
    | some (.lst xs) => (match ixN xs.length k with
      | some j => if pur v = true then .ok () (h.set n (.lst (xs.set j v))) else .bad
      | none => .bad)
    | _ => .bad)
  | _, _ => .bad
@[inline] def gSb (mo mi : ME PV) : PV → ME En := fun x env h => (mo env h).nbind fun o h1 => (mi env h1).nbind fun i h2 => (setM o i x h2).nbind fun _ h3 => .ok env h3
theorem nb_noex {α β : Type} {r : R α} {f : α → HP → R β} (hf : ∀ a h c e h', f a h ≠ .ex c e h') {c : Nat} {e : List PV} {h' : HP} : r.nbind f ≠ .ex c e h' := by
  cases r with
  | ok a h => exact hf a h c e h'
  | ex _ _ _ => exact nofun
  | bad => exact nofun
theorem noex_sub {mo mi : ME PV} : NoEx (gSb mo mi) := fun x env h c f h' => nb_noex fun _ _ _ _ _ => nb_noex fun _ _ _ _ _ => nb_noex fun _ _ _ _ _ e => by cases e
theorem gm_sub {vs : List Nat} {o i : Expr} {mo mi : ME PV} {pos : Pos} (ho : EM X W0 o mo) (hi : EM X W0 i mi)
    (ha : ∀ v, assign (.Subscript o i pos) X.env v = (do
      let ov ← holding [v] (eval o X.env)
      let iv ← holding [v, ov] (eval i X.env)
      standAt pos
      holding [v, ov, iv] (setItem ov iv v)
      release [v, ov, iv] []) := by intro _; rfl) : GM X vs (.Subscript o i pos) (gSb mo mi) := PG.imp (pg_sub ho hi set_list ha) fun v σ H Q ⟨env, bs, h, x, er, rp, rx, o⟩ => by
  have o : Out X.K X.mg _ _ bs H ((mo env h).nbind fun o h1 => (mi env h1).nbind fun i h2 => (setM o i x h2).nbind fun _ h3 => .ok env h3) _ := o
  refine ⟨env, bs, h, er, rp, ?_⟩
  cases q1 : mo env h with
  | bad => rw [q1] at o; exact o.elim
  | ex c f h1 => rw [q1] at o; exact o.elim
  | ok ov h1 =>
    rw [q1] at o
    intro bs1 H1 w1 e1 rp1 r1
    refine ⟨env, bs1, h1, er.mono e1, rp1, ?_⟩
    have o : Out X.K X.mg _ _ bs H ((mi env h1).nbind fun i h2 => (setM ov i x h2).nbind fun _ h3 => .ok env h3) _ := o
    cases q2 : mi env h1 with
    | bad => rw [q2] at o; exact o.elim
    | ex c f h2 => rw [q2] at o; exact o.elim
    | ok iv h2 =>
      rw [q2] at o
      intro bs2 H2 w2 e2 rp2 r2
      have o : Out X.K X.mg _ _ bs H ((setM ov iv x h2).nbind fun _ h3 => .ok env h3) _ := o
      have rx2 := (rx.mono e1).mono e2
      have ro2 := r1.mono e2
      cases ro2 with
      | @ref n a qn =>
        cases r2 with
        | int k =>
          have es : setM (.ref n) (.int k) x h2 = (match h2[n]? with
            | some (.lst xs) => (match ixN xs.length k with
              | some j => if pur x = true then .ok () (h2.set n (.lst (xs.set j x))) else .bad
              | none => .bad)
            | _ => .bad) := rfl
          rw [es] at o
          cases eh : h2[n]? with
          | none => rw [eh] at o; exact o.elim
          | some ob =>
            rw [eh] at o
            cases ob with
            | lst xs =>
              cases ej : ixN xs.length k with
              | none => simp only [ej] at o; exact o.elim
              | some j =>
                simp only [ej] at o
                by_cases hp : pur x = true
                · simp only [hp, if_true] at o
                  obtain ⟨pp, ws, hw, rs⟩ := ref_at rp2 qn eh
                  refine ⟨a, ws, k, j, rfl, rfl, hw, by rw [← rs.length]; exact ej, ?_⟩
                  have hm : a ∈ bs2 := List.mem_of_getElem? qn
                  have ew : Ext bs2 H2 bs2 (upd H2 a (.lst (ws.set j v))) := Ext.write hm
                  have rp3 := rp2.set (x := .lst (xs.set j x)) (o := .lst (ws.set j v)) qn ⟨purL_set pp j hp, _, upd_same, (rs.mono ew).set j (rx2.mono ew)⟩
                  exact o bs2 _ σ ((e1.trans e2).trans ew) rp3 (((er.mono e1).mono e2).mono ew) rfl
                · simp only [hp, if_false] at o; exact o.elim
            | _ => exact o.elim
        | _ => exact o.elim
      | _ => exact o.elim
end
end Sm

namespace Sm
open PySem PySem.Spec PyProof.Rows L2

/-! ### methods of built-in things -/
def TyA (X : Cx) (T : String) (x : V) (H : Hp) : Prop := ∀ (pins : List (Addr × Obj)) (s : Shared) (σ : L2.St) (v : Value), Inv X pins σ H s → RelV x v → s.TypeIs v T ∧ ∀ a, v = .ref a → ∃ ob, s.heap.get? a = some ob ∧ ob.dict = none
def MtS (X : Cx) (T : String) (name : Str) (chk : HP → PV → Bool) (f : PV → List PV → M PV) : Prop := ∃ id r, PlainAttrs T ∧ Slot T name id ∧ typeOf (.builtin id) = Pure.pure (.type "method_descriptor") ∧ MtR X id r ∧ SimB X r f ∧
  ∀ bs h H x v, Rep X.K X.mg bs h H → RV X.K X.mg bs H x v → chk h x = true → TyA X T v H
@[inline] def meth (mo : ME PV) (chk : HP → PV → Bool) (ms : ME (List PV)) (f : PV → List PV → M PV) : ME PV := fun env h => (mo env h).bind fun x h1 => match chk h1 x with
  | true => (ms env h1).bind fun xs h2 => f x xs h2
  | false => .bad
section
variable {X : Cx} {W : WX} {o e : Expr} {es : List Expr} {mo : ME PV} {ms : ME (List PV)} {T : String} {name : Str} {chk : HP → PV → Bool} {f : PV → List PV → M PV} {apos cpos : Pos}
theorem em_meth (S : MtS X T name chk f) (ho : EM X W o mo) (ha : AM X W (e :: es) ms)
    (hbase : attributeBase o name X.env (eval o X.env) = eval o X.env := by rfl)
    (hfew : ((backTo cpos (starEach (e :: es) X.env)).all (fun x => !x.1) && (backToKw cpos (keywordEach [] X.env)).all (fun x => x.1.isSome)
      && decide ((e :: es).length + ([] : List Keyword).length + (if ([] : List Keyword).isEmpty then 0 else 1) < 30)) = true := by rfl)
    (hline : (apos.endLine == cpos.line) = true := by rfl) (hs : starEach (e :: es) X.env = (false, eval e X.env) :: starEach es X.env := by rfl) (hplain : (backTo cpos (starEach es X.env)).any (·.1) = false := by rfl) :
    EM X W (.Call (.Attribute o name apos) (e :: es) [] cpos) (meth mo chk ms f) := by
  obtain ⟨id, r, pa, slot, hty, hm, sim, ty⟩ := S
  refine ⟨fun pins s σ H Q I hq => ?_⟩
  have hq2 : tM X.K X.mg W mo σ H fun x H1 => TyA X T x H1 ∧ tMA X.K X.mg W ms σ H1 fun xs H2 => r x xs H2 Q := by
    obtain ⟨env, bs, h, er, rp, o⟩ := hq
    refine ⟨env, bs, h, er, rp, Out.bind o ?_⟩
    rintro v H1 ⟨bs1, h1, x, e1, rp1, rx, o1⟩
    cases hc : chk h1 x with
    | false => simp only [hc] at o1; exact o1.elim
    | true =>
      simp only [hc] at o1
      refine ⟨ty bs1 h1 H1 x v rp1 rx hc, env, bs1, h1, er.mono e1, rp1, Out.bind o1 ?_⟩
      rintro vs H2 ⟨bs2, h2, xs, e2, rp2, rxs, o2⟩
      exact sim _ bs2 h2 H2 x v xs vs Q rp2 (rx.mono e2) rxs o2
  refine wpAny_Call_method_late hbase hfew hline rfl (thn (ho.run pins s σ H _ I hq2) fun v s1 ⟨x, H1, I1, r1, ty, q1⟩ => ?_)
  obtain ⟨h1, h2⟩ := ty pins s1 σ v I1 r1
  refine ⟨T, id, pa, slot, hty, h1, h2, ?_⟩
  have hA := ha.run cpos pins s1 σ H1 _ I1 q1
  rw [hs] at hA ⊢
  refine Calls.callWith_builtin (by show (false || (backTo cpos (starEach es X.env)).any (·.1)) = false; rw [hplain] <;> rfl) (Calls.evalArgs_plain ?_)
  exact thn hA fun us s2 ⟨vs, H2, I2, r2, q2⟩ => hm pins s2 σ H2 x vs v us Q I2 r1 r2 q2
end
section
variable {X : Cx}
def chkS (_ : HP) : PV → Bool
  | .str _ => true
  | _ => false
def chkL (h : HP) (x : PV) : Bool := (lstOf h x).isSome
def chkT (_ : HP) : PV → Bool
  | .tup _ => true
  | _ => false
theorem ty_str {bs : List Addr} {h : HP} {H : Hp} {x : PV} {v : V} (_ : Rep X.K X.mg bs h H) (rx : RV X.K X.mg bs H x v) (hc : chkS h x = true) : TyA X "str" v H := by
  cases rx with
  | str s => exact fun pins s σ u I r => tyV_is I r (show tyV X.K "str" (.str _) H from rfl)
  | _ => cases hc
theorem ty_lst {bs : List Addr} {h : HP} {H : Hp} {x : PV} {v : V} (rp : Rep X.K X.mg bs h H) (rx : RV X.K X.mg bs H x v) (hc : chkL h x = true) : TyA X "list" v H := by
  unfold chkL at hc
  cases e : lstOf h x with
  | none => rw [e] at hc; cases hc
  | some xs =>
    obtain ⟨a, vs, rfl, ha, _⟩ := lstOf_ok rp rx e
    exact fun pins s σ u I r => tyV_is I r (show tyV X.K "list" (.ref a) H from .inl ⟨rfl, vs, SqL.of ha⟩)
theorem ty_tup {bs : List Addr} {h : HP} {H : Hp} {x : PV} {v : V} (_ : Rep X.K X.mg bs h H) (rx : RV X.K X.mg bs H x v) (hc : chkT h x = true) : TyA X "tuple" v H := by
  cases rx with
  | @tup xs a vs t rs =>
    intro pins s σ u I r
    cases r
    rcases t with ⟨⟨o, t, hd⟩, _⟩ | ⟨o, its, n, h1, h2, h3, h4⟩
    · obtain ⟨hg, _, its, _, ht⟩ := I.hok a _ t
      refine ⟨ht.typeIs, fun b e => ?_⟩
      cases e
      exact ⟨o, hg, hd⟩
    · refine ⟨⟨o, I.kIn a o h1, h2⟩, fun b e => ?_⟩
      cases e
      exact ⟨o, I.kIn a o h1, h3⟩
  | _ => cases hc

def appM : PV → List PV → M PV := fun x ys h => match x, ys with
  | .ref n, [y] => (match h[n]? with
    | some (.lst xs) => if pur y = true ∧ xs.length < lim then .ok .non (h.set n (.lst (xs ++ [y]))) else .bad
    | _ => .bad)
  | _, _ => .bad
theorem m_append : MtS X "list" "append" chkL appM := ⟨_, _, PySem.F.plainAttrs_list, PySem.F.slot_list_append, PySem.F.type_list_append, mt_append, fun W bs h H x v ys vs Q rp rx ry o => by
  cases rx with
  | @ref n a q =>
    match ys, vs, ry, o with
    | [], _, _, o => exact o.elim
    | _ :: _ :: _, _, _, o => exact o.elim
    | [y], [w], .cons r .nil, o =>
      cases eh : h[n]? with
      | none => simp only [appM, eh] at o; exact o.elim
      | some ob =>
        cases ob with
        | lst xs =>
          by_cases hc : pur y = true ∧ xs.length < lim
          · simp only [appM, eh, hc, and_self, if_true] at o
            obtain ⟨pp, ws, hw, rs⟩ := ref_at rp q eh
            refine ⟨a, ws, w, rfl, rfl, hw, by rw [← rs.length, ← lim_eq]; exact hc.2, ?_⟩
            have hm : a ∈ bs := List.mem_of_getElem? q
            have ew : Ext bs H bs (upd H a (.lst (ws ++ [w]))) := Ext.write hm
            have rp3 := rp.set (x := .lst (xs ++ [y])) (o := .lst (ws ++ [w])) q ⟨by rw [purL_append, pp]; simp [purL, hc.1], _, upd_same, (rs.mono ew).append (.cons (r.mono ew) .nil)⟩
            exact o bs _ _ ew rp3 .non
          · simp only [appM, eh, hc, if_false] at o; exact o.elim
        | _ => simp only [appM, eh] at o; exact o.elim
  | _ => exact o.elim, fun bs h H x v rp rx hc => ty_lst rp rx hc⟩
def extM : PV → List PV → M PV := fun x ys h => match x, ys with
  | .ref n, [y] => (match h[n]?, lstOf h y with
    | some (.lst xs), some zs => if xs.length + zs.length ≤ lim then .ok .non (h.set n (.lst (xs ++ zs))) else .bad
    | _, _ => .bad)
  | _, _ => .bad
theorem m_extend : MtS X "list" "extend" chkL extM := ⟨_, _, PySem.F.plainAttrs_list, PySem.F.slot_list_extend, PySem.F.type_list_extend, mt_extend, fun W bs h H x v ys vs Q rp rx ry o => by
  cases rx with
  | @ref n a q =>
    match ys, vs, ry, o with
    | [], _, _, o => exact o.elim
    | _ :: _ :: _, _, _, o => exact o.elim
    | [y], [w], .cons r .nil, o =>
      cases eh : h[n]? with
      | none => simp only [extM, eh] at o; exact o.elim
      | some ob =>
        cases ob with
        | lst xs =>
          cases ey : lstOf h y with
          | none => simp only [extM, eh, ey] at o; exact o.elim
          | some zs =>
            by_cases hc : xs.length + zs.length ≤ lim
            · simp only [extM, eh, ey, hc, if_true] at o
              obtain ⟨pp, ws, hw, rs⟩ := ref_at rp q eh
              obtain ⟨b, us, rfl, hb, rz, pz⟩ := lstOf_ok rp r ey
              refine ⟨a, b, ws, us, rfl, rfl, hw, hb, by rw [← rs.length, ← rz.length, ← lim_eq]; exact hc, ?_⟩
              have hm : a ∈ bs := List.mem_of_getElem? q
              have ew : Ext bs H bs (upd H a (.lst (ws ++ us))) := Ext.write hm
              have rp3 := rp.set (x := .lst (xs ++ zs)) (o := .lst (ws ++ us)) q ⟨by rw [purL_append, pp, pz]; rfl, _, upd_same, (rs.mono ew).append (rz.mono ew)⟩
              exact o bs _ _ ew rp3 .non
            · simp only [extM, eh, ey, hc, if_false] at o; exact o.elim
        | _ => simp only [extM, eh] at o; exact o.elim
  | _ => exact o.elim, fun bs h H x v rp rx hc => ty_lst rp rx hc⟩
def popM : PV → List PV → M PV := fun x ys h => match x, ys with
  | .ref n, [.int k] => (match h[n]? with
    | some (.lst xs) => (match ixN xs.length k with
      | some j => (match xs[j]? with
        | some y => if xs.length ≤ lim then .ok y (h.set n (.lst (xs.eraseIdx j))) else .bad
        | none => .bad)
      | none => .bad)
    | _ => .bad)
  | _, _ => .bad
theorem m_pop : MtS X "list" "pop" chkL popM := ⟨_, _, PySem.F.plainAttrs_list, PySem.F.slot_list_pop, PySem.F.type_list_pop, mt_popAt, fun W bs h H x v ys vs Q rp rx ry o => by
  cases rx with
  | @ref n a q =>
    cases ry with
    | nil => exact o.elim
    | cons r rs =>
     cases rs with
     | cons r2 rs2 => cases r <;> exact o.elim
     | nil =>
      cases r with
      | int k =>
        cases eh : h[n]? with
        | none => simp only [popM, eh] at o; exact o.elim
        | some ob =>
          cases ob with
          | lst xs =>
            cases ej : ixN xs.length k with
            | none => simp only [popM, eh, ej] at o; exact o.elim
            | some j =>
              cases ey : xs[j]? with
              | none => simp only [popM, eh, ej, ey] at o; exact o.elim
              | some y =>
                by_cases hc : xs.length ≤ lim
                · simp only [popM, eh, ej, ey, hc, if_true] at o
                  obtain ⟨pp, ws, hw, rs⟩ := ref_at rp q eh
                  obtain ⟨yv, hy, ry⟩ := rs.get ey
                  obtain ⟨h1, h2, h3, h4⟩ := ixN_seq ej
                  have hl : lim = 16777216 := rfl
                  refine ⟨a, ws, k, j, yv, rfl, rfl, hw, by omega, by omega, by rw [← rs.length]; exact h1, hy, ?_⟩
                  have hm : a ∈ bs := List.mem_of_getElem? q
                  have ew : Ext bs H bs (upd H a (.lst (ws.eraseIdx j))) := Ext.write hm
                  have rp3 := rp.set (x := .lst (xs.eraseIdx j)) (o := .lst (ws.eraseIdx j)) q ⟨purL_erase pp j, _, upd_same, (rs.mono ew).erase j⟩
                  exact o bs _ _ ew rp3 (ry.mono ew)
                · simp only [popM, eh, ej, ey, hc, if_false] at o; exact o.elim
          | _ => simp only [popM, eh] at o; exact o.elim
      | _ => exact o.elim
  | _ => exact o.elim, fun bs h H x v rp rx hc => ty_lst rp rx hc⟩
end
end Sm

namespace Sm
open PySem PySem.Spec PyProof.Rows L2
section
variable {X : Cx}
/-! ### t.count(k), ints -/
def rCntT (K : PySem.W.Frag) : V → List V → Hp → VK → Prop := fun x xs H Q => ∃ (p : Addr) (ns : List Int) (k : Int), x = .ref p ∧ xs = [.int k] ∧ SqT K H p (ns.map V.int) ∧ Q (.int (ns.count k : Nat)) H
theorem mt_tcount : MtR X "tuple.count" (rCntT X.K) := by
  intro pins s σ H x xs v us Q I rx rxs h
  obtain ⟨p, ns, k, rfl, rfl, hs, q⟩ := h
  cases rx
  obtain ⟨u, rfl, ru⟩ := rxs.one
  obtain ⟨t, rfl⟩ := ru
  obtain ⟨its, rv, pl, hlen⟩ := I.tuple hs
  obtain ⟨⟨cls, dd, data, sl⟩, ho, hc, n, hd⟩ := pl
  simp only at hc hd
  subst hc hd
  have hi := ints_of_vals rv
  refine call_meets PySem.F.slot_tuple_count ⟨_, ho, rfl⟩ PySem.F.entry_tuple_count (PySem.F.args_tuple_count_2 _ _)
    (SeqAt.tuple_countAt p its.toArray n dd sl (.int k t) (eqk k)) ⟨ho, fun y hy => (eqk_gives hi y (by simpa using hy)).at _ _, ?_⟩
  have ec : its.toArray.toList.countP (eqk k) = ns.count k := eqk_count hi
  refine ⟨.int (ns.count k : Nat), H, I.tok _, ⟨s.toks, ?_⟩, q⟩
  show Value.int ((its.toArray.toList.countP (eqk k) : Nat) : Int) s.toks = Value.int ((ns.count k : Nat) : Int) s.toks
  rw [ec]
def cntM : PV → List PV → M PV := fun x ys h => match x, ys with
  | .tup xs, [.int k] => (match intsOf xs with
    | some ns => .ok (.int (ns.count k : Nat)) h
    | none => .bad)
  | _, _ => .bad
theorem m_count : MtS X "tuple" "count" chkT cntM := ⟨_, _, PySem.F.plainAttrs_tuple, PySem.F.slot_tuple_count, PySem.F.type_tuple_count, mt_tcount, fun W bs h H x v ys vs Q rp rx ry o => by
  cases rx with
  | @tup xs a ws t rs =>
    cases ry with
    | nil => exact o.elim
    | cons r rs2 =>
      cases rs2 with
      | cons _ _ => cases r <;> exact o.elim
      | nil =>
        cases r with
        | int k =>
          cases e : intsOf xs with
          | none => simp only [cntM, e] at o; exact o.elim
          | some ns =>
            simp only [cntM, e] at o
            have := intsOf_ok e
            subst this
            have e2 := rv_ints rs
            subst e2
            exact ⟨a, ns, k, rfl, rfl, t.sq, o.here rp (.int _)⟩
        | _ => exact o.elim
  | _ => exact o.elim, fun bs h H x v rp rx hc => ty_tup rp rx hc⟩
/-! ### t.index(z), texts -/
def fstIx (z : List Nat) : List (List Nat) → Option Nat
  | [] => none
  | y :: ys => if y = z then some 0 else (match fstIx z ys with
    | some j => some (j + 1)
    | none => none)
theorem fstIx_ok {z : List Nat} : ∀ {ys : List (List Nat)} {j : Nat}, fstIx z ys = some j → ys[j]? = some z ∧ ∀ m, m < j → ys[m]? ≠ some z
  | [], _, h => nomatch h
  | y :: ys, j, h => by
    unfold fstIx at h
    by_cases e : y = z
    · rw [if_pos e] at h
      cases h
      exact ⟨by rw [e]; rfl, fun m hm => absurd hm (Nat.not_lt_zero _)⟩
    · rw [if_neg e] at h
      cases q : fstIx z ys with
      | none => rw [q] at h; cases h
      | some k =>
        rw [q] at h
        cases h
        obtain ⟨h1, h2⟩ := fstIx_ok q
        refine ⟨by simpa using h1, fun m hm => ?_⟩
        cases m with
        | zero => simpa using e
        | succ m => simpa using h2 m (by omega)
def tixM : PV → List PV → M PV := fun x ys h => match x, ys with
  | .tup xs, [.str z] => (match strsOf xs with
    | some ss => (match fstIx z ss with
      | some j => .ok (.int (j : Nat)) h
      | none => .bad)
    | none => .bad)
  | _, _ => .bad
theorem m_index : MtS X "tuple" "index" chkT tixM := ⟨_, _, PySem.F.plainAttrs_tuple, PySem.F.slot_tuple_index, PySem.F.type_tuple_index, mt_tup_index, fun W bs h H x v ys vs Q rp rx ry o => by
  cases rx with
  | @tup xs a ws t rs =>
    cases ry with
    | nil => exact o.elim
    | cons r rs2 =>
      cases rs2 with
      | cons _ _ => cases r <;> exact o.elim
      | nil =>
        cases r with
        | str z =>
          cases e : strsOf xs with
          | none => simp only [tixM, e] at o; exact o.elim
          | some ss =>
            cases e2 : fstIx z ss with
            | none => simp only [tixM, e, e2] at o; exact o.elim
            | some j =>
              simp only [tixM, e, e2] at o
              have := strsOf_ok e
              subst this
              have e3 := rv_strs rs
              subst e3
              obtain ⟨h1, h2⟩ := fstIx_ok e2
              refine ⟨a, _, _, j, rfl, rfl, t.sq, by rw [List.getElem?_map, h1]; rfl, fun m hm q => h2 m hm ?_, o.here rp (.int _)⟩
              rw [List.getElem?_map] at q
              cases e4 : ss[m]? with
              | none => rw [e4] at q; cases q
              | some y =>
                rw [e4] at q
                have q2 : (⟨y.toArray⟩ : Str) = ⟨z.toArray⟩ := by simpa using q
                injection q2 with q3
                have : y = z := by simpa using congrArg Array.toList q3
                rw [this]
        | _ => exact o.elim
  | _ => exact o.elim, fun bs h H x v rp rx hc => ty_tup rp rx hc⟩
/-! ### s.split(sep), sep.join(xs) -/
def splM : PV → List PV → M PV := fun x ys h => match x, ys with
  | .str s, [.str t] => if t ≠ [] ∧ t.all (· < 256) = true ∧ s.length + 2 ≤ lim then .ok (.lst ((TL.spl t 0 [] s).map PV.str)) h else .bad
  | _, _ => .bad
theorem m_split : MtS X "str" "split" chkS splM := ⟨_, _, PySem.F.plainAttrs_str, PySem.F.slot_str_split, PySem.F.type_str_split, mt_split, fun W bs h H x v ys vs Q rp rx ry o => by
  cases rx with
  | str s =>
    cases ry with
    | nil => exact o.elim
    | cons r rs2 =>
      cases rs2 with
      | cons _ _ => cases r <;> exact o.elim
      | nil =>
        cases r with
        | str t =>
          by_cases hc : t ≠ [] ∧ t.all (· < 256) = true ∧ s.length + 2 ≤ lim
          · have e : splM (.str s) [.str t] h = .ok (.lst ((TL.spl t 0 [] s).map PV.str)) h := if_pos hc
            rw [e] at o
            refine ⟨_, _, rfl, rfl, ?_, by rw [str_len, ← lim_eq]; exact hc.2.2, fun p hp => ?_⟩
            · rw [str_len]
              cases t with
              | nil => exact absurd rfl hc.1
              | cons _ _ => rfl
            · have e2 : Txt.split ⟨s.toArray⟩ ⟨t.toArray⟩ = (TL.spl t 0 [] s).map fun l => (⟨l.toArray⟩ : Str) := SX.split_S hc.1 hc.2.1
              rw [e2]
              exact o bs _ _ (Ext.fresh hp) (rp.fresh hp) (.lst upd_same (rp.free hp) (pur_strs _) (rvs_strs _))
          · have e : splM (.str s) [.str t] h = .bad := if_neg hc
            rw [e] at o; exact o.elim
        | _ => exact o.elim
  | _ => exact o.elim, fun bs h H x v rp rx hc => ty_str rp rx hc⟩
def joinM : PV → List PV → M PV := fun x ys h => match x, ys with
  | .str s, [y] => (match seqOf h y with
    | some xs => (match strsOf xs with
      | some ss => if (ss.map (·.length)).sum + ss.length * s.length ≤ 16777216 then .ok (.str (TL.joinL s ss)) h else .bad
      | none => .bad)
    | none => .bad)
  | _, _ => .bad
theorem m_join : MtS X "str" "join" chkS joinM := ⟨_, _, PySem.F.plainAttrs_str, PySem.F.slot_str_join, PySem.F.type_str_join, mt_join, fun W bs h H x v ys vs Q rp rx ry o => by
  cases rx with
  | str s =>
    cases ry with
    | nil => exact o.elim
    | @cons y w _ _ r rs2 =>
      cases rs2 with
      | cons _ _ => exact o.elim
      | nil =>
        cases e : seqOf h y with
        | none => simp only [joinM, e] at o; exact o.elim
        | some xs =>
          cases e2 : strsOf xs with
          | none => simp only [joinM, e, e2] at o; exact o.elim
          | some ss =>
            by_cases hc : (ss.map (·.length)).sum + ss.length * s.length ≤ 16777216
            · simp only [joinM, e, e2, hc, if_true] at o
              obtain ⟨a, ws, rfl, hs, rs⟩ := seqOf_ok rp r e
              have := strsOf_ok e2
              subst this
              have e3 := rv_strs rs
              subst e3
              refine ⟨_, a, _, rfl, rfl, hs, ?_, ?_⟩
              · rw [SX.lens, List.length_map, str_len]; exact hc
              · have e4 : Txt.join ⟨s.toArray⟩ (ss.map fun l => (⟨l.toArray⟩ : Str)) = ⟨(TL.joinL s ss).toArray⟩ := SX.join_S s ss
                rw [e4]
                exact o.here rp (.str _)
            · simp only [joinM, e, e2, hc, if_false] at o; exact o.elim
  | _ => exact o.elim, fun bs h H x v rp rx hc => ty_str rp rx hc⟩
end

/-! ### (a, *b, ..) -/
section
variable {X : Cx} {W : WX} {e : Expr} {es : List Expr} {m : ME PV} {ms : ME (List PV)} {p : Pos}
@[inline] def aStar (ma : ME PV) (mr : ME (List PV)) : ME (List PV) := fun env h => (ma env h).bind fun x h1 => match seqOf h1 x with
  | some ys => (mr env h1).bind fun xs h2 => .ok (ys ++ xs) h2
  | none => .bad
theorem am_star (ha : EM X W e m) (hr : AM X W es ms) (hs : starEach (.Starred e p :: es) X.env = (true, eval e X.env) :: starEach es X.env := by rfl) : AM X W (.Starred e p :: es) (aStar m ms) := PA.imp (StX.pa_star ha hr hs) fun σ H Q ⟨env, bs, h, er, rp, o⟩ => by
  refine ⟨env, bs, h, er, rp, Out.bind o ?_⟩
  rintro v H1 ⟨bs1, h1, x, e1, rp1, rx, o1⟩
  cases eq : seqOf h1 x with
  | none => simp only [eq] at o1; exact o1.elim
  | some ys =>
    simp only [eq] at o1
    obtain ⟨a, ws, rfl, hs, rs⟩ := seqOf_ok rp1 rx eq
    refine ⟨a, ws, rfl, hs.symm, env, bs1, h1, er.mono e1, rp1, Out.bind o1 ?_⟩
    rintro vs H2 ⟨bs2, h2, xs, e2, rp2, rxs, o2⟩
    exact o2.here rp2 ((rs.mono e2).append rxs)
end

/-! ### what is walked -/
section
variable {K : PySem.W.Frag} {mg : Str → Option Value} {bs : List Addr} {H : Hp}
theorem walkM_list {a : Addr} {vs : List V} {xs : List PV} (h : ∀ bs1 H1, Ext bs H bs1 H1 → SqL K H1 a vs) (rs : RVs K mg bs H xs vs) : WalkM K mg bs H xs (Itl K a) := by
  have w := walk_list (K := K) (a := a) (xs := vs)
  rw [← rs.length] at w
  refine ⟨_, _, w, h, fun i bs1 h1 H1 x H2 e1 rp1 hi y => ?_⟩
  obtain ⟨rfl, hx⟩ := y
  obtain ⟨it, hit, r⟩ := rs.get' hx
  exact ⟨Ext.refl _ _, rp1, it, hit, r.mono e1⟩
theorem walkM_tup {a : Addr} {vs : List V} {xs : List PV} (h : ∀ bs1 H1, Ext bs H bs1 H1 → SqT K H1 a vs) (rs : RVs K mg bs H xs vs) : WalkM K mg bs H xs (Itt K a) := by
  have w := walk_tup (K := K) (a := a) (xs := vs)
  rw [← rs.length] at w
  refine ⟨_, _, w, h, fun i bs1 h1 H1 x H2 e1 rp1 hi y => ?_⟩
  obtain ⟨rfl, hx⟩ := y
  obtain ⟨it, hit, r⟩ := rs.get' hx
  exact ⟨Ext.refl _ _, rp1, it, hit, r.mono e1⟩
def rngL (lo : Int) : Nat → List PV
  | 0 => []
  | n + 1 => .int lo :: rngL (lo + 1) n
theorem rngL_len (n : Nat) : ∀ lo, (rngL lo n).length = n := by
  induction n with
  | zero => intro _; rfl
  | succ n ih => intro lo; show (rngL (lo + 1) n).length + 1 = n + 1; rw [ih]
theorem rngL_get : ∀ (n : Nat) (lo : Int) (i : Nat), i < n → (rngL lo n)[i]? = some (.int (lo + i))
  | 0, _, _, h => absurd h (Nat.not_lt_zero _)
  | n + 1, lo, 0, _ => by simp [rngL]
  | n + 1, lo, i + 1, h => by
    show (rngL (lo + 1) n)[i]? = _
    rw [rngL_get n (lo + 1) i (by omega)]
    congr 2
    omega
theorem walkM_range {lo : Int} {n : Nat} : WalkM K mg bs H (rngL lo n) (Itr lo n) := by
  have w := walk_range (lo := lo) (n := n)
  rw [← rngL_len n lo] at w
  refine ⟨_, _, by simpa only [rngL_len] using w, fun _ _ _ => trivial, fun i bs1 h1 H1 x H2 e1 rp1 hi y => ?_⟩
  obtain ⟨rfl, hx⟩ := y
  rw [rngL_len] at hi
  exact ⟨Ext.refl _ _, rp1, _, rngL_get n lo i hi, by rw [hx]; exact .int _⟩
def rngC (lo c : Int) : Nat → List PV
  | 0 => []
  | n + 1 => .int lo :: rngC (lo + c) c n
theorem rngC_len (c : Int) (n : Nat) : ∀ lo, (rngC lo c n).length = n := by
  induction n with
  | zero => intro _; rfl
  | succ n ih => intro lo; show (rngC (lo + c) c n).length + 1 = n + 1; rw [ih]
theorem rngC_get (c : Int) : ∀ (n : Nat) (lo : Int) (i : Nat), i < n → (rngC lo c n)[i]? = some (.int (lo + i * c))
  | 0, _, _, h => absurd h (Nat.not_lt_zero _)
  | n + 1, lo, 0, _ => by simp [rngC]
  | n + 1, lo, i + 1, h => by
    show (rngC (lo + c) c n)[i]? = _
    rw [rngC_get c n (lo + c) i (by omega)]
    congr 2
    have : ((i + 1 : Nat) : Int) * c = (i : Int) * c + c := by
      rw [show ((i + 1 : Nat) : Int) = (i : Int) + 1 from by omega, Int.add_mul, Int.one_mul]
    rw [this]
    omega
theorem walkM_rangeC {lo c : Int} {n : Nat} : WalkM K mg bs H (rngC lo c n) (Itc lo c n) := by
  have w := walk_rangeC (lo := lo) (c := c) (n := n)
  refine ⟨_, _, by simpa only [rngC_len] using w, fun _ _ _ => trivial, fun i bs1 h1 H1 x H2 e1 rp1 hi y => ?_⟩
  obtain ⟨rfl, hx⟩ := y
  rw [rngC_len] at hi
  exact ⟨Ext.refl _ _, rp1, _, rngC_get c n lo i hi, by rw [hx]; exact .int _⟩
theorem walkM_str {s : List Nat} : WalkM K mg bs H (s.map fun c => PV.str [c]) (Its ⟨s.toArray⟩) := by
  have w := walk_str (z := (⟨s.toArray⟩ : Str))
  refine ⟨_, _, by simpa using w, fun _ _ _ => trivial, fun i bs1 h1 H1 x H2 e1 rp1 hi y => ?_⟩
  obtain ⟨rfl, c, hc, rfl⟩ := y
  have hc' : s[i]? = some c := by simpa using hc
  exact ⟨Ext.refl _ _, rp1, .str [c], by rw [List.getElem?_map, hc']; rfl, .str [c]⟩
end
section
variable {X : Cx} {W : WX} {tg e : Expr} {m : ME PV}
/-- anything that holds items and stands still, or a text -/
def itemsOf : PV → Option (List PV)
  | .tup xs => some xs
  | .wtp xs => some xs
  | .lst xs => some xs
  | .scr xs => some xs
  | .str s => some (s.map fun c => .str [c])
  | _ => none
@[inline] def iAny (m : ME PV) : ME (List PV) := fun env h => (m env h).bind fun x h1 => match itemsOf x with
  | some xs => .ok xs h1
  | none => .bad
def tIAny (K : PySem.W.Frag) (te : TE) : TI := fun σ H R => te σ H fun x H1 => (∃ a, x = .ref a ∧ (∃ xs, SqL K H1 a xs) ∧ R (Itl K a) H1) ∨ (∃ a, x = .ref a ∧ (∃ xs, SqT K H1 a xs) ∧ R (Itt K a) H1) ∨ (∃ z, x = .str z ∧ R (Its z) H1)
theorem pi_any {te : TE} (hl : PE X e te) : PI X tg e (tIAny X.K te) := by
  refine ⟨fun pins s σ H R I h => ?_⟩
  refine thn (hl.run pins s σ H _ I h) fun v s1 ⟨x, H1, I1, r1, q1⟩ => ?_
  rcases q1 with ⟨a, ex, ⟨xs, hq⟩, q⟩ | ⟨a, ex, ⟨xs, hq⟩, q⟩ | ⟨z, ex, q⟩
  · subst ex
    cases r1
    obtain ⟨its, rv, p, hz⟩ := I1.list hq
    refine wpAny_pyIter_list p.isList ?_
    refine ⟨s1.heap.objs.size, [s1.heap.objs.size], _, _, H1, rfl, I1.kept (t' := s1.toks) fun b o e => Heap.get?_push_of_some _ e, turn_list a _, ⟨_, Heap.get?_push_size _ rfl, rfl, rfl⟩, fun b hb => ?_, q⟩
    have e : b = s1.heap.objs.size := by simpa using hb
    subst e
    exact I1.fpOk (Nat.le_refl _) (I1.hok.fresh (Nat.le_refl _))
  · subst ex
    cases r1
    obtain ⟨its, rv, p, hz⟩ := I1.tuple hq
    refine wpAny_pyIter_tuple (show s1.heap.IsTuple a its.toArray from p) ?_
    refine ⟨s1.heap.objs.size, [s1.heap.objs.size], _, _, H1, rfl, I1.kept (t' := s1.toks) fun b o e => Heap.get?_push_of_some _ e, turn_tuple a _, ⟨_, Heap.get?_push_size _ rfl, rfl, rfl⟩, fun b hb => ?_, q⟩
    have e : b = s1.heap.objs.size := by simpa using hb
    subst e
    exact I1.fpOk (Nat.le_refl _) (I1.hok.fresh (Nat.le_refl _))
  · subst ex
    obtain ⟨t, rfl⟩ := r1
    cases ha : z.cps.all (· < 128)
    · exact wpAny_pyIter_wide ha (pi_one (tk := s1.toks) I1 _ (turn_str _ z t "str_iterator" (.inr rfl)) ⟨_, Heap.get?_push_size _ rfl, rfl, rfl⟩ q)
    · exact wpAny_pyIter_ascii ha (pi_one (tk := s1.toks) I1 _ (turn_str _ z t "str_ascii_iterator" (.inl rfl)) ⟨_, Heap.get?_push_size _ rfl, rfl, rfl⟩ q)
theorem im_any (he : EM X W e m) : IM X W tg e (iAny m) := PI.imp (pi_any he) fun σ H Q ⟨env, bs, h, er, rp, o⟩ => by
  refine ⟨env, bs, h, er, rp, Out.bind o ?_⟩
  rintro v H1 ⟨bs1, h1, x, e1, rp1, rx, o1⟩
  cases rx with
  | @tup xs a vs t rs => exact .inr (.inl ⟨a, rfl, ⟨vs, t.sq⟩, o1.here rp1 (walkM_tup (fun _ _ e => (e.tup t).sq) rs)⟩)
  | @wtp xs a vs t hn rs => exact .inr (.inl ⟨a, rfl, ⟨vs, SqT.of t⟩, o1.here rp1 (walkM_tup (fun _ _ e => SqT.of (e.keep _ _ t hn)) rs)⟩)
  | @lst xs a vs q hn hp rs => exact .inl ⟨a, rfl, ⟨vs, SqL.of q⟩, o1.here rp1 (walkM_list (fun _ _ e => SqL.of (e.keep _ _ q hn)) rs)⟩
  | @scr xs a ob vs q hn hp rs => exact .inl ⟨a, rfl, ⟨vs, .inl (.inr ⟨_, q⟩)⟩, o1.here rp1 (walkM_list (fun _ _ e => .inl (.inr ⟨_, e.keep _ _ q hn⟩)) rs)⟩
  | str s => exact .inr (.inr ⟨_, rfl, o1.here rp1 walkM_str⟩)
  | _ => exact o1.elim
def rB (i : Int) : Bool := decide (-4611686018427387904 ≤ i) && decide (i < 4611686018427387904)
theorem rB_ok {i : Int} (h : rB i = true) : -(2 ^ 62) ≤ i ∧ i < 2 ^ 62 := by
  unfold rB at h
  rw [Bool.and_eq_true] at h
  have h1 := of_decide_eq_true h.1
  have h2 := of_decide_eq_true h.2
  have : (2 : Int) ^ 62 = 4611686018427387904 := by decide
  omega
def rng1M : List PV → M (List PV) := fun xs h => match xs with
  | [.int j] => (match rB j with
    | true => .ok (rngL 0 j.toNat) h
    | false => .bad)
  | _ => .bad
def rng2M : List PV → M (List PV) := fun xs h => match xs with
  | [.int i, .int j] => (match rB i && rB j with
    | true => .ok (rngL i (j - i).toNat) h
    | false => .bad)
  | _ => .bad
/-- range(i, j, 2) -/
def rng3M : List PV → M (List PV) := fun xs h => match xs with
  | [.int i, .int j, .int 2] => (match rB i && rB j with
    | true => .ok (rngC i 2 ((j - i + 1) / 2).toNat) h
    | false => .bad)
  | _ => .bad
@[inline] def iApp (ms : ME (List PV)) (f : List PV → M (List PV)) : ME (List PV) := fun env h => (ms env h).bind f
theorem im_range1 {a : Expr} {ms : ME (List PV)} {p pos : Pos} (hg : Gl X "range") (hm : X.mg "range" = none) (ha : AM X W [a] ms) (hs : starEach [a] X.env = [(false, eval a X.env)] := by rfl) : IM X W tg (.Call (.Name "range" p) [a] [] pos) (iApp ms rng1M) :=
  PI.imp (pi_range1 hg hm ha hs) fun σ H Q ⟨env, bs, h, er, rp, o⟩ => by
    refine ⟨env, bs, h, er, rp, ?_⟩
    have o : Out X.K X.mg _ _ bs H ((ms env h).bind rng1M) Q := o
    refine Out.bind o ?_
    rintro vs H1 ⟨bs1, h1, xs, e1, rp1, rx, o1⟩
    cases rx with
    | nil => exact o1.elim
    | cons r rs =>
      cases rs with
      | nil =>
        cases r with
        | int j =>
          cases hb : rB j with
          | false => simp only [rng1M, hb] at o1; exact o1.elim
          | true =>
            simp only [rng1M, hb] at o1
            obtain ⟨h1, h2⟩ := rB_ok hb
            exact ⟨j, rfl, h1, h2, o1.here rp1 walkM_range⟩
        | _ => exact o1.elim
      | cons r2 rs2 => cases r <;> exact o1.elim
theorem im_range2 {a b : Expr} {ms : ME (List PV)} {p pos : Pos} (hg : Gl X "range") (hm : X.mg "range" = none) (ha : AM X W [a, b] ms) (hs : starEach [a, b] X.env = [(false, eval a X.env), (false, eval b X.env)] := by rfl) (hs2 : starEach [b] X.env = [(false, eval b X.env)] := by rfl) :
    IM X W tg (.Call (.Name "range" p) [a, b] [] pos) (iApp ms rng2M) :=
  PI.imp (pi_range2 hg hm ha hs hs2) fun σ H Q ⟨env, bs, h, er, rp, o⟩ => by
    refine ⟨env, bs, h, er, rp, ?_⟩
    have o : Out X.K X.mg _ _ bs H ((ms env h).bind rng2M) Q := o
    refine Out.bind o ?_
    rintro vs H1 ⟨bs1, h1, xs, e1, rp1, rx, o1⟩
    cases rx with
    | nil => exact o1.elim
    | cons r rs =>
      cases rs with
      | nil => cases r <;> exact o1.elim
      | cons r2 rs2 =>
        cases rs2 with
        | cons _ _ => cases r <;> first | exact o1.elim | (cases r2 <;> exact o1.elim)
        | nil =>
          cases r with
          | int i =>
            cases r2 with
            | int j =>
              cases hb : (rB i && rB j) with
              | false => simp only [rng2M, hb] at o1; exact o1.elim
              | true =>
                simp only [rng2M, hb] at o1
                obtain ⟨b1, b2⟩ := Bool.and_eq_true_iff.mp hb
                obtain ⟨h1, h2⟩ := rB_ok b1
                obtain ⟨h3, h4⟩ := rB_ok b2
                exact ⟨i, j, rfl, ⟨h1, h2, h3, h4⟩, o1.here rp1 walkM_range⟩
            | _ => exact o1.elim
          | _ => exact o1.elim
end
end Sm

namespace Sm
open PySem PySem.Spec PyProof.Rows L2

/-! ### isinstance(x, T), T a built-in type -/
def tyTag (h : HP) : PV → Option Nat
  | .non => some 0
  | .bl _ => some 1
  | .int _ => some 2
  | .str _ => some 3
  | .tup _ => some 4
  | .wtp _ => some 4
  | .lst _ => some 5
  | .scr _ => some 5
  | .dct _ _ => some 6
  | .ins _ _ => none
  | .ref n => (match h[n]? with
    | some (.lst _) => some 5
    | some (.dct _ _) => some 6
    | _ => none)
def tyName : Nat → String
  | 0 => "NoneType"
  | 1 => "bool"
  | 2 => "int"
  | 3 => "str"
  | 4 => "tuple"
  | 5 => "list"
  | _ => "dict"
def tySub (a b : Nat) : Bool := a == b || (a == 1 && b == 2)
theorem tyx_of {K : PySem.W.Frag} {mg : Str → Option Value} {bs : List Addr} {H : Hp} {h : HP} {x : PV} {v : V} (rp : Rep K mg bs h H) (r : RV K mg bs H x v) {n : Nat} (e : tyTag h x = some n) : TyX K H v (.type (tyName n)) := by
  cases r with
  | non => cases e; exact .base .non
  | bl b => cases e; exact .base (.bl b)
  | int i => cases e; exact .base (.int i)
  | str s => cases e; exact .base (.str _)
  | tup t rs =>
    cases e
    rcases t with ⟨⟨o, t, _⟩, _⟩ | ⟨o, its, n, h1, h2, _⟩
    · exact .fTuple t
    · exact .kTuple h1 h2
  | wtp t hn rs => cases e; exact .base (.tup t)
  | lst q hn hp rs => cases e; exact .base (.lst q)
  | scr q hn hp rs => cases e; exact .base (.frz q)
  | ins m q l hn hp rs => cases e
  | dK q hn k hp rs => cases e; exact .base (.dK q)
  | dT q hn k hp rs => cases e; exact .base (.dT q)
  | @ref m a q =>
    have e : (match h[m]? with
      | some (.lst _) => some 5
      | some (.dct _ _) => some 6
      | _ => none) = some n := e
    cases eh : h[m]? with
    | none => rw [eh] at e; cases e
    | some ob =>
      rw [eh] at e
      have ro := ref_at rp q eh
      cases ob with
      | lst xs => cases e; obtain ⟨_, vs, q2, _⟩ := ro; exact .base (.lst q2)
      | dct ks xs =>
        cases e
        obtain ⟨_, ro⟩ := ro
        rcases ro with ⟨kvs, q2, _⟩ | ⟨kvs, q2, _⟩
        · exact .base (.dK q2)
        · exact .base (.dT q2)
      | _ => cases e
theorem kit_tag {K : PySem.W.Frag} : ∀ a b : Nat, a < 7 → b < 7 → PySem.W.kitOne K (.type (tyName a)) (.type (tyName b)) = some (tySub a b) := by
  intro a b ha hb
  have h : ∀ a : _root_.Fin 7, ∀ b : _root_.Fin 7, kitB (tyName a.1) (tyName b.1) = some (tySub a.1 b.1) := by decide +kernel
  exact kit_ty (h ⟨a, ha⟩ ⟨b, hb⟩)
theorem tag_lt {h : HP} {x : PV} {n : Nat} (e : tyTag h x = some n) : n < 7 := by
  cases x <;> simp only [tyTag] at e <;> first
    | (cases e; decide)
    | (split at e <;> cases e <;> decide)
    | cases e
@[inline] def isi (b : Nat) (m : ME PV) : ME PV := fun env h => (m env h).bind fun x h1 => match tyTag h1 x with
  | some a => .ok (.bl (tySub a b)) h1
  | none => .bad
section
variable {X : Cx} {W : WX}
theorem em_isi (b : Nat) {e : Expr} {m : ME PV} {T : Str} {p q pos : Pos} (hb : b < 7) (hg : Gl X "isinstance") (hm : X.mg "isinstance" = none) (hgT : Gl X T) (hmT : X.mg T = none) (hvT : bootBuiltins T = some (.type (tyName b))) (he : EM X W e m)
    (hn : T ≠ "__name__" := by decide) (hd : (T == ("__debug__" : Str)) = false := by decide)
    (hpl : (backTo pos (starEach [.Name T q] X.env)).any (·.1) = false := by rfl)
    (hs1 : starEach [e, .Name T q] X.env = (false, eval e X.env) :: starEach [.Name T q] X.env := by rfl) (hs2 : starEach [.Name T q] X.env = (false, eval (.Name T q) X.env) :: starEach [] X.env := by rfl) :
    EM X W (.Call (.Name "isinstance" p) [e, .Name T q] [] pos) (isi b m) :=
  PE.imp (pe_callB call_isi hg hm (by decide +kernel) (pa_cons he (pa_cons (pe_bltn (v := .ty (tyName b)) hgT hmT hvT rfl hn hd) pa_nil hs2) hs1) (by decide) (by decide) hs1 hpl) fun σ H Q ⟨env, bs, h, er, rp, o⟩ => by
    refine ⟨env, bs, h, er, rp, Out.bind o ?_⟩
    rintro v H1 ⟨bs1, h1, x, e1, rp1, rx, o1⟩
    cases et : tyTag h1 x with
    | none => simp only [et] at o1; exact o1.elim
    | some a =>
      simp only [et] at o1
      exact ⟨v, .ty (tyName b), _, _, _, rfl, .ty _, tyx_of rp1 rx et, kit_tag a b (tag_lt et) hb, o1.here rp1 (.bl _)⟩
/-- isinstance(x, (T, U)) -/
@[inline] def isi2 (b c : Nat) (m : ME PV) : ME PV := fun env h => (m env h).bind fun x h1 => match tyTag h1 x with
  | some a => .ok (.bl (tySub a b || tySub a c)) h1
  | none => .bad
theorem em_isi2 (b c : Nat) {e : Expr} {m : ME PV} {T U : Str} {k : Nat} {p q q2 pt pos : Pos} (hb : b < 7) (hc : c < 7) (hg : Gl X "isinstance") (hm : X.mg "isinstance" = none) (hgT : Gl X T) (hmT : X.mg T = none) (hvT : bootBuiltins T = some (.type (tyName b)))
    (hgU : Gl X U) (hmU : X.mg U = none) (hvU : bootBuiltins U = some (.type (tyName c))) (he : EM X W e m)
    (hn : T ≠ "__name__" := by decide) (hd : (T == ("__debug__" : Str)) = false := by decide) (hnU : U ≠ "__name__" := by decide) (hdU : (U == ("__debug__" : Str)) = false := by decide)
    (hpl : (backTo pos (starEach [.Tuple [.Name T q, .Name U q2] k pt] X.env)).any (·.1) = false := by rfl)
    (hs1 : starEach [e, .Tuple [.Name T q, .Name U q2] k pt] X.env = (false, eval e X.env) :: starEach [.Tuple [.Name T q, .Name U q2] k pt] X.env := by rfl) (hs2 : starEach [.Tuple [.Name T q, .Name U q2] k pt] X.env = (false, eval (.Tuple [.Name T q, .Name U q2] k pt) X.env) :: starEach [] X.env := by rfl)
    (hs3 : starEach [.Name T q, .Name U q2] X.env = (false, eval (.Name T q) X.env) :: starEach [.Name U q2] X.env := by rfl) (hs4 : starEach [.Name U q2] X.env = (false, eval (.Name U q2) X.env) :: starEach [] X.env := by rfl) :
    EM X W (.Call (.Name "isinstance" p) [e, .Tuple [.Name T q, .Name U q2] k pt] [] pos) (isi2 b c m) :=
  PE.imp (pe_callB call_isiT hg hm (by decide +kernel) (pa_cons he (pa_cons (pe_tup (pa_cons (pe_bltn (v := .ty (tyName b)) hgT hmT hvT rfl hn hd) (pa_cons (pe_bltn (v := .ty (tyName c)) hgU hmU hvU rfl hnU hdU) pa_nil hs4) hs3)) pa_nil hs2) hs1) (by decide) (by decide) hs1 hpl) fun σ H Q ⟨env, bs, h, er, rp, o⟩ => by
    refine ⟨env, bs, h, er, rp, Out.bind o ?_⟩
    rintro v H1 ⟨bs1, h1, x, e1, rp1, rx, o1⟩
    refine ⟨by show 2 ≤ sizeLine; decide, fun p hp => ?_⟩
    cases et : tyTag h1 x with
    | none => simp only [et] at o1; exact o1.elim
    | some a =>
      simp only [et] at o1
      have o2 := o1 bs1 (upd H1 p (.tup [.ty (tyName b), .ty (tyName c)])) (.bl (tySub a b || tySub a c)) (Ext.fresh hp) (rp1.fresh hp) (.bl _)
      refine ⟨v, p, _, _, [.type (tyName b), .type (tyName c)], _, rfl, upd_same, .cons (.ty _) (.cons (.ty _) .nil), tyx_of (rp1.fresh hp) (rx.mono (Ext.fresh hp)) et, ?_, o2⟩
      have k1 := kit_tag (K := X.K) a b (tag_lt et) hb
      have k2 := kit_tag (K := X.K) a c (tag_lt et) hc
      refine kitAny_cons k1 (fun q => ?_) fun q => by rw [q]; rfl
      refine kitAny_cons k2 (fun q2 => ?_) fun q2 => by rw [q2, Bool.or_true]
      rw [q, q2]
      exact kitAny_nil

/-! ### fields of the text's own instances -/
theorem zip_look {V' : Type} {f : Str} : ∀ {ns : List Str} {vs : List V'} {i : Nat} {v : V'}, ns.Nodup → ns[i]? = some f → vs[i]? = some v → (ns.zip vs).lookup f = some v
  | [], _, _, _, _, h, _ => by simp at h
  | _ :: _, [], _, _, _, _, h => by simp at h
  | n :: ns, w :: vs, 0, v, _, h1, h2 => by
    simp at h1 h2
    subst h1 h2
    simp [List.zip, List.lookup]
  | n :: ns, w :: vs, i + 1, v, nd, h1, h2 => by
    have nd' := List.nodup_cons.mp nd
    have hf : f ∈ ns := List.mem_of_getElem? (by simpa using h1)
    have ne : (f == n) = false := beq_eq_false_iff_ne.mpr fun e => nd'.1 (by rw [← e]; exact hf)
    have ih := zip_look (ns := ns) (vs := vs) (i := i) (v := v) nd'.2 (by simpa using h1) (by simpa using h2)
    show List.lookup f ((n, w) :: ns.zip vs) = some v
    simp only [List.lookup, ne]
    exact ih
theorem zip_none {V' : Type} {f : Str} : ∀ {ns : List Str} {vs : List V'}, f ∉ ns → (ns.zip vs).lookup f = none
  | [], _, _ => by simp
  | _ :: _, [], _ => by simp
  | n :: ns, w :: vs, h => by
    have ne : (f == n) = false := beq_eq_false_iff_ne.mpr fun e => h (by rw [e]; exact List.mem_cons_self)
    show List.lookup f ((n, w) :: ns.zip vs) = none
    simp only [List.lookup, ne]
    exact zip_none fun q => h (List.mem_cons_of_mem _ q)
def insAt (h : HP) : PV → Option (Nat × List PV)
  | .ins c xs => some (c, xs)
  | .ref n => (match h[n]? with
    | some (.ins c xs) => some (c, xs)
    | _ => none)
  | _ => none
theorem insAt_ok {K : PySem.W.Frag} {mg : Str → Option Value} {bs : List Addr} {H : Hp} {h : HP} {x : PV} {v : V} (rp : Rep K mg bs h H) (r : RV K mg bs H x v) {c : Nat} {xs : List PV} (e : insAt h x = some (c, xs)) :
    ∃ a C dx vs, v = .ref a ∧ mg (cname c) = some (.ref C) ∧ H a = some (.ins C dx ((fnames c).zip vs)) ∧ vs.length ≤ (fnames c).length ∧ RVs K mg bs H xs vs := by
  cases r with
  | ins m q l hn hp rs => cases e; exact ⟨_, _, _, _, rfl, m, q, l, rs⟩
  | @ref n a q =>
    have e : (match h[n]? with
      | some (.ins c xs) => some (c, xs)
      | _ => none) = some (c, xs) := e
    cases eh : h[n]? with
    | none => rw [eh] at e; cases e
    | some ob =>
      rw [eh] at e
      have ro := ref_at rp q eh
      cases ob with
      | ins c' xs' => cases e; obtain ⟨_, C, dx, vs, m, q2, l, rs⟩ := ro; exact ⟨_, _, _, _, rfl, m, q2, l, rs⟩
      | _ => cases e
  | _ => cases e
@[inline] def fld (c i : Nat) (m : ME PV) : ME PV := fun env h => (m env h).bind fun x h1 => match insAt h1 x with
  | some (d, xs) => if d = c then (match xs[i]? with
    | some v => .ok v h1
    | none => .bad) else .bad
  | none => .bad
theorem em_fld (c i : Nat) {e : Expr} {m : ME PV} {f : Str} {pos : Pos} (hf : (fnames c)[i]? = some f) (nd : (fnames c).Nodup) (hC : ∀ C, X.mg (cname c) = some (.ref C) → Cls X.K C ∧ NoAttr X.K C f) (he : EM X W e m)
    (hb : attributeBase e f X.env (eval e X.env) = eval e X.env := by rfl) : EM X W (.Attribute e f pos) (fld c i m) := PE.imp (pe_fld he hb) fun σ H Q ⟨env, bs, h, er, rp, o⟩ => by
  refine ⟨env, bs, h, er, rp, Out.bind o ?_⟩
  rintro v H1 ⟨bs1, h1, x, e1, rp1, rx, o1⟩
  cases ei : insAt h1 x with
  | none => simp only [ei] at o1; exact o1.elim
  | some dx =>
    obtain ⟨d, xs⟩ := dx
    simp only [ei] at o1
    obtain ⟨a, C, dx, vs, rfl, mC, ha, hl, rs⟩ := insAt_ok rp1 rx ei
    by_cases hd : d = c
    · subst hd
      simp only [if_true] at o1
      cases ex : xs[i]? with
      | none => simp only [ex] at o1; exact o1.elim
      | some y =>
        simp only [ex] at o1
        obtain ⟨w, hw, rw'⟩ := rs.get ex
        obtain ⟨c1, c2⟩ := hC C mC
        exact ⟨a, C, dx, _, w, rfl, ha, c1, c2, zip_look nd hf hw, o1.here rp1 rw'⟩
    · simp only [hd, if_false] at o1; exact o1.elim
theorem putF_set {f : Str} {y : V} : ∀ {ns : List Str} {vs : List V} {i : Nat}, ns.Nodup → ns[i]? = some f → i ≤ vs.length → vs.length ≤ ns.length → putF f y (ns.zip vs) = ns.zip (if i < vs.length then vs.set i y else vs ++ [y])
  | [], vs, i, _, h, _, _ => by simp at h
  | n :: ns, [], i, nd, h1, h2, h3 => by
    have : i = 0 := by simpa using h2
    subst this
    have : n = f := by simpa using h1
    subst this
    simp [putF]
  | n :: ns, w :: vs, 0, nd, h1, h2, h3 => by
    have : n = f := by simpa using h1
    subst this
    show (if n = n then (n, y) :: ns.zip vs else _) = _
    rw [if_pos rfl]
    simp
  | n :: ns, w :: vs, i + 1, nd, h1, h2, h3 => by
    have nd' := List.nodup_cons.mp nd
    have hf : f ∈ ns := List.mem_of_getElem? (by simpa using h1)
    have ne : ¬ n = f := fun e => nd'.1 (by rw [e]; exact hf)
    have ih := putF_set (y := y) (ns := ns) (vs := vs) (i := i) nd'.2 (by simpa using h1) (by simpa using h2) (by simpa using h3)
    show (if n = f then (n, y) :: ns.zip vs else (n, w) :: putF f y (ns.zip vs)) = _
    rw [if_neg ne, ih]
    by_cases hi : i < vs.length
    · rw [if_pos hi, if_pos (by simpa using hi)]; rfl
    · rw [if_neg hi, if_neg (by simpa using hi)]; rfl
def putL (xs : List PV) (i : Nat) (y : PV) : List PV := if i < xs.length then xs.set i y else xs ++ [y]
@[inline] def fldS (c i : Nat) (mo mv : ME PV) : MS := fun env h => (mv env h).toS env fun y h1 => (mo env h1).toS env fun x h2 => match x with
  | .ref n => (match h2[n]? with
    | some (.ins d xs) => if d = c ∧ i ≤ xs.length ∧ xs.length ≤ (fnames c).length ∧ pur y = true then .nx env (h2.set n (.ins c (putL xs i y))) else .bad
    | _ => .bad)
  | _ => .bad
theorem fn_small (c : Nat) : (fnames c).length < 1000 := by
  match c with
  | 0 => decide
  | c + 1 => show (5 : Nat) < 1000; decide
theorem sm_fld (c i : Nat) {o e : Expr} {mo mv : ME PV} {f : Str} {pos pos' : Pos} (hf : (fnames c)[i]? = some f) (nd : (fnames c).Nodup) (hC : ∀ C, X.mg (cname c) = some (.ref C) → Cls X.K C ∧ NoAttr X.K C f) (ho : EM X W o mo) (hv : EM X W e mv)
    (hs : swapsWith e (some (.Attribute o f pos')) pos.line X.env = Pure.pure false := by rfl) : SM X W (.Assign [.Attribute o f pos'] e pos) (fldS c i mo mv) := PS.imp (ps_fld ho hv hs) fun D σ H ⟨env, bs, h, er, rp, o⟩ => by
  refine ⟨env, bs, h, er, rp, OutS.bind o er ?_⟩
  rintro v H1 ⟨bs1, h1, y, e1, rp1, ry, o1⟩
  have er1 := er.mono e1
  refine ⟨env, bs1, h1, er1, rp1, OutS.bind o1 er1 ?_⟩
  rintro w H2 ⟨bs2, h2, x, e2, rp2, rx, o2⟩
  cases rx with
  | @ref n a q =>
    cases eh : h2[n]? with
    | none => simp only [eh] at o2; exact o2.elim
    | some ob =>
      cases ob with
      | ins d xs =>
        simp only [eh] at o2
        obtain ⟨pp, C, dx, vs, mC, ha, hl, rs⟩ := ref_at rp2 q eh
        by_cases hc : d = c ∧ i ≤ xs.length ∧ xs.length ≤ (fnames c).length ∧ pur y = true
        · rw [if_pos hc] at o2
          obtain ⟨hd, hi, hl2, hp⟩ := hc
          subst hd
          obtain ⟨c1, c2⟩ := hC C mC
          have hsm := fn_small d
          refine ⟨a, C, dx, _, rfl, ha, c1, c2, by rw [List.length_zip]; omega, ?_⟩
          have hm : a ∈ bs2 := List.mem_of_getElem? q
          rw [putF_set (y := v) nd hf (by rw [← rs.length]; exact hi) hl]
          have ew : Ext bs2 H2 bs2 (upd H2 a (.ins C dx ((fnames d).zip (if i < vs.length then vs.set i v else vs ++ [v])))) := Ext.write hm
          have hlt : i < (fnames d).length := (List.getElem?_eq_some_iff.mp hf).1
          have rp3 := rp2.set (x := .ins d (putL xs i y)) q (o := .ins C dx ((fnames d).zip (if i < vs.length then vs.set i v else vs ++ [v]))) (by
            refine ⟨?_, C, dx, _, mC, upd_same, ?_, ?_⟩
            · unfold putL
              split
              · exact purL_set pp i hp
              · rw [purL_append, pp]; simp [purL, hp]
            · split
              · simpa using hl
              · have : i = vs.length := by rw [← rs.length]; rw [← rs.length] at *; omega
                simp; omega
            · unfold putL
              rw [rs.length]
              split
              · exact (rs.mono (Ext.write hm)).set i ((ry.mono e2).mono (Ext.write hm))
              · exact (rs.mono (Ext.write hm)).append (.cons ((ry.mono e2).mono (Ext.write hm)) .nil))
          exact o2 bs2 _ σ ew rp3 ((er1.mono e2).mono ew)
        · rw [if_neg hc] at o2; exact o2.elim
      | _ => simp only [eh] at o2; exact o2.elim
  | _ => exact o2.elim
end
end Sm

namespace Sm
open PySem PySem.Spec PyProof.Rows L2

/-! ### C(..): a new instance -/
/-- the class c, called with n - 1 - dv.length values: __init__ does mf -/
def Mkr (P : Program) (w : World) (K : PySem.W.Frag) (mg : Str → Option Value) (base : Heap) (c n k : Nat) (dv : List PV) (mf : List PV → M PV) : Prop :=
  ∃ (C f : Addr) (fd : FuncData) (ps : List Str) (dvs : List V) (ds : List Value), mg (cname c) = some (.ref C) ∧ Mk K C f ∧ ps.length = n ∧ Vals dvs ds ∧ (∀ bs H, RVs K mg bs H dv dvs) ∧ Binds K fd ps ds ∧ FnOk P w K mg base (L2.CX P w) k f fd ps (spM K mg n mf)
def makeM (c : Nat) (mf : List PV → M PV) (dv : List PV) : List PV → M PV := fun xs h => match mf (.ref h.length :: (xs ++ dv)) (h ++ [.ins c []]) with
  | .ok .non h2 => .ok (h2.getD h.length .non) (h2.take h.length)
  | .ex e f h2 => .ex e f (h2.take h.length)
  | _ => .bad
def makeN (c : Nat) (mf : List PV → M PV) (dv : List PV) : List PV → M PV := fun xs h => match mf (.ref h.length :: (xs ++ dv)) (h ++ [.ins c []]) with
  | .ok .non h2 => .ok (.ref h.length) h2
  | .ex e f h2 => .ex e f (h2.take h.length)
  | _ => .bad
section
variable {X : Cx} {W : WX} {x : Str} {n k j c : Nat} {mf : List PV → M PV} {e : Expr} {es : List Expr} {ms : ME (List PV)} {p pos : Pos} {dv : List PV}
theorem run_makeS {CX : CXT} {C f : Addr} {fd : FuncData} {ps : List Str} {sp : Sp} {dvs : List V} {ds : List Value} {E : L2.St → XK} {pins : List (Addr × Obj)} {σ : L2.St} {H : Hp} {s : Shared} {Q : VK} {us : List Value} {vs : List V} (M : Mk X.K C f) (F : FnOk X.prog X.w X.K X.mg X.base CX k f fd ps sp) (hr : Room (k + 1) X.A) (hb : Binds X.K fd ps ds) (hd : Vals dvs ds)
    (hx : PassesAt CX X σ (E σ)) (I : Inv X pins σ H s) (r : Vals vs us)
    (h : ∀ x dx, H x = none → H dx = none → dx ≠ x → sp (.ref x :: (vs ++ dvs)) (upd (upd H dx (.own x)) x (.ins C dx [])) (fun v H2 => v = .non ∧ Q (.ref x) H2) (E σ)) :
    wpAny (model X.prog X.w) X.A (call (.ref C) us) (EP X pins σ Q) X.xe s := by
  have hq := h (s.heap.objs.size + 1) s.heap.objs.size (I.hok.fresh (Nat.le_succ _)) (I.hok.fresh (Nat.le_refl _)) (Nat.ne_of_lt (Nat.lt_succ_self _))
  have I2 := Inv.made (C := C) I
  have r2 : Vals (V.ref (s.heap.objs.size + 1) :: (vs ++ dvs)) (Value.ref (s.heap.objs.size + 1) :: (us ++ ds)) := .cons rfl (r.append hd)
  have hl : (Value.ref (s.heap.objs.size + 1) :: us ++ ds).length = ps.length := by
    have e := r2.length
    rw [F.len _ _ _ _ hq] at e
    exact e.symm
  refine wpAny_call (make_map (f := f) I.kIn M.makes M.init (beq_iff_eq.mp M.fn) (codeAny_mono (F.run _ X.stack _ _ ⟨Value.ref (s.heap.objs.size + 1) :: us, []⟩ (Value.ref (s.heap.objs.size + 1) :: (us ++ ds)) _ _ (E σ) (hr.make C us [])
    (I2.env0.make C us []) (hb _ (Value.ref (s.heap.objs.size + 1) :: us) I2.kIn hl) r2 hq) fun r s' hq' => ?_))
  cases r with
  | error e => exact hx pins _ _ e s' I2 hq'
  | ok fl =>
    cases fl with
    | ret u =>
      obtain ⟨v, H', I3, rv, ev, q3⟩ := I2.after hq'
      subst ev
      exact ⟨rv, ⟨V.ref (s.heap.objs.size + 1), H', I3, rfl, q3⟩⟩
    | next => exact False.elim hq'
    | brk => exact False.elim hq'
    | cont => exact False.elim hq'
theorem sim_make {C : Addr} {dvs : List V} {E : XK} {bs : List Addr} {h : HP} {H : Hp} {xs : List PV} {vs : List V} {Q : VK} {fin : HP → R PV} (mC : X.mg (cname c) = some (.ref C)) (hdv : ∀ bs H, RVs X.K X.mg bs H dv dvs) (hl : xs.length + 1 + dv.length = n)
    (rp : Rep X.K X.mg bs h H) (rx : RVs X.K X.mg bs H xs vs)
    (hfin : ∀ h2 a H' bs', H a = none → Ext bs H bs' H' → bs ++ [a] <+: bs' → Rep X.K X.mg bs' h2 H' → Out X.K X.mg (RV X.K X.mg) E bs H (fin h2) Q → Q (.ref a) H')
    (o : Out X.K X.mg (RV X.K X.mg) E bs H (match mf (.ref h.length :: (xs ++ dv)) (h ++ [.ins c []]) with
      | .ok .non h2 => fin h2
      | .ex e f h2 => .ex e f (h2.take h.length)
      | _ => .bad) Q) :
    ∀ x dx, H x = none → H dx = none → dx ≠ x → spM X.K X.mg n mf (.ref x :: (vs ++ dvs)) (upd (upd H dx (.own x)) x (.ins C dx [])) (fun v H2 => v = .non ∧ Q (.ref x) H2) E := by
  intro x dx hx hdx hne
  have hx' : upd H dx (.own x) x = none := by rw [upd_ne (Ne.symm hne)]; exact hx
  have e1 : Ext bs H bs (upd H dx (.own x)) := Ext.fresh hdx
  have rp1 := rp.fresh (o := .own x) hdx
  have e2 : Ext bs (upd H dx (.own x)) (bs ++ [x]) (upd (upd H dx (.own x)) x (.ins C dx [])) := Ext.push hx'
  have rp2 := rp1.push (o := .ins C dx []) (x := .ins c []) hx' ⟨rfl, C, dx, [], mC, by rw [upd_same]; simp, by simp, .nil⟩
  have e12 := e1.trans e2
  have lx := rx.length
  have ld := (hdv bs H).length
  refine ⟨by simp; omega, bs ++ [x], h ++ [.ins c []], .ref h.length :: (xs ++ dv), rp2, .cons (.ref (by rw [← rp.len]; simp)) ((rx.mono e12).append (hdv _ _)), ?_⟩
  cases q : mf (.ref h.length :: (xs ++ dv)) (h ++ [.ins c []]) with
  | bad => rw [q] at o; exact o.elim
  | ex e f h2 =>
    rw [q] at o
    exact fun bs' H' cls d e3 rp3 x3 => o bs H' cls d ((e12.trans e3).cut) (rp3.cut ((List.prefix_append _ _).trans e3.pre) rp.len.symm) (x3.less fun a z => e3.pre.subset (List.mem_append_left _ z))
  | ok v h2 =>
    rw [q] at o
    cases v with
    | non =>
      intro bs' H' w e3 rp3 rw3
      cases rw3
      exact ⟨rfl, hfin h2 x H' bs' hx (e12.trans e3) e3.pre rp3 o⟩
    | _ => exact o.elim
theorem fin_makeM {E : XK} {bs : List Addr} {h : HP} {H : Hp} {Q : VK} (rp : Rep X.K X.mg bs h H) (h2 : HP) (a : Addr) (H' : Hp) (bs' : List Addr) (ha : H a = none) (e : Ext bs H bs' H') (pr : bs ++ [a] <+: bs') (rp' : Rep X.K X.mg bs' h2 H')
    (o : Out X.K X.mg (RV X.K X.mg) E bs H (R.ok (h2.getD h.length .non) (h2.take h.length)) Q) : Q (.ref a) H' := by
  have hl : h.length = bs.length := rp.len.symm
  have hat : bs'[h.length]? = some a := by
    obtain ⟨t, rfl⟩ := pr
    rw [hl, List.getElem?_append_left (by simp)]
    simp
  have hlt : h.length < h2.length := by rw [← rp'.len]; exact (List.getElem?_eq_some_iff.mp hat).1
  have ro := ref_at rp' hat (o := h2[h.length]) (by simp [hlt])
  have eg : h2.getD h.length .non = h2[h.length] := by simp [List.getD, hlt]
  rw [eg] at o
  exact o bs H' _ e.cut (rp'.cut e.pre hl) (ro.value (fun b hb => e.pre.subset hb) (rp.free ha))
theorem fin_makeN {E : XK} {bs : List Addr} {h : HP} {H : Hp} {Q : VK} (rp : Rep X.K X.mg bs h H) (h2 : HP) (a : Addr) (H' : Hp) (bs' : List Addr) (ha : H a = none) (e : Ext bs H bs' H') (pr : bs ++ [a] <+: bs') (rp' : Rep X.K X.mg bs' h2 H')
    (o : Out X.K X.mg (RV X.K X.mg) E bs H (R.ok (.ref h.length) h2) Q) : Q (.ref a) H' := by
  have hat : bs'[h.length]? = some a := by
    obtain ⟨t, rfl⟩ := pr
    rw [rp.len.symm, List.getElem?_append_left (by simp)]
    simp
  exact o bs' H' _ e rp' (.ref hat)
theorem em_make (C : Mkr X.prog X.w X.K X.mg X.base c n k dv mf) (hr : Room j X.A) (hj : k + 1 ≤ j) (hx : x = cname c) (hg : Gl X x) (tk : Takes X W) (ha : AM X W (e :: es) ms) (hl : ∀ env h xs h', ms env h = .ok xs h' → xs.length + 1 + dv.length = n)
    (hdb : (x == ("__debug__" : Str)) = false := by decide) (he : starEach (e :: es) X.env = (false, eval e X.env) :: starEach es X.env := by rfl) (hpl : (backTo pos (starEach es X.env)).any (·.1) = false := by rfl) :
    EM X W (.Call (.Name x p) (e :: es) [] pos) (app ms (makeM c mf dv)) := by
  obtain ⟨C, f, fd, ps, dvs, ds, mC, M, hp, hd, hdv, hb, F⟩ := C
  subst hx
  refine ⟨fun pins s σ H Q I hq => ?_⟩
  have hq2 : tMA X.K X.mg W ms σ H fun vs H1 => ∀ x dx, H1 x = none → H1 dx = none → dx ≠ x → spM X.K X.mg n mf (.ref x :: (vs ++ dvs)) (upd (upd H1 dx (.own x)) x (.ins C dx [])) (fun v H2 => v = .non ∧ Q (.ref x) H2) (WE W σ) := by
    obtain ⟨env, bs, h, er, rp, o⟩ := hq
    refine ⟨env, bs, h, er, rp, ?_⟩
    unfold app at o
    cases q : ms env h with
    | bad => rw [q] at o; exact o
    | ex c f h' => rw [q] at o; exact o
    | ok xs h' =>
      rw [q] at o
      exact fun b1 H1 vs e1 r1 rx => sim_make (fin := fun h2 => .ok (h2.getD h'.length .non) (h2.take h'.length)) mC hdv (hl env h xs h' q) r1 rx (fin_makeM r1) (Out.mono o e1)
  refine wpAny_Call_Name_kw (ld_glob I hg mC ?_ hdb)
  refine PySem.W.callWith_K (h₀ := X.base) I.ok.mod.kin M.kp (thn (ha.run pos pins s σ H _ I hq2) fun us s1 ⟨vs, H1, I1, r, q⟩ => ⟨I1.kIn, ?_⟩) he hpl
  exact run_makeS (E := fun σ => WE W σ) M F (hr.mono hj) hb hd (passAt tk σ) I1 r q
theorem em_makeN (C : Mkr X.prog X.w X.K X.mg X.base c n k dv mf) (hr : Room j X.A) (hj : k + 1 ≤ j) (hx : x = cname c) (hg : Gl X x) (tk : Takes X W) (ha : AM X W (e :: es) ms) (hl : ∀ env h xs h', ms env h = .ok xs h' → xs.length + 1 + dv.length = n)
    (hdb : (x == ("__debug__" : Str)) = false := by decide) (he : starEach (e :: es) X.env = (false, eval e X.env) :: starEach es X.env := by rfl) (hpl : (backTo pos (starEach es X.env)).any (·.1) = false := by rfl) :
    EM X W (.Call (.Name x p) (e :: es) [] pos) (app ms (makeN c mf dv)) := by
  obtain ⟨C, f, fd, ps, dvs, ds, mC, M, hp, hd, hdv, hb, F⟩ := C
  subst hx
  refine ⟨fun pins s σ H Q I hq => ?_⟩
  have hq2 : tMA X.K X.mg W ms σ H fun vs H1 => ∀ x dx, H1 x = none → H1 dx = none → dx ≠ x → spM X.K X.mg n mf (.ref x :: (vs ++ dvs)) (upd (upd H1 dx (.own x)) x (.ins C dx [])) (fun v H2 => v = .non ∧ Q (.ref x) H2) (WE W σ) := by
    obtain ⟨env, bs, h, er, rp, o⟩ := hq
    refine ⟨env, bs, h, er, rp, ?_⟩
    unfold app at o
    cases q : ms env h with
    | bad => rw [q] at o; exact o
    | ex c f h' => rw [q] at o; exact o
    | ok xs h' =>
      rw [q] at o
      exact fun b1 H1 vs e1 r1 rx => sim_make (fin := fun h2 => .ok (.ref h'.length) h2) mC hdv (hl env h xs h' q) r1 rx (fin_makeN r1) (Out.mono o e1)
  refine wpAny_Call_Name_kw (ld_glob I hg mC ?_ hdb)
  refine PySem.W.callWith_K (h₀ := X.base) I.ok.mod.kin M.kp (thn (ha.run pos pins s σ H _ I hq2) fun us s1 ⟨vs, H1, I1, r, q⟩ => ⟨I1.kIn, ?_⟩) he hpl
  exact run_makeS (E := fun σ => WE W σ) M F (hr.mono hj) hb hd (passAt tk σ) I1 r q
end

/-! ### properties, methods -/
/-- the class c has the property f: its getter does mf -/
def Prp (P : Program) (w : World) (K : PySem.W.Frag) (mg : Str → Option Value) (base : Heap) (c : Nat) (f : Str) (k : Nat) (mf : List PV → M PV) : Prop :=
  ∃ (C p g : Addr) (fd : FuncData) (ps : List Str), mg (cname c) = some (.ref C) ∧ Cls K C ∧ PropOf K C f p g ∧ Binds K fd ps [] ∧ FnOk P w K mg base (L2.CX P w) k g fd ps (spM K mg 1 mf)
@[inline] def prop (c : Nat) (mf : List PV → M PV) (m : ME PV) : ME PV := fun env h => (m env h).bind fun x h1 => match insAt h1 x with
  | some (d, _) => if d = c then (mf [x] h1).nbind fun v h2 => .ok v h2 else .bad
  | none => .bad
/-- the class c has the method f -/
def Mth (P : Program) (w : World) (K : PySem.W.Frag) (mg : Str → Option Value) (base : Heap) (c : Nat) (f : Str) (n k : Nat) (mf : List PV → M PV) : Prop :=
  ∃ (C g : Addr) (fd : FuncData) (ps : List Str), mg (cname c) = some (.ref C) ∧ Cls K C ∧ Meth K C f g ∧ f ∉ fnames c ∧ Binds K fd ps [] ∧ FnOk P w K mg base (L2.CX P w) k g fd ps (spM K mg n mf)
@[inline] def mthd (c : Nat) (mf : List PV → M PV) (m : ME PV) (ms : ME (List PV)) : ME PV := fun env h => (m env h).bind fun x h1 => match insAt h1 x with
  | some (d, _) => if d = c then (ms env h1).bind fun xs h2 => mf (x :: xs) h2 else .bad
  | none => .bad
section
variable {X : Cx} {W : WX} {n k j c : Nat} {mf : List PV → M PV} {o e : Expr} {es : List Expr} {m : ME PV} {ms : ME (List PV)} {f : Str} {apos pos : Pos}
theorem em_prop (C : Prp X.prog X.w X.K X.mg X.base c f k mf) (hr : Room j X.A) (hj : k + 1 ≤ j) (he : EM X W e m) (hb : attributeBase e f X.env (eval e X.env) = eval e X.env := by rfl) : EM X W (.Attribute e f pos) (prop c mf m) := by
  obtain ⟨C, p, g, fd, ps, mC, cl, hp, hbi, F⟩ := C
  refine PE.imp (pe_prop (dvs := []) (ds := []) (E := E0) he cl hp F (hr.mono hj) hbi .nil passL hb) fun σ H Q ⟨env, bs, h, er, rp, o⟩ => ?_
  refine ⟨env, bs, h, er, rp, Out.bind o ?_⟩
  rintro v H1 ⟨bs1, h1, x, e1, rp1, rx, o1⟩
  cases ei : insAt h1 x with
  | none => simp only [ei] at o1; exact o1.elim
  | some dx =>
    obtain ⟨d, xs⟩ := dx
    simp only [ei] at o1
    obtain ⟨a, C', dx, vs, rfl, mC', ha, hl, rs⟩ := insAt_ok rp1 rx ei
    by_cases hd : d = c
    · subst hd
      rw [mC] at mC'
      cases mC'
      rw [if_pos rfl] at o1
      refine ⟨a, dx, _, rfl, ha, rfl, bs1, h1, [x], rp1, .cons rx .nil, ?_⟩
      cases q : mf [x] h1 with
      | ok y h2 => rw [q] at o1; exact o1
      | ex _ _ _ => rw [q] at o1; exact o1.elim
      | bad => rw [q] at o1; exact o1
    · rw [if_neg hd] at o1; exact o1.elim
theorem em_mthd {pl : Sem Bool} (M : Mth X.prog X.w X.K X.mg X.base c f n k mf) (hr : Room j X.A) (hj : k ≤ j) (tk : Takes X W) (he : EM X W o m) (ha : AM X W (e :: es) ms) (hl : ∀ env h xs h', ms env h = .ok xs h' → xs.length + 1 = n)
    (hst : starEach (e :: es) X.env = (false, eval e X.env) :: starEach es X.env := by rfl) (hpl : (backTo pos (starEach es X.env)).any (·.1) = false := by rfl)
    (ht : eval (.Call (.Attribute o f apos) (e :: es) [] pos) X.env = (do
      let ov ← eval o X.env
      standAt apos.atName
      let (f, first) ← holding [ov] (getMethod ov f pl)
      callWith pos f first (backTo pos (starEach (e :: es) X.env)) (backToKw pos (keywordEach [] X.env))) := by rfl) : EM X W (.Call (.Attribute o f apos) (e :: es) [] pos) (mthd c mf m ms) := by
  obtain ⟨C, g, fd, ps, mC, cl, hm, hnf, hbi, F⟩ := M
  refine ⟨fun pins s σ H Q I hq => ?_⟩
  have hq2 : tM X.K X.mg W m σ H fun x H1 => ∃ a dx fs, x = .ref a ∧ H1 a = some (.ins C dx fs) ∧ fs.lookup f = none ∧ tMA X.K X.mg W ms σ H1 fun vs H2 => spM X.K X.mg n mf (x :: vs) H2 Q (WE W σ) := by
    obtain ⟨env, bs, h, er, rp, o⟩ := hq
    refine ⟨env, bs, h, er, rp, Out.bind o ?_⟩
    rintro v H1 ⟨bs1, h1, x, e1, rp1, rx, o1⟩
    cases ei : insAt h1 x with
    | none => simp only [ei] at o1; exact o1.elim
    | some dx =>
      obtain ⟨d, xs⟩ := dx
      simp only [ei] at o1
      obtain ⟨a, C', dx, vs, rfl, mC', ha, hl2, rs⟩ := insAt_ok rp1 rx ei
      by_cases hd : d = c
      · subst hd
        rw [mC] at mC'
        cases mC'
        rw [if_pos rfl] at o1
        refine ⟨a, dx, _, rfl, ha, zip_none hnf, env, bs1, h1, er.mono e1, rp1, ?_⟩
        cases q : ms env h1 with
        | bad => rw [q] at o1; exact o1
        | ex c f h' => rw [q] at o1; exact o1
        | ok ys h2 =>
          rw [q] at o1
          exact fun b2 H2 ws e2 r2 rws => ⟨by have := hl env h1 ys h2 q; have := rws.length; simp; omega, b2, h2, x :: ys, r2, .cons (rx.mono e2) rws, Out.mono o1 e2⟩
      · rw [if_neg hd] at o1; exact o1.elim
  refine PySem.W.methodCall_KW (pl := pl) (thn (he.run pins s σ H _ I hq2) fun u s1 ⟨x, H1, I1, rx, a, dx, fs, ex, ea, l, q⟩ => ?_) ht
  subst ex
  obtain rfl : u = Value.ref a := rx
  refine getmeth_ok I1 ea cl hm l ?_
  refine PySem.W.callWith_K (first := [.ref a]) (h₀ := X.base) I.ok.mod.kin hm.kp (thn (ha.run pos pins s1 σ H1 _ I1 q) fun us s2 ⟨vs, H2, I2, r, q2⟩ => ⟨I2.kIn, ?_⟩) hst hpl
  exact run_fnS (E := fun σ => WE W σ) (us := .ref a :: us) (vs := .ref a :: vs) F (hr.mono hj) hbi (passAt tk σ) I2 (.cons rfl r) q2
theorem em_mthd0 {pl : Sem Bool} (M : Mth X.prog X.w X.K X.mg X.base c f 1 k mf) (hr : Room j X.A) (hj : k ≤ j) (tk : Takes X W) (he : EM X W o m)
    (ht : eval (.Call (.Attribute o f apos) [] [] pos) X.env = (do
      let ov ← eval o X.env
      standAt apos.atName
      let (f, first) ← holding [ov] (getMethod ov f pl)
      callWith pos f first (backTo pos (starEach [] X.env)) (backToKw pos (keywordEach [] X.env))) := by rfl) : EM X W (.Call (.Attribute o f apos) [] [] pos) (mthd c mf m aNil) := by
  obtain ⟨C, g, fd, ps, mC, cl, hm, hnf, hbi, F⟩ := M
  refine ⟨fun pins s σ H Q I hq => ?_⟩
  have hq2 : tM X.K X.mg W m σ H fun x H1 => ∃ a dx fs, x = .ref a ∧ H1 a = some (.ins C dx fs) ∧ fs.lookup f = none ∧ spM X.K X.mg 1 mf [x] H1 Q (WE W σ) := by
    obtain ⟨env, bs, h, er, rp, o⟩ := hq
    refine ⟨env, bs, h, er, rp, Out.bind o ?_⟩
    rintro v H1 ⟨bs1, h1, x, e1, rp1, rx, o1⟩
    cases ei : insAt h1 x with
    | none => simp only [ei] at o1; exact o1.elim
    | some dx =>
      obtain ⟨d, xs⟩ := dx
      simp only [ei] at o1
      obtain ⟨a, C', dx, vs, rfl, mC', ha, hl2, rs⟩ := insAt_ok rp1 rx ei
      by_cases hd : d = c
      · subst hd
        rw [mC] at mC'
        cases mC'
        rw [if_pos rfl] at o1
        exact ⟨a, dx, _, rfl, ha, zip_none hnf, rfl, bs1, h1, [x], rp1, .cons rx .nil, o1⟩
      · rw [if_neg hd] at o1; exact o1.elim
  refine PySem.W.methodCall_KW (pl := pl) (thn (he.run pins s σ H _ I hq2) fun u s1 ⟨x, H1, I1, rx, a, dx, fs, ex, ea, l, q⟩ => ?_) ht
  subst ex
  obtain rfl : u = Value.ref a := rx
  refine getmeth_ok I1 ea cl hm l ?_
  exact PySem.W.callWith_K0 (first := [.ref a]) I1.kIn hm.kp (run_fnS (E := fun σ => WE W σ) (us := [.ref a]) (vs := [.ref a]) F (hr.mono hj) hbi (passAt tk σ) I1 (.cons rfl .nil) q)
end
end Sm

namespace Sm
open PySem PySem.Spec PyProof.Rows L2

/-! ### raise X() -/
def veB : List Value := [.type "ValueError", .type "Exception", .type "BaseException", .type "object"]
/-- the error class c -/
def ExcF (K : PySem.W.Frag) (mg : Str → Option Value) (c : Nat) : Prop := ∃ C, mg (ename c) = some (.ref C) ∧ PySem.W.excIn K C veB "ValueError.__new__" = true ∧ PySem.W.keepIn K (.ref C) = true ∧ PySem.W.subIn K (.ref C) (.type "BaseException") = some true ∧ PySem.W.typeIn K (.ref C) = some (.type "type")
section
variable {X : Cx} {W : WX}
theorem pmk_own0 {C : Addr} {bmB : List Value} {B newId initId : String} {x : Str} {p pos : Pos} (F : ExcBaseFacts B newId initId bmB) (q : PySem.W.excIn X.K C bmB newId = true) (gC : X.mg x = some (.ref C)) (kC : PySem.W.keepIn X.K (.ref C) = true) (r : Raises X (.ref C)) (hg : Gl X x)
    (hdb : (x == ("__debug__" : Str)) = false := by decide) : PMk X (.Call (.Name x p) [] [] pos) (fun _ H Q => Q (.ref C) none H) := by
  intro pins s σ H Q I h
  refine wpAny_Call_Name_kw (ld_glob I hg gC ?_ hdb)
  refine PySem.W.callWith_K0 I.kIn kC ?_
  show wpAny _ _ (call (.ref C) []) _ _ _
  obtain ⟨bm, N, nm, qn, bs, hdct, sn, sub, ab, col, dd, k0, k1, k2, k3, k5, mN, hC, hN, hni, T⟩ := exc_obj I.kIn q
  refine wpAny_call_exc_subT F T hC hN hni (fun h' e hm => ?_) (by show 0 ≤ sizeLine; exact Nat.zero_le _)
  exact mk_of I hm r h (I.hok.gone hm.new)
@[inline] def rse (c : Nat) : MS := fun env h => .ex c [] env h
theorem sm_raise0 {c : Nat} {x : Str} {p pos pos2 : Pos} (E : ExcF X.K X.mg c) (hx : x = ename c) (hc : X.calm = true) (tk : Takes X W) (hg : Gl X x) (hdb : (x == ("__debug__" : Str)) = false := by decide) : SM X W (.Raise (some (.Call (.Name x p) [] [] pos)) none pos2) (rse c) := by
  obtain ⟨C, mC, xC, kC, bC, tC⟩ := E
  subst hx
  refine PS.imp (ps_raise hc tk (pmk_own0 PySem.F.excBase_ValueError xC mC kC (raises_own bC tC) hg hdb)) fun D σ H ⟨env, bs, h, er, rp, o⟩ => ?_
  exact o bs H σ _ _ (Ext.refl _ _) rp er ⟨⟨C, mC, rfl⟩, trivial⟩

/-! ### try: .. except X: .. except Y: .. -/
/-- which error is caught by which clause -/
def ExmF (K : PySem.W.Frag) (mg : Str → Option Value) (h : Nat) : Prop := ∃ Ch, mg (ename h) = some (.ref Ch) ∧ ∀ c C, c < 15 → mg (ename c) = some (.ref C) → PySem.W.exmOne K (.ref C) (.ref Ch) = some (c == h)
def hdl : List (Nat × MS) → Nat → List PV → MS
  | [], c, f => fun env h => .ex c f env h
  | (e, m) :: r, c, f => fun env h => if c = e then m env h else hdl r c f env h
@[inline] def tryS (mb : MS) (hs : List (Nat × MS)) : MS := fun env h => match mb env h with
  | .ex c f env' h' => if c < 15 then hdl hs c f env' h' else .bad
  | r => r
inductive HdM (X : Cx) (W : WX) : List ExceptHandler → List (Nat × MS) → Prop
  | nil : HdM X W [] []
  | cons {c : Nat} {m : MS} {x : Str} {b₀ : Stmt} {suite : List Stmt} {np pos' : Pos} {hds : List ExceptHandler} {l : List (Nat × MS)} (E : ExmF X.K X.mg c) (hx : x = ename c) (hg : Gl X x) (hdb : (x == ("__debug__" : Str)) = false)
      (hsu : ∀ (a : Addr) (oe : Obj) (pn : List (Addr × Obj)), BM (X.suite a ((a, oe) :: pn)) W (b₀ :: suite) m) (r : HdM X W hds l) : HdM X W (.ExceptHandler (some (.Name x np)) none (b₀ :: suite) pos' :: hds) ((c, m) :: l)
theorem hds_of {hds : List ExceptHandler} {l : List (Nat × MS)} (h : HdM X W hds l) : ∃ l' : List (Value × (Addr → Value → Option Addr → TS)), HdsOk X hds l' ∧
    ∀ (D : Ends) (c : Nat) (f : List PV) (C : Addr) (d : Option Addr) (env : En) (bs : List Addr) (hp : HP) (σ : L2.St) (H : Hp), c < 15 → X.mg (ename c) = some (.ref C) → ExR X.K X.mg bs H c f (.ref C) d → EnvR X.K X.mg bs H env σ → Rep X.K X.mg bs hp H →
      OutS X.K X.mg W bs H (hdl l c f env hp) D → wMany X.K W D l' (.ref C) d σ H := by
  induction h with
  | nil => exact ⟨[], .nil, fun D c f C d env bs hp σ H hc mC xr er rp o => o bs H σ _ _ (Ext.refl _ _) rp er xr⟩
  | @cons e m x b₀ suite np pos' hds l E hx hg hdb hsu r ih =>
    obtain ⟨l', hk, hl⟩ := ih
    obtain ⟨Ch, mh, hx2⟩ := E
    subst hx
    refine ⟨(.ref Ch, fun _ _ _ => tS X.K X.mg W m) :: l', .cons ⟨hg, hdb, .inl mh⟩ (fun a oe cls d pn _ _ => hsu a oe pn) hk, fun D c f C d env bs hp σ H hc mC xr er rp o => ?_⟩
    have ex := hx2 c C hc mC
    refine ⟨c == e, ex, fun hb a _ => ?_, fun hb => ?_⟩
    · have : c = e := by simpa using hb
      subst this
      have o' : OutS X.K X.mg W bs H (if c = c then m env hp else hdl l c f env hp) D := o
      rw [if_pos rfl] at o'
      exact ⟨env, bs, hp, er, rp, o'⟩
    · have ne : ¬ c = e := by simpa using hb
      have o' : OutS X.K X.mg W bs H (if c = e then m env hp else hdl l c f env hp) D := o
      rw [if_neg ne] at o'
      exact hl D c f C d env bs hp σ H hc mC xr er rp o'
theorem sm_try {body : List Stmt} {h₀ : ExceptHandler} {hds : List ExceptHandler} {mb : MS} {l : List (Nat × MS)} {pos : Pos} (hs : X.stack = X.env :: X.outer) (hf : X.env.frame = some X.env.locals) (tk : Takes X W)
    (hb : ∀ (W' : WX) (pn : List (Addr × Obj)) (xe : Value → Shared → Prop), Takes (X.tr pn xe) W' → PassesOwn (model X.prog X.w) X.A X.env xe → BM (X.tr pn xe) W' body mb)
    (hh : HdM X W (h₀ :: hds) l) : SM X W (.Try body (h₀ :: hds) [] [] pos) (tryS mb l) := by
  obtain ⟨l', hk, hl⟩ := hds_of hh
  refine PS.imp (ps_try_many (tb := fun W' => tS X.K X.mg W' mb) (Wout := W) hs hf tk hb hk) fun D σ H ⟨env, bs, h, er, rp, o⟩ => ?_
  refine ⟨env, bs, h, er, rp, ?_⟩
  unfold tryS at o
  cases q : mb env h with
  | nx env' h' => rw [q] at o; exact o
  | rt v h' => rw [q] at o; exact o
  | bk v h' => rw [q] at o; exact o
  | ct v h' => rw [q] at o; exact o
  | bad => rw [q] at o; exact o
  | ex c f env' h' =>
    rw [q] at o
    intro bs' H' σ' cls d e1 r1 er1 x1
    obtain ⟨⟨C, mC, rfl⟩, x2⟩ := id x1
    by_cases hc : c < 15
    · have o' : OutS X.K X.mg W bs H (if c < 15 then hdl l c f env' h' else .bad) D := o
      rw [if_pos hc] at o'
      exact hl D c f C d env' bs' h' σ' H' hc mC x1 er1 r1 (o'.mono e1)
    · have o' : OutS X.K X.mg W bs H (if c < 15 then hdl l c f env' h' else .bad) D := o
      rw [if_neg hc] at o'; exact o'.elim
end

/-! ### texts written, the module's constants -/
section
variable {X : Cx} {W : WX}
theorem em_strL {x : Str} {l : List Nat} {j pos} (h : x.cps.toList = l) : EM X W (.Constant (.str x) j pos) (cst (.str l)) := by
  subst h; exact em_str
/-- the module's name x holds the plain value v -/
def Gc (K : PySem.W.Frag) (mg : Str → Option Value) (x : Str) (v : PV) : Prop := ∃ u w, mg x = some u ∧ RelV w u ∧ ∀ bs H, RV K mg bs H v w
theorem em_glob {x : Str} {v : PV} {pos : Pos} (G : Gc X.K X.mg x v) (hg : Gl X x) (hd : (x == ("__debug__" : Str)) = false := by decide) : EM X W (.Name x pos) (cst v) := by
  obtain ⟨u, w, hm, r, rv⟩ := G
  exact em_cst (pe_glob hg hm r hd) rv
end

/-! ### s.replace(".", ""): behind the binding of arguments a token is out -/
section
variable {X : Cx} {W : WX}
abbrev EMT (X : Cx) (W : WX) (e : Expr) (m : ME PV) : Prop := PET X e (tM X.K X.mg W m)
abbrev SMT (X : Cx) (W : WX) (st : Stmt) (m : MS) : Prop := PST X st (tS X.K X.mg W m)
abbrev BMT (X : Cx) (W : WX) (st : List Stmt) (m : MS) : Prop := PSsT X st (tS X.K X.mg W m)
theorem PET.imp {e : Expr} {t t' : TE} (p : PET X e t) (h : ∀ σ H Q, t' σ H Q → t σ H Q) : PET X e t' := fun pins s σ H Q h0 I q => p pins s σ H Q h0 I (h σ H Q q)
theorem PST.imp {e : Stmt} {t t' : TS} (p : PST X e t) (h : ∀ D σ H, t' D σ H → t D σ H) : PST X e t' := fun pins s σ H D h0 I q => p pins s σ H D h0 I (h D σ H q)
theorem PSsT.imp {e : List Stmt} {t t' : TS} (p : PSsT X e t) (h : ∀ D σ H, t' D σ H → t D σ H) : PSsT X e t' := fun pins s σ H D h0 I q => p pins s σ H D h0 I (h D σ H q)
@[inline] def repl (y z : List Nat) (m : ME PV) : ME PV := fun env h => (m env h).bind fun x h1 => match x with
  | .str s => if s.length + (s.length + 1) * z.length ≤ 16777216 then .ok (.str (StrLaws.replL y z s)) h1 else .bad
  | _ => .bad
theorem emt_repl {o : Expr} {m : ME PV} {y z : Str} {ly lz : List Nat} {j k : Nat} {c0 c1 apos pos : Pos} (hly : y.cps.toList = ly) (hlz : z.cps.toList = lz) (hy : 1 ≤ y.length) (ho : EM X W o m) (hyz : (y == z) = false := by decide)
    (hst : starEach [.Constant (.str y) j c0, .Constant (.str z) k c1] X.env = [(false, eval (.Constant (.str y) j c0) X.env), (false, eval (.Constant (.str z) k c1) X.env)] := by rfl)
    (hbase : attributeBase o "replace" X.env (eval o X.env) = eval o X.env := by rfl) (hline : (apos.endLine == pos.line) = true := by rfl) :
    EMT X W (.Call (.Attribute o "replace" apos) [.Constant (.str y) j c0, .Constant (.str z) k c1] [] pos) (repl ly lz m) := PET.imp (CwR.pet_replC ho hyz hst hbase hline) fun σ H Q ⟨env, bs, h, er, rp, o⟩ => by
  refine ⟨env, bs, h, er, rp, Out.bind o ?_⟩
  rintro v H1 ⟨bs1, h1, x, e1, rp1, rx, o1⟩
  cases rx with
  | str s =>
    subst hly hlz
    have ez : z.cps.toList.length = z.length := by simp [Str.length]
    by_cases hc : s.length + (s.length + 1) * z.cps.toList.length ≤ 16777216
    · have o2 : Out X.K X.mg (RV X.K X.mg) _ bs1 H1 (if s.length + (s.length + 1) * z.cps.toList.length ≤ 16777216 then R.ok (.str (StrLaws.replL y.cps.toList z.cps.toList s)) h1 else .bad) Q := o1
      rw [if_pos hc] at o2
      refine ⟨_, rfl, by rw [str_len, ← ez]; exact hc, ?_⟩
      have e2 := StrLaws.replace_list (x := ⟨s.toArray⟩) (y := y) (z := z) hy
      rw [str_back e2]
      exact o2.here rp1 (.str _)
    · have o2 : Out X.K X.mg (RV X.K X.mg) _ bs1 H1 (if s.length + (s.length + 1) * z.cps.toList.length ≤ 16777216 then R.ok (.str (StrLaws.replL y.cps.toList z.cps.toList s)) h1 else .bad) Q := o1
      rw [if_neg hc] at o2
      exact o2.elim
  | _ => exact o1.elim
theorem emt_typ1 {T : String} {x : Str} {e : Expr} {m : ME PV} {g : List PV → M PV} {p pos : Pos} (S : CallS X (.type T) g) (hg : Gl X x) (hm : X.mg x = none) (hv : bootBuiltins x = some (.type T)) (he : EMT X W e m) (hn : x ≠ "__name__" := by decide) (hdb : (x == ("__debug__" : Str)) = false := by decide)
    (hs : starEach [e] X.env = (false, eval e X.env) :: starEach [] X.env := by rfl) (hpl : (backTo pos (starEach [] X.env)).any (·.1) = false := by rfl) : EMT X W (.Call (.Name x p) [e] [] pos) (app (aCons m aNil) g) := by
  obtain ⟨r, h1, h2⟩ := S
  intro pins s σ H Q h0 I hq
  have hq2 : tM X.K X.mg W m σ H fun v H1 => r [v] H1 Q := by
    obtain ⟨env, bs, h, er, rp, o⟩ := hq
    have o : Out X.K X.mg (RV X.K X.mg) (fun c d H' => W c d σ H') bs H ((m env h).bind fun x h1 => g [x] h1) Q := by
      have e : app (aCons m aNil) g env h = ((m env h).bind fun x h1 => g [x] h1) := by
        unfold app aCons aNil
        cases m env h <;> rfl
      rw [← e]; exact o
    refine ⟨env, bs, h, er, rp, Out.bind o ?_⟩
    rintro v H1 ⟨bs1, h1', x, e1, rp1, rx, o1⟩
    exact h2 _ bs1 h1' H1 [x] [v] Q rp1 (.cons rx .nil) o1
  refine wpAny_Call_Name_kw (ld_blt I hg hm hv ?_ hn hdb)
  refine PyProof.Rows.callWith_type1 ?_ hs hpl
  rw [hs]
  show wpAny _ _ (spliced ((false, eval e X.env) :: backTo pos (starEach [] X.env))) _ _ s
  refine Calls.spliced_cons (thn (he pins s σ H _ h0 I hq2) fun u s1 ⟨v, H1, I1, r1, q1⟩ => ?_)
  exact Calls.spliced_nil (h1 pins s1 σ H1 [v] [u] Q I1 (.cons r1 .nil) q1)
theorem smt_of {st : Stmt} {m : MS} (h : SM X W st m) : SMT X W st m := PST.of h
theorem smt_ret {e : Expr} {m : ME PV} {pos : Pos} (he : EMT X W e m) : SMT X W (.Return (some e) pos) (ret m) := PST.imp (CwR.pst_ret he) fun D σ H ⟨env, bs, h, er, rp, o⟩ => by
  refine ⟨env, bs, h, er, rp, OutS.bind o er ?_⟩
  rintro v H1 ⟨bs1, h1, x, e1, rp1, rx, o1⟩
  exact o1 bs1 H1 v (Ext.refl _ _) rp1 rx
theorem smt_set {i : Nat} {x : Str} {e : Expr} {m : ME PV} {pos pos' : Pos} (hN : X.N.Nodup) (hi : X.N[i]? = some x) (hx : Loc X.env.scope x) (he : EMT X W e m) (hs : swapsWith e (some (.Name x pos')) pos.line X.env = Pure.pure false := by rfl)
    (hf : X.fn x = true ∨ X.env.scope.names.lookup x = some .local := by first | exact .inl rfl | exact .inr rfl | assumption) : SMT X W (.Assign [.Name x pos'] e pos) (set i m) := by
  intro pins s σ H D h0 I hq
  have h := sim_set (X := X) (W := W) hq
  refine wpAny_Assign_Name (thn (he pins s σ H _ h0 I h) fun v s1 ⟨y, H1, I1, r1, q1⟩ => ?_) hs
  exact store_ok I1 hN hi hx r1 (fun s2 I2 => ⟨_, H1, I2, q1⟩) hf
theorem bmt_nil : BMT X W [] skip := PSsT.of bm_nil
theorem bmt_cons {st : Stmt} {rest : List Stmt} {m n : MS} (h1 : SMT X W st m) (h2 : BMT X W rest n) : BMT X W (st :: rest) (seq m n) := PSsT.imp (psst_cons h1 h2) fun D σ H ⟨env, bs, h, er, rp, o⟩ => by
  refine ⟨env, bs, h, er, rp, ?_⟩
  unfold seq at o
  cases q : m env h with
  | nx env' h' =>
    rw [q] at o
    exact fun b1 H1 σ1 e1 r1 er1 => ⟨env', b1, h', er1, r1, o.mono e1⟩
  | rt v h' => rw [q] at o; exact o
  | bk v h' => rw [q] at o; exact o
  | ct v h' => rw [q] at o; exact o
  | ex c f v h' => rw [q] at o; exact o
  | bad => rw [q] at o; exact o
theorem bmt_one {st : Stmt} {m : MS} (h1 : SMT X W st m) : BMT X W [st] m := fun pins s σ H D h0 I hq => by
  refine wpAny_execs_cons (thn (h1 pins s σ H D h0 I hq) fun f s1 q => ?_)
  cases f with
  | next => exact wpAny_execs_nil q
  | ret v => exact q
  | brk => exact q
  | cont => exact q
theorem fn_mT {P : Program} {w : World} {K : PySem.W.Frag} {mg : Str → Option Value} {base : Heap} {x qual : Str} {params : Arguments} {body : List Stmt} {scope : Scope} {dvs : List V} {kws : List (Str × V)} {f : Addr} {fd : FuncData} {N ps : List Str} {k : Nat} {mb : MS} (F : FunD K x qual params body scope dvs kws f fd) (Sc : FnScope N ps scope)
    (hnc : ∀ y ∈ scope.names, y.2 ≠ .cell) (hps : 1 ≤ ps.length)
    (hb : ∀ (cdv : Value) (A : Around) (outer : List Env) (s : Shared) (H : Hp) (E : XK), Room k (A.deeper (envOfC qual scope s.heap.objs.size f cdv)) →
      BMT (cxOf (L2.CX P w) P w K mg base N qual scope f cdv A outer s H E) (fun c d _ H' => E c d H') body mb) :
    FnOk P w K mg base (L2.CX P w) (k + 1) f fd ps (spM K mg ps.length (callF N.length mb)) := by
  obtain ⟨oc, od, dV, kV, doc, pm, an, cdv, ct, osl, rfl, lk, hcd, _, _⟩ := F.ex
  refine fn_ofT lk hcd Sc hnc hps (fun vs H Q E h => h.1) fun A outer s H vs Q E hr hsp => ⟨_, hb cdv A outer s H E hr, ?_⟩
  obtain ⟨hl, bs, h, xs, rp, rx, o⟩ := hsp
  refine ⟨_, bs, h, start_env N rx, rp, ?_⟩
  unfold callF at o
  have hn : h.length = bs.length := rp.len.symm
  cases q : mb (xs.map some ++ List.replicate (N.length - xs.length) none) h with
  | nx env h' =>
    rw [q] at o
    exact fun b1 H1 σ e1 r1 _ => o bs H1 .non e1.cut (r1.cut e1.pre hn) .non
  | rt v h' =>
    rw [q] at o
    exact fun b1 H1 w1 e1 r1 rv => o bs H1 w1 e1.cut (r1.cut e1.pre hn) (rv.frz r1 e1.pre hn)
  | ex c f env h' =>
    rw [q] at o
    exact fun b1 H1 σ cls d e1 r1 _ x1 => o bs H1 cls d e1.cut (r1.cut e1.pre hn) (x1.less fun a z => e1.pre.subset z)
  | bk env h' => rw [q] at o; exact o.elim
  | ct env h' => rw [q] at o; exact o.elim
  | bad => rw [q] at o; exact o.elim
end
end Sm

namespace Sm
open PySem PySem.Spec PyProof.Rows L2
section
variable {X : Cx} {W : WX}
/-- a, b = x, y -/
@[inline] def par2 (i j : Nat) (ms : ME (List PV)) : MS := fun env h => (ms env h).toS env fun vs h1 => match vs with
  | [v, w] => .nx ((env.set i (some v)).set j (some w)) h1
  | _ => .bad
theorem sm_par {i j : Nat} {x y : Str} {a b : Expr} {ms : ME (List PV)} {px py pt : Pos} {kt k2 pt2} {pos : Pos} (hc : X.calm = true) (hN : X.N.Nodup) (hi : X.N[i]? = some x) (hj : X.N[j]? = some y) (hij : i ≠ j)
    (hx : X.env.scope.names.lookup x = some .local) (hy : X.env.scope.names.lookup y = some .local) (ha : AM X W [a, b] ms)
    (hw : swappedStores [.Tuple [.Name x px, .Name y py] kt pt] (.Tuple [a, b] k2 pt2) X.env = Pure.pure (some [x, y]))
    (hs : swapsWithSole [.Tuple [.Name x px, .Name y py] kt pt] (.Tuple [a, b] k2 pt2) pos.line X.env = Pure.pure false := by rfl) :
    SM X W (.Assign [.Tuple [.Name x px, .Name y py] kt pt] (.Tuple [a, b] k2 pt2) pos) (par2 i j ms) := PS.imp (ps_par hc hN hi hj hij hx hy ha hw hs) fun D σ H ⟨env, bs, h, er, rp, o⟩ => by
  refine ⟨env, bs, h, er, rp, OutS.bind o er ?_⟩
  rintro vs H1 ⟨bs1, h1, xs, e1, rp1, rx, o1⟩
  cases rx with
  | nil => exact o1.elim
  | cons r rs =>
    cases rs with
    | nil => exact o1.elim
    | cons r2 rs2 =>
      cases rs2 with
      | cons _ _ => exact o1.elim
      | nil => exact ⟨_, _, rfl, o1 bs1 H1 _ (Ext.refl _ _) rp1 (((er.mono e1).set i r).set j r2)⟩
@[inline] def par3 (i j l : Nat) (ms : ME (List PV)) : MS := fun env h => (ms env h).toS env fun vs h1 => match vs with
  | [u, v, w] => .nx (((env.set i (some u)).set j (some v)).set l (some w)) h1
  | _ => .bad
theorem sm_par3 {i j l : Nat} {x y z : Str} {a b c : Expr} {ms : ME (List PV)} {px py pz pt : Pos} {kt k2 pt2} {pos : Pos} (hc : X.calm = true) (hN : X.N.Nodup) (hi : X.N[i]? = some x) (hj : X.N[j]? = some y) (hl : X.N[l]? = some z) (hij : i ≠ j) (hil : i ≠ l) (hjl : j ≠ l)
    (hx : X.env.scope.names.lookup x = some .local) (hy : X.env.scope.names.lookup y = some .local) (hz : X.env.scope.names.lookup z = some .local) (ha : AM X W [a, b, c] ms)
    (hw : swappedStores [.Tuple [.Name x px, .Name y py, .Name z pz] kt pt] (.Tuple [a, b, c] k2 pt2) X.env = Pure.pure (some [x, y, z]))
    (hs : swapsWithSole [.Tuple [.Name x px, .Name y py, .Name z pz] kt pt] (.Tuple [a, b, c] k2 pt2) pos.line X.env = Pure.pure false := by rfl) :
    SM X W (.Assign [.Tuple [.Name x px, .Name y py, .Name z pz] kt pt] (.Tuple [a, b, c] k2 pt2) pos) (par3 i j l ms) := PS.imp (ps_par3 hc hN hi hj hl hij hil hjl hx hy hz ha hw hs) fun D σ H ⟨env, bs, h, er, rp, o⟩ => by
  refine ⟨env, bs, h, er, rp, OutS.bind o er ?_⟩
  rintro vs H1 ⟨bs1, h1, xs, e1, rp1, rx, o1⟩
  cases rx with
  | nil => exact o1.elim
  | cons r rs =>
    cases rs with
    | nil => exact o1.elim
    | cons r2 rs2 =>
      cases rs2 with
      | nil => exact o1.elim
      | cons r3 rs3 =>
        cases rs3 with
        | cons _ _ => exact o1.elim
        | nil => exact ⟨_, _, _, rfl, o1 bs1 H1 _ (Ext.refl _ _) rp1 ((((er.mono e1).set i r).set j r2).set l r3)⟩
/-- both stored as a tuple's items: as it stands where the names aren't plain -/
@[inline] def aug (i : Nat) (m : ME PV) (f : PV → PV → M PV) : MS := fun env h => match env[i]? with
  | some (some x) => (m env h).toS env fun y h1 => (f x y h1).toS env fun z h2 => .nx (env.set i (some z)) h2
  | _ => .bad
def AugS (X : Cx) (op : Operator) (f : PV → PV → M PV) : Prop := ∃ t, PIp X op t ∧ Sim2 X t f
theorem a_add : AugS X .Add (i2 fun i j => .int (i + j)) := ⟨_, ip_add, fun W bs h H x y v w Q rp rx ry o => by
  cases rx with
  | int i =>
    cases ry with
    | int j => exact ⟨i, j, rfl, rfl, o.here rp (.int _)⟩
    | _ => exact o.elim
  | _ => exact o.elim⟩
theorem a_sub : AugS X .Sub (i2 fun i j => .int (i - j)) := ⟨_, ip_sub, fun W bs h H x y v w Q rp rx ry o => by
  cases rx with
  | int i =>
    cases ry with
    | int j => exact ⟨i, j, rfl, rfl, o.here rp (.int _)⟩
    | _ => exact o.elim
  | _ => exact o.elim⟩
theorem sm_aug {i : Nat} {x : Str} {e : Expr} {m : ME PV} {op : Operator} {f : PV → PV → M PV} {pos pos' : Pos} (S : AugS X op f) (hN : X.N.Nodup) (hi : X.N[i]? = some x) (hx : Loc X.env.scope x) (he : EM X W e m)
    (hf : X.fn x = true ∨ X.env.scope.names.lookup x = some .local := by first | exact .inl rfl | exact .inr rfl | assumption) (nx : ∀ x y h c g h', f x y h ≠ .ex c g h') : SM X W (.AugAssign (.Name x pos') op e pos) (aug i m f) := by
  obtain ⟨t, h1, h2⟩ := S
  refine PS.imp (ps_aug hN hi hx he h1 hf) fun D σ H ⟨env, bs, h, er, rp, o⟩ => ?_
  unfold aug at o
  cases q : env[i]? with
  | none => rw [q] at o; exact o.elim
  | some y =>
    cases y with
    | none => rw [q] at o; exact o.elim
    | some v =>
      rw [q] at o
      obtain ⟨w, hw, r⟩ := er.2 i v q
      refine ⟨w, hw, env, bs, h, er, rp, OutS.bind o er ?_⟩
      rintro u H1 ⟨bs1, h1', y, e1, rp1, ry, o1⟩
      refine h2 (fun _ _ _ => False) bs1 h1' H1 v y w u _ rp1 (r.mono e1) ry (Out.noex (nx v y h1') o1 ?_)
      rintro z H2 ⟨bs2, h2', z', e2, rp2, rz, o2⟩
      exact o2 bs2 H2 _ (Ext.refl _ _) rp2 (((er.mono e1).mono e2).set i rz)
theorem nx_i2 {g : Int → Int → PV} : ∀ x y h c f h', i2 g x y h ≠ .ex c f h' := fun x y h c f h' => by
  cases x <;> cases y <;> exact nofun
end
end Sm

namespace Sm
open PySem PySem.Spec PyProof.Rows L2
/-! ### a def that hands out a list that is still to be changed -/
def addN : PV → PV → M PV := fun x y h => match lstOf h x, lstOf h y with
  | some xs, some ys => if xs.length + ys.length ≤ lim then .ok (.ref h.length) (h ++ [.lst (xs ++ ys)]) else .bad
  | _, _ => .bad
theorem o_addN {X : Cx} : OpS X (binaryOp .Add) addN := ⟨_, op_cat, fun W bs h H x y v w Q rp rx ry o => by
  cases ex : lstOf h x with
  | none => simp only [addN, ex] at o; exact o.elim
  | some xs =>
    cases ey : lstOf h y with
    | none => simp only [addN, ex, ey] at o; exact o.elim
    | some ys =>
      obtain ⟨a, vs, rfl, ha, ra, pa⟩ := lstOf_ok rp rx ex
      obtain ⟨b, ws, rfl, hb, rb, pb⟩ := lstOf_ok rp ry ey
      by_cases hl : xs.length + ys.length ≤ lim
      · simp only [addN, ex, ey, hl, if_true] at o
        refine ⟨a, b, vs, ws, rfl, rfl, ha, hb, by rw [← ra.length, ← rb.length, ← lim_eq]; exact hl, fun p hp => ?_⟩
        refine o (bs ++ [p]) _ _ (Ext.push hp) (rp.push hp ⟨by rw [purL_append, pa, pb]; rfl, _, upd_same, (ra.append rb).mono (Ext.push hp)⟩) (.ref ?_)
        rw [← rp.len]; simp
      · simp only [addN, ex, ey, hl, if_false] at o; exact o.elim⟩
def callFN (nN : Nat) (mb : MS) (xs : List PV) : M PV := fun h => match mb (xs.map some ++ List.replicate (nN - xs.length) none) h with
  | .rt (.ref m) h' => if m = h.length then .ok (.ref m) (h'.take (h.length + 1)) else .bad
  | .ex c f _ h' => .ex c f (h'.take h.length)
  | _ => .bad
theorem fn_mN {P : Program} {w : World} {K : PySem.W.Frag} {mg : Str → Option Value} {base : Heap} {x qual : Str} {params : Arguments} {body : List Stmt} {scope : Scope} {dvs : List V} {kws : List (Str × V)} {f : Addr} {fd : FuncData} {N ps : List Str} {k : Nat} {mb : MS} (F : FunD K x qual params body scope dvs kws f fd) (Sc : FnScope N ps scope)
    (hb : ∀ (cdv : Value) (A : Around) (outer : List Env) (s : Shared) (H : Hp) (E : XK), Room k (A.deeper (envOfC qual scope s.heap.objs.size f cdv)) →
      BM (cxOf (L2.CX P w) P w K mg base N qual scope f cdv A outer s H E) (fun c d _ H' => E c d H') body mb) :
    FnOk P w K mg base (L2.CX P w) (k + 1) f fd ps (spM K mg ps.length (callFN N.length mb)) := by
  refine F.ok Sc (fun vs H Q E h => h.1) fun cdv A outer s H vs Q E hr hsp => ⟨_, hb cdv A outer s H E hr, ?_⟩
  obtain ⟨hl, bs, h, xs, rp, rx, o⟩ := hsp
  refine ⟨_, bs, h, start_env N rx, rp, ?_⟩
  unfold callFN at o
  have hn : h.length = bs.length := rp.len.symm
  cases q : mb (xs.map some ++ List.replicate (N.length - xs.length) none) h with
  | nx env h' => rw [q] at o; exact o.elim
  | rt v h' =>
    rw [q] at o
    cases v with
    | ref m =>
      have o : Out K mg (RV K mg) E bs H (if m = h.length then R.ok (.ref m) (h'.take (h.length + 1)) else .bad) Q := o
      by_cases hm : m = h.length
      · rw [if_pos hm] at o
        intro b1 H1 w1 e1 r1 rv
        cases rv with
        | @ref _ a qa =>
          have hlt : m < b1.length := (List.getElem?_eq_some_iff.mp qa).1
          have hpre : b1.take (h.length + 1) <+: b1 := List.take_prefix _ _
          have hbl : (b1.take (h.length + 1)).length = h.length + 1 := by rw [List.length_take]; omega
          have hbs : bs <+: b1.take (h.length + 1) := by
            obtain ⟨t, rfl⟩ := e1.pre
            rw [List.take_append, List.take_of_length_le (l := bs) (by omega)]
            exact List.prefix_append _ _
          refine o (b1.take (h.length + 1)) H1 _ ⟨hbs, e1.keep, fun z hz => e1.new z (hpre.subset hz)⟩ (r1.cut hpre hbl.symm) (.ref ?_)
          rw [List.getElem?_take_of_lt (by omega)]
          exact qa
      · rw [if_neg hm] at o; exact o.elim
    | _ => exact o.elim
  | ex c f env h' =>
    rw [q] at o
    exact fun b1 H1 σ cls d e1 r1 _ x1 => o bs H1 cls d e1.cut (r1.cut e1.pre hn) (x1.less fun a z => e1.pre.subset z)
  | bk env h' => rw [q] at o; exact o.elim
  | ct env h' => rw [q] at o; exact o.elim
  | bad => rw [q] at o; exact o.elim
theorem rv_strC {K : PySem.W.Frag} {mg : Str → Option Value} {bs : List Addr} {H : Hp} {x : Str} {l : List Nat} (h : x.cps.toList = l) : RV K mg bs H (.str l) (.str x) := by
  rw [str_back h]; exact .str l
theorem sm_retN {X : Cx} {W : WX} {pos : Pos} : SM X W (.Return none pos) (ret (cst .non)) := PS.imp ps_retN fun D σ H ⟨env, bs, h, er, rp, o⟩ => o bs H .non (Ext.refl _ _) rp .non
/-- what is never known to be called -/
theorem fnc_bad {P : Program} {w : World} {K : PySem.W.Frag} {mg : Str → Option Value} {base : Heap} {x : Str} {n k : Nat} {f : Addr} {fd : FuncData} {ps : List Str} (hp : ps.length = n) (hm : mg x = some (.ref f)) (kp : PySem.W.keepIn K (.ref f) = true) (b : Binds K fd ps []) : Fnc P w K mg base x n k (fun _ _ => .bad) :=
  ⟨f, fd, ps, hp, hm, kp, b, ⟨fun vs H Q E h => by rw [h.1]; exact hp.symm, fun A outer s H args us vs Q E hr he hb hv hs => by obtain ⟨_, _, _, _, _, _, o⟩ := hs; exact o.elim⟩⟩
end Sm

namespace Sm
open PySem PySem.Spec PyProof.Rows L2 He
/-! ### what the top leaves, looked at once -/
/-- a property of a class: the property object, its getter -/
def prAd (K : PySem.W.Frag) (c f : Str) : Addr := match PySem.W.findIn K (.ref (ga K c)) f with
  | some (some (.ref p)) => p
  | _ => 0
def ptAd (K : PySem.W.Frag) (c f : Str) : Addr := match PySem.W.recIn K (prAd K c f) "property" with
  | some (.ref g :: _) => g
  | _ => 0
inductive Fx where
  | fa (f : Fa)
  | tup (x : Str) (vs : List Dv)
  | prop (c f : Str)
  | exm (e : Nat)
  | nol
/-- the error c is not there, or is found under e just if it is e -/
def ExmB (K : PySem.W.Frag) (e c : Nat) : Bool := (Fa.free (ename c)).ok K || ((Fa.glo (ename c)).ok K && (Fa.exm (ename c) (ename e) (c == e)).ok K)
def ktB (K : PySem.W.Frag) (x : Str) (vs : List Dv) : Bool := match K.lookup (ga K x) with
  | some ⟨.type c, none, .seq its _, _⟩ => decide (c = "tuple") && (decide (its.size ≤ sizeLine) && relAll (vs.map (Dv.v K)) its.toList)
  | _ => false
def Fx.ok (K : PySem.W.Frag) : Fx → Bool
  | .fa f => f.ok K
  | .tup x vs => (Fa.glo x).ok K && ktB K x vs
  | .prop c f => eqO (PySem.W.findIn K (.ref (ga K c)) f) (some (some (.ref (prAd K c f)))) && (eqO (PySem.W.specialIn K (.ref (prAd K c f)) "__get__") (some (some (.builtin "property.__get__"))) &&
      (decide (PySem.W.takesIn K (.ref (prAd K c f)) = some true) && (match PySem.W.recIn K (prAd K c f) "property" with
      | some (.ref g :: _) => true
      | _ => false)))
  | .exm e => (Fa.glo (ename e)).ok K && (List.range 15).all fun c => ExmB K e c
  | .nol => K.all fun q => !decide (q.2.cls = .type "list")
theorem prop_ok {K : PySem.W.Frag} {c f : Str} (h : (Fx.prop c f).ok K = true) : PropOf K (ga K c) f (prAd K c f) (ptAd K c f) := by
  obtain ⟨h1, h⟩ := ba h
  obtain ⟨h2, h⟩ := ba h
  obtain ⟨h3, h4⟩ := ba h
  refine ⟨eqO_ok h1, eqO_ok h2, of_decide_eq_true h3, ?_⟩
  unfold ptAd
  split at h4
  · rename_i g r q
    rw [q]
    exact ⟨_, rfl⟩
  · cases h4
theorem ktB_ok {K : PySem.W.Frag} {x : Str} {vs : List Dv} (h : ktB K x vs = true) : KT K (ga K x) (vs.map (Dv.v K)) := by
  unfold ktB at h
  cases q : K.lookup (ga K x) with
  | none =>
    rw [q] at h
    cases h
  | some o =>
    obtain ⟨oc, od, dt, osl⟩ := o
    rw [q] at h
    cases oc with
    | type c =>
      cases od with
      | none =>
        cases dt with
        | seq its n =>
          obtain ⟨h1, h2⟩ := ba (show (decide (c = "tuple") && (decide (its.size ≤ sizeLine) && relAll (vs.map (Dv.v K)) its.toList)) = true from h)
          obtain ⟨h3, h4⟩ := ba h2
          exact ⟨_, its, n, q, congrArg Value.type (of_decide_eq_true h1), rfl, rfl, of_decide_eq_true h3, relAll_ok h4⟩
        | _ => cases h
      | some a => cases dt <;> cases h
    | _ => cases od <;> cases dt <;> cases h
/-! ### defs, properties' getters too -/
structure Df where
  ad : PySem.W.Frag → Addr
  name : Str
  qual : Str
  params : Arguments
  body : List Stmt
  scope : Scope
  dfl : List Dv := []
def fnA (K : PySem.W.Frag) (a : Addr) : FnW := match K.lookup a with
  | some ⟨_, _, .func fd, _⟩ => some (fd.name, fd.qualname, fd.params, fd.body, fd.scope, fd.globals, fd.closure, fd.builtins)
  | _ => none
def Df.val (d : Df) : FnW := some (d.name, d.qual, d.params, .stmts d.body, d.scope, mainGlobals, [], builtinsNs)
def Df.ok (K : PySem.W.Frag) (d : Df) : Bool := PySem.W.keepIn K (.ref (d.ad K)) && (match K.lookup (d.ad K) with
  | some ⟨_, _, .func fd, _⟩ => PySem.W.codeIn K fd.code d.qual && dflB K fd.defaults (d.dfl.map (Dv.v K))
  | _ => false)
theorem Df.funD {K : PySem.W.Frag} {d : Df} (e : fnA K (d.ad K) = d.val) (c : d.ok K = true) : ∃ fd, FunD K d.name d.qual d.params d.body d.scope (d.dfl.map (Dv.v K)) [] (d.ad K) fd := by
  obtain ⟨kp, c2⟩ := ba c
  unfold fnA at e
  cases q : K.lookup (d.ad K) with
  | none =>
    rw [q] at c2
    cases c2
  | some o =>
    obtain ⟨oc, od, dt, osl⟩ := o
    rw [q] at c2 e
    cases dt with
    | func fd =>
      obtain ⟨n1, n2, n3, n4, n5, n6, n7, n8, n9, n10, n11, n12, n13, n14, n15⟩ := fd
      have e2 : (some (n1, n2, n3, n4, n5, n6, n7, n15) : FnW) = some (d.name, d.qual, d.params, .stmts d.body, d.scope, mainGlobals, [], builtinsNs) := e
      simp only [Option.some.injEq, Prod.mk.injEq] at e2
      obtain ⟨h1, h2, h3, h4, h5, h6, h7, h8⟩ := e2
      subst h1 h2 h3 h4 h5 h6 h7 h8
      obtain ⟨k1, k3⟩ := ba (show (PySem.W.codeIn K n13 d.qual && dflB K n8 (d.dfl.map (Dv.v K))) = true from c2)
      exact ⟨_, ⟨oc, od, n8, n9, n10, n11, n12, n13, n14, osl, rfl, q, k1, dflB_ok k3, .inl rfl⟩, kp⟩
    | _ => cases c2
/-! ### the Hook -/
def obF (fx : List Fx) (fn : List Df) (K : PySem.W.Frag) : AlD := ((fx.all fun f => f.ok K) && fn.all fun d => d.ok K, fn.map fun d => fnA K (d.ad K))
def vaF (fn : List Df) : AlD := (true, fn.map Df.val)
def SaysF (fx : List Fx) (fn : List Df) (K : PySem.W.Frag) : Prop := obF fx fn K = vaF fn
def noL (g : Addr → Option Obj) (a : Addr) : Bool := match g a with
  | some o => !decide (o.cls = .type "list")
  | none => false
def obFG (n : Nat) (fx : List Fx) (fn : List Df) (g : Addr → Option Obj) : AlD := obF fx fn (frG g ((asD g n).filter (noL g)))
def hookF (n : Nat) (fx : List Fx) (fn : List Df) : PySem.W.Hook where
  α := AlD
  obs := fun s => obFG n fx fn s.heap.get?
  val := fun _ => vaF fn
  says := fun _ h => ∃ K : PySem.W.Frag, K.In h ∧ SaysF fx fn K
  of := fun _ _ e => ⟨_, frG_in, e⟩
  keeps := fun _ _ _ ⟨K, hK, c⟩ k => ⟨K, PySem.W.Frag.In.keeps hK k, c⟩
theorem obFG_eq {n : Nat} {fx : List Fx} {fn : List Df} {g : Addr → Option Obj} {s : Shared} (h : ∀ a, g a = s.heap.get? a) : obFG n fx fn g = (hookF n fx fn).obs s := by
  have e : g = s.heap.get? := funext h
  rw [e] <;> rfl
section
variable {fx : List Fx} {fn : List Df} {K : PySem.W.Frag}
theorem SaysF.fact (c : SaysF fx fn K) (i : Nat) {f : Fx} (h : fx[i]? = some f := by rfl) : f.ok K = true := by
  have c1 := (ba (show ((fx.all fun f => f.ok K) && fn.all fun d => d.ok K) = true from congrArg (fun z : AlD => z.1) c)).1
  exact List.all_eq_true.mp c1 f (List.mem_of_getElem? h)
theorem SaysF.def_ (c : SaysF fx fn K) (i : Nat) {d : Df} (h : fn[i]? = some d := by rfl) : ∃ fd, FunD K d.name d.qual d.params d.body d.scope (d.dfl.map (Dv.v K)) [] (d.ad K) fd := by
  have c2 := (ba (show ((fx.all fun f => f.ok K) && fn.all fun d => d.ok K) = true from congrArg (fun z : AlD => z.1) c)).2
  have e : fn.map (fun d => fnA K (d.ad K)) = fn.map Df.val := congrArg (fun z : AlD => z.2) c
  have e2 : (fn.map fun d => fnA K (d.ad K))[i]? = (fn.map Df.val)[i]? := by rw [e]
  rw [List.getElem?_map, List.getElem?_map, h] at e2
  exact Df.funD (Option.some.inj e2) (List.all_eq_true.mp c2 d (List.mem_of_getElem? h))
end
/-! ### facts for the layer -/
section
variable {K : PySem.W.Frag} {h : Heap} {mg : Str → Option Value}
theorem gc_int (X : K.In h) (G : h.Ns mainGlobals mg) {x : Str} {i : Int} (c : (Fx.fa (.int x i)).ok K = true) : Gc K mg x (.int i) := by
  obtain ⟨t, e⟩ := int_ok X G c
  exact ⟨_, .int i, e, ⟨t, rfl⟩, fun _ _ => .int i⟩
theorem gc_str (X : K.In h) (G : h.Ns mainGlobals mg) {x z : Str} {l : List Nat} (hl : (⟨l.toArray⟩ : Str) = z) (c : (Fx.fa (.str x z)).ok K = true) : Gc K mg x (.str l) := by
  obtain ⟨t, e⟩ := str_ok X G c
  subst hl
  exact ⟨_, .str ⟨l.toArray⟩, e, ⟨t, rfl⟩, fun _ _ => .str l⟩
theorem gc_tup (X : K.In h) (G : h.Ns mainGlobals mg) {x : Str} {vs : List Dv} {xs : List PV} (hv : ∀ bs H, RVs K mg bs H xs (vs.map (Dv.v K))) (c : (Fx.tup x vs).ok K = true) : Gc K mg x (.tup xs) := by
  obtain ⟨c1, c2⟩ := ba c
  exact ⟨_, .ref (ga K x), glo_ok X G c1, rfl, fun bs H => .tup (.inr (ktB_ok c2)) (hv bs H)⟩
theorem excF_of (X : K.In h) (G : h.Ns mainGlobals mg) {c : Nat} (g : (Fx.fa (.glo (ename c))).ok K = true) (x : (Fx.fa (.exc (ename c))).ok K = true) : ExcF K mg c := by
  obtain ⟨h1, h2, h3, h4⟩ := exc_ok x
  exact ⟨_, glo_ok X G g, h1, h2, h3, h4⟩
theorem exmF_of (X : K.In h) (G : h.Ns mainGlobals mg) {e : Nat} (x : (Fx.exm e).ok K = true) : ExmF K mg e := by
  obtain ⟨g, x⟩ := ba (show ((Fa.glo (ename e)).ok K && (List.range 15).all fun c => ExmB K e c) = true from x)
  refine ⟨_, glo_ok X G g, fun c C hc mC => ?_⟩
  rcases Bool.or_eq_true_iff.mp (List.all_eq_true.mp x c (List.mem_range.mpr hc)) with a | a
  · rw [free_ok X G a] at mC; cases mC
  · obtain ⟨a1, a2⟩ := ba a
    rw [glo_ok X G a1] at mC
    cases mC
    exact exm_ok a2
theorem lk_mem {a : Addr} {o : Obj} : ∀ {l : List (Addr × Obj)}, l.lookup a = some o → (a, o) ∈ l
  | [], e => nomatch e
  | (b, p) :: r, e => by
    unfold List.lookup at e
    cases q : (a == b) with
    | true =>
      rw [q] at e
      have e1 : p = o := Option.some.inj e
      rw [e1, beq_iff_eq.mp q]
      exact List.mem_cons_self ..
    | false =>
      rw [q] at e
      exact List.mem_cons_of_mem _ (lk_mem e)
theorem nol_ok (c : Fx.nol.ok K = true) {a : Addr} {o : Obj} (e : K.lookup a = some o) : o.cls ≠ .type "list" := by
  have z := List.all_eq_true.mp (show (K.all fun q => !decide (q.2.cls = .type "list")) = true from c) _ (lk_mem e)
  intro hq
  simp [hq] at z
/-- the script, by value -/
theorem rvs_ints' {bs : List Addr} {H : Hp} : ∀ ns : List Int, RVs K mg bs H (ns.map PV.int) (ns.map V.int)
  | [] => .nil
  | n :: r => .cons (.int n) (rvs_ints' r)
theorem pur_ints' : ∀ ns : List Int, purL (ns.map PV.int) = true
  | [] => rfl
  | n :: r => pur_ints' r
theorem sp_law (c : Fx.nol.ok K = true) {m : List PV → M PV} {n : Nat} (law : ∀ ns : List Int, ns.length ≤ n → ∃ hp, m [.scr (ns.map .int)] [] = .ok (.bl true) hp) (H : Hp) (a : Addr) (ns : List Int) (hl : ns.length ≤ n) (hO : Only H) (hS : SqL K H a (ns.map V.int)) :
    spM K mg 1 m [.ref a] H (fun v _ => v = .bl true) fun _ _ _ => False := by
  refine ⟨rfl, [], [], [.scr (ns.map .int)], ⟨rfl, List.nodup_nil, fun n o z => (by simp at z)⟩, .cons ?_ .nil, ?_⟩
  · rcases hS with h1 | ⟨o, its, n, lk, hc, _⟩
    · rcases hO a with h2 | ⟨o, xs, h2⟩
      · rcases h1 with h1 | ⟨o, h1⟩ <;> (rw [h2] at h1; cases h1)
      · rcases h1 with h1 | ⟨o', h1⟩
        · rw [h2] at h1; cases h1
        · exact .scr h1 (List.not_mem_nil) (pur_ints' ns) (rvs_ints' ns)
    · exact absurd hc (nol_ok c lk)
  · obtain ⟨hp, e⟩ := law ns hl
    rw [e]
    intro bs' H' v _ _ rv
    cases rv
    rfl
theorem cx_no {P : Program} {w : World} (H : Hp) (s : Shared) (e : Value) (s' : Shared) (c : L2.CX P w [] H s (fun _ _ _ => False) e s') : False := by
  obtain ⟨_, _, _, _, _, _, _, _, _, _, _, _, f⟩ := c
  exact f
end
/-- L2.walk_ofE for a def that an exception may leave -/
theorem walk_ofW {l : PySem.W.OpenLaw} {n k : Nat} {q : Program} {loose : List Str} {XP : (Str → Option Value) → Heap → Prop} {YP : World → Heap → Prop} {d : DefRec} {x : Str}
    (hn : l.most = some n) (hn2 : n ≤ sizeLine) (hdf : d.params.defaults = []) (hr : Room k callerA)
    (F : ∀ (w : World) (mg : Str → Option Value) (fa : Addr) (h : Heap), YP w h → h.Ns mainGlobals mg → mg d.name = some (.ref fa) →
      ∃ (K : PySem.W.Frag) (fd : FuncData) (sp : Sp), K.In h ∧ (∀ (s : Shared) (u : Value), BindsTo s fd ⟨[u], []⟩ [(x, u)]) ∧
        (∀ (H : Hp) (a : Addr) (ns : List Int), ns.length ≤ n → Only H → SqL K H a (ns.map V.int) → sp [.ref a] H (fun v _ => v = .bl true) fun _ _ _ => False) ∧
        ∀ base : Heap, K.In base → base.Ns mainGlobals mg → FnOk l.prog w K mg base (L2.CX l.prog w) k fa fd [x] sp) :
    PySem.W.WalkO q loose XP YP l.row.toRowW d [] (fun f vs => PySem.call f vs) := by
  refine Att.attach_call hn hdf fun w s₀ s₁ mg mb fa o pm cd doc a vs ns G Y ho hd hcd hmg hobj hints hlen hg => ?_
  obtain ⟨K, fd, sp, KX, hb, hsp, hF⟩ := F w mg fa _ Y G.T.g hmg
  exact law_call KX G.T.g G.T.b G.T.builtins G.T.nolimit hg hobj hints (Nat.le_trans hlen hn2) hr hF hb (fun H hO hS => hsp H a ns hlen hO hS) fun H e s' => cx_no H s₁ e s'
end Sm

namespace Sm
open PySem PySem.Spec PyProof.Rows L2
/-! ### len of an instance with an own __len__ -/
def lnB (n : Int) : Bool := decide (0 ≤ n) && decide (n < 9223372036854775808)
theorem lnB_ok {n : Int} (h : lnB n = true) : 0 ≤ n ∧ n < 2 ^ 63 := by
  unfold lnB at h
  rw [Bool.and_eq_true] at h
  have h1 := of_decide_eq_true h.1
  have h2 := of_decide_eq_true h.2
  have : (2 : Int) ^ 63 = 9223372036854775808 := by decide
  exact ⟨h1, by rw [this]; exact h2⟩
def lenO (c : Nat) (mf : List PV → M PV) : List PV → M PV
  | [x] => fun h => match insAt h x with
    | some (d, _) => if d = c then (mf [x] h).nbind fun v h2 => (match v with
      | .int n => (match lnB n with
        | true => .ok (.int n) h2
        | false => .bad)
      | _ => .bad) else .bad
    | none => .bad
  | _ => fun _ => .bad
theorem c_lenO {X : Cx} {c k j : Nat} {mf : List PV → M PV} (M : Mth X.prog X.w X.K X.mg X.base c "__len__" 1 k mf) (hr : Room j X.A) (hj : k + 1 ≤ j) : CallS X (.builtin "len") (lenO c mf) := by
  obtain ⟨C, g, fd, ps, mC, cl, hm, hnf, hbi, F⟩ := M
  refine ⟨fun xs H Q => ∃ a dx fs, xs = [.ref a] ∧ H a = some (.ins C dx fs) ∧ spM X.K X.mg 1 mf [.ref a] H (fun v H' => ∃ n : Int, v = .int n ∧ 0 ≤ n ∧ n < 2 ^ 63 ∧ Q (.int n) H') E0, ?_, ?_⟩
  · intro pins s σ H xs us Q I r h
    obtain ⟨a, dx, fs, rfl, ha, sp⟩ := h
    obtain ⟨u, rfl, ru⟩ := vals1 r
    obtain rfl : u = Value.ref a := ru
    obtain ⟨mA, O, _, _, _, _⟩ := ins_get I.hok ha
    obtain ⟨od, J, _⟩ := O.look
    obtain ⟨m, hF⟩ := I.fr
    have hl : ([Value.ref a] ++ []).length = ps.length := by
      rw [← F.len _ _ _ _ sp]; rfl
    refine PySem.W.len_K hF I.ok.mod.kin J hm.at_ hm.fn (wpAny_call ?_)
    refine codeAny_mono (F.run X.A.in1 X.stack s H ⟨[.ref a], []⟩ [.ref a] [.ref a] _ E0 (hr.mono hj).in1 I.env0.in1 (by simpa using hbi s [.ref a] I.kIn (by simpa using hl)) (.cons rfl .nil) sp) fun r s' hq => ?_
    cases r with
    | error er => exact passL pins σ H s er s' I hq
    | ok fl =>
      cases fl with
      | ret u =>
        obtain ⟨v, H', I3, rv, n, rfl, h0, h1, q3⟩ := I.after hq
        obtain ⟨t, rfl⟩ := rv
        exact ⟨⟨h0, h1⟩, .int n, H', I3.tok _, ⟨_, rfl⟩, q3⟩
      | next => exact False.elim hq
      | brk => exact False.elim hq
      | cont => exact False.elim hq
  · intro W bs h H xs vs Q rp rx o
    match xs, vs, rx, o with
    | [], _, _, o => exact o.elim
    | x :: y :: t, _, _, o => exact o.elim
    | [x], [v], .cons r .nil, o =>
      unfold lenO at o
      cases ei : insAt h x with
      | none => simp only [ei] at o; exact o.elim
      | some dx =>
        obtain ⟨d, xs⟩ := dx
        simp only [ei] at o
        obtain ⟨a, C', dx, vs, rfl, mC', ha, hl2, rs⟩ := insAt_ok rp r ei
        by_cases hd : d = c
        · subst hd
          rw [mC] at mC'
          cases mC'
          rw [if_pos rfl] at o
          refine ⟨a, dx, _, rfl, ha, rfl, bs, h, [x], rp, .cons r .nil, ?_⟩
          cases q : mf [x] h with
          | bad => rw [q] at o; exact o
          | ex _ _ _ => rw [q] at o; exact o.elim
          | ok y h2 =>
            rw [q] at o
            intro b2 H2 w e2 r2 rw2
            cases y with
            | int n =>
              have o' : Out X.K X.mg (RV X.K X.mg) W bs H (match lnB n with
                | true => .ok (.int n) h2
                | false => .bad) Q := o
              cases hn : lnB n with
              | true =>
                rw [hn] at o'
                cases rw2
                exact ⟨n, rfl, (lnB_ok hn).1, (lnB_ok hn).2, o' b2 H2 _ e2 r2 (.int n)⟩
              | false => rw [hn] at o'; exact o'.elim
            | _ => exact o.elim
        · rw [if_neg hd] at o; exact o.elim
end Sm

namespace Sm
open PySem PySem.Spec PyProof.Rows L2
/-! ### plain evaluation by simp: heads first -/
def sb (s : S) (n : MS) : S := match s with
  | .nx env h => n env h
  | r => r
def vb (b : Option (Option PV)) (h : HP) : R PV := match b with
  | some (some v) => .ok v h
  | _ => .bad
def fin (n : Nat) (s : S) : R PV := match s with
  | .nx _ h' => .ok .non (h'.take n)
  | .rt v h' => .ok (frz n h' v) (h'.take n)
  | .ex c f _ h' => .ex c f (h'.take n)
  | _ => .bad
def bfi {α : Type} (b : Bool) (x y : α) : α := match b with
  | true => x
  | false => y
theorem bfi_t {α : Type} {x y : α} : bfi true x y = x := id rfl
theorem bfi_f {α : Type} {x y : α} : bfi false x y = y := id rfl
section
variable {α β : Type} {x y z v : PV} {h h1 : HP} {env : En} {a : α} {ma mb mc : ME PV} {ms : ME (List PV)} {ta tb : ME Bool} {m n : MS} {i j : Int} {b : Bool}
theorem v_bind_ok {f : α → HP → R β} : (R.ok a h).bind f = f a h := id rfl
theorem v_bind_ex {f : α → HP → R β} {c e} : (R.ex c e h : R α).bind f = .ex c e h := id rfl
theorem v_bind_bad {f : α → HP → R β} : (R.bad : R α).bind f = .bad := id rfl
theorem v_nbind_ok {f : α → HP → R β} : (R.ok a h).nbind f = f a h := id rfl
theorem v_toS_ok {f : α → HP → S} : (R.ok a h).toS env f = f a h := id rfl
theorem v_toS_ex {f : α → HP → S} {c e} : (R.ex c e h : R α).toS env f = .ex c e env h := id rfl
theorem v_toS_bad {f : α → HP → S} : (R.bad : R α).toS env f = .bad := id rfl
theorem v_sb_nx : sb (.nx env h) n = n env h := id rfl
theorem v_sb_rt : sb (.rt v h) n = .rt v h := id rfl
theorem v_sb_ex {c f} : sb (.ex c f env h) n = .ex c f env h := id rfl
theorem v_sb_bk : sb (.bk env h) n = .bk env h := id rfl
theorem v_sb_ct : sb (.ct env h) n = .ct env h := id rfl
theorem v_seq : seq m n env h = sb (m env h) n := by unfold seq sb; cases m env h <;> rfl
theorem v_var {i : Nat} : var i env h = vb env[i]? h := by unfold var vb; rfl
theorem v_vb : vb (some (some v)) h = .ok v h := id rfl
theorem v_cst : cst v env h = .ok v h := id rfl
theorem v_bin {f : PV → PV → M PV} : bin ma mb f env h = (ma env h).bind fun x h1 => (mb env h1).bind fun y h2 => f x y h2 := id rfl
theorem v_un {f : PV → M PV} : un ma f env h = (ma env h).bind fun x h1 => f x h1 := id rfl
theorem v_app {f : List PV → M PV} : app ms f env h = (ms env h).bind f := id rfl
theorem v_nil : aNil env h = .ok [] h := id rfl
theorem v_cons : aCons ma ms env h = (ma env h).bind fun x h1 => (ms env h1).bind fun xs h2 => .ok (x :: xs) h2 := id rfl
theorem v_tst : tst ma env h = (ma env h).bind isB := id rfl
theorem v_isB : isB (.bl b) h = .ok b h := id rfl
theorem v_bV : bV ta env h = (ta env h).bind fun b h1 => .ok (.bl b) h1 := id rfl
theorem v_and : andT ta tb env h = (ta env h).bind fun b h1 => bfi b (tb env h1) (.ok false h1) := by unfold andT bfi; congr
theorem v_or : orT ta tb env h = (ta env h).bind fun b h1 => bfi b (.ok true h1) (tb env h1) := by unfold orT bfi; congr
theorem v_not : notT ta env h = (ta env h).bind fun b h1 => .ok (!b) h1 := id rfl
theorem v_ite {m n : ME α} : iteT ta m n env h = (ta env h).bind fun b h1 => bfi b (m env h1) (n env h1) := by unfold iteT bfi; congr
def bx (x : PV) (f : Bool → R PV) : R PV := match x with
  | .bl b => f b
  | _ => .bad
theorem v_bx {f : Bool → R PV} : bx (.bl b) f = f b := id rfl
theorem v_andV : andV ma mb env h = (ma env h).bind fun x h1 => bx x fun b => bfi b (mb env h1) (.ok (.bl false) h1) := by
  unfold andV bx bfi; congr; funext x h1; cases x <;> first | rfl | skip
  rename_i b; cases b <;> rfl
theorem v_orV : orV ma mb env h = (ma env h).bind fun x h1 => bx x fun b => bfi b (.ok (.bl true) h1) (mb env h1) := by
  unfold orV bx bfi; congr; funext x h1; cases x <;> first | rfl | skip
  rename_i b; cases b <;> rfl
theorem v_notV : notV ma env h = (ma env h).bind fun x h1 => bx x fun b => .ok (.bl (!b)) h1 := by
  unfold notV bx; congr
theorem v_chn {f f' : PV → PV → M PV} : chn ma mb mc f f' env h = (ma env h).bind fun x h1 => (mb env h1).bind fun y h2 => (f x y h2).bind fun z h3 => bx z fun b => bfi b ((mc env h3).bind fun w h4 => f' y w h4) (.ok (.bl false) h3) := by
  unfold chn bx bfi; congr; funext x h1; congr; funext y h2; congr; funext z h3; cases z <;> first | rfl | skip
  rename_i b; cases b <;> rfl
theorem v_skip : skip env h = .nx env h := id rfl
theorem v_drop : drop ma env h = (ma env h).toS env fun _ h1 => .nx env h1 := id rfl
theorem v_ret : ret ma env h = (ma env h).toS env fun v h1 => .rt v h1 := id rfl
theorem v_if : ifS ta m n env h = (ta env h).toS env fun b h1 => bfi b (m env h1) (n env h1) := by unfold ifS bfi; congr
theorem v_set {k : Nat} : set k ma env h = (ma env h).toS env fun v h1 => .nx (env.set k (some v)) h1 := id rfl
theorem v_asg {g : PV → ME En} : asg ma g env h = (ma env h).toS env fun v h1 => (g v env h1).toS env fun env1 h2 => .nx env1 h2 := id rfl
theorem v_gN {k : Nat} : gN k x env h = .ok (env.set k (some x)) h := id rfl
theorem v_callF {nN : Nat} {xs : List PV} : callF nN m xs h = fin h.length (m (xs.map some ++ List.replicate (nN - xs.length) none) h) := by
  unfold callF fin; cases m (xs.map some ++ List.replicate (nN - xs.length) none) h <;> rfl
theorem v_fin_nx {k : Nat} : fin k (.nx env h) = .ok .non (h.take k) := id rfl
theorem v_fin_rt {k : Nat} : fin k (.rt v h) = .ok (frz k h v) (h.take k) := id rfl
theorem v_fin_ex {k : Nat} {c f} : fin k (.ex c f env h) = .ex c f (h.take k) := id rfl
theorem v_frz_int {k : Nat} : frz k h (.int i) = .int i := id rfl
theorem v_frz_bl {k : Nat} : frz k h (.bl b) = .bl b := id rfl
theorem v_frz_non {k : Nat} : frz k h .non = .non := id rfl
theorem v_frz_str {k : Nat} {s} : frz k h (.str s) = .str s := id rfl
theorem v_frz_lst {k : Nat} {s} : frz k h (.lst s) = .lst s := id rfl
theorem v_frz_ins {k : Nat} {c s} : frz k h (.ins c s) = .ins c s := id rfl
theorem v_frz_tup {k : Nat} {s} : frz k h (.tup s) = .tup (frzL k h s) := id rfl
theorem v_frzL_nil {k : Nat} : frzL k h [] = [] := id rfl
theorem v_frzL_cons {k : Nat} {s} : frzL k h (x :: s) = frz k h x :: frzL k h s := id rfl
theorem v_forS {mi : ME (List PV)} {g : PV → ME En} : forS mi g m env h = (mi env h).toS env fun items h1 => forGo g m items env h1 := id rfl
theorem v_iApp {f : List PV → M (List PV)} : iApp ms f env h = (ms env h).bind f := id rfl
theorem v_sub : subM (.int i) (.int j) h = .ok (.int (i - j)) h := id rfl
theorem v_add : addM (.int i) (.int j) h = .ok (.int (i + j)) h := id rfl
theorem v_addS {s t : List Nat} (q : s.length + t.length ≤ lim) : addM (.str s) (.str t) h = .ok (.str (s ++ t)) h := by simp [addM, q]
theorem v_mul (q : mulB i j = true) : mulM (.int i) (.int j) h = .ok (.int (i * j)) h := by simp only [mulM, q]
theorem v_mod (q : 0 < j) : modM (.int i) (.int j) h = .ok (.int (i % j)) h := by unfold modM i2c modB; simp only [q, decide_true]
theorem v_fdiv (q : 0 < j) (q2 : j < 18446744073709551616) : fdivM (.int i) (.int j) h = .ok (.int (i / j)) h := by unfold fdivM i2c divB; simp only [q, q2, decide_true, Bool.and_self]
theorem v_lt : ltM (.int i) (.int j) h = .ok (.bl (decide (i < j))) h := id rfl
theorem v_le : leM (.int i) (.int j) h = .ok (.bl (decide (i ≤ j))) h := id rfl
theorem v_gt : gtM (.int i) (.int j) h = .ok (.bl (decide (j < i))) h := id rfl
theorem v_ge : geM (.int i) (.int j) h = .ok (.bl (decide (j ≤ i))) h := id rfl
theorem v_eq : eqM (.int i) (.int j) h = .ok (.bl (i == j)) h := id rfl
theorem v_ne : neM (.int i) (.int j) h = .ok (.bl (!(i == j))) h := id rfl
theorem v_abs : absM [.int i] h = .ok (.int (if i < 0 then -i else i)) h := id rfl
theorem v_int : intM [.int i] h = .ok (.int i) h := id rfl
end
end Sm

namespace Sm
open PySem PySem.Spec PyProof.Rows L2
/-! ### comprehensions whose parts leave the heap as it is -/
theorem seq_assoc (a b c : MS) : seq (seq a b) c = seq a (seq b c) := by
  funext env h
  simp only [v_seq]
  cases a env h <;> rfl
theorem at_end (h : HP) (x : PV) : (h ++ [x])[h.length]? = some x := by simp
theorem take_end (h : HP) (x : PV) : (h ++ [x]).take h.length = h := by simp
theorem lc_gN {i : Nat} {tt : ME Bool} {te : ME PV} {env : En} (p : PV → Bool) (f : PV → PV) : ∀ (items acc : List PV) (h : HP), (∀ x ∈ items, ∀ a, tt (env.set i (some x)) (h ++ [.lst a]) = .ok (p x) (h ++ [.lst a])) →
    (∀ x ∈ items, p x = true → (∀ a, te (env.set i (some x)) (h ++ [.lst a]) = .ok (f x) (h ++ [.lst a])) ∧ pur (f x) = true) → acc.length + items.length ≤ lim → lcGo (gN i) tt te env items acc h = .ok (acc ++ (items.filter p).map f) h
  | [], acc, h, _, _, _ => by simp [lcGo]
  | x :: xs, acc, h, ht, hf, hl => by
    have hl1 : acc.length + (xs.length + 1) ≤ lim := hl
    have hx := ht x (List.mem_cons_self ..) acc
    have h0 : acc.length < lim := by omega
    cases hp : p x with
    | true =>
      obtain ⟨h1, h2⟩ := hf x (List.mem_cons_self ..) hp
      have ih := lc_gN p f xs (acc ++ [f x]) h (fun y hy => ht y (List.mem_cons_of_mem _ hy)) (fun y hy => hf y (List.mem_cons_of_mem _ hy)) (by simp; omega)
      simp only [lcGo, v_gN, v_nbind_ok, hx, hp, h1, h2, at_end, take_end, h0, and_self, if_true, ih, List.filter_cons, List.map_cons, List.append_assoc, List.cons_append, List.nil_append]
    | false =>
      have ih := lc_gN p f xs acc h (fun y hy => ht y (List.mem_cons_of_mem _ hy)) (fun y hy => hf y (List.mem_cons_of_mem _ hy)) (by omega)
      simp only [lcGo, v_gN, v_nbind_ok, hx, hp, at_end, take_end, ih, List.filter_cons, if_false]
      rfl
/-- one with no if -/
theorem lc_map {i : Nat} {te : ME PV} {env : En} (f : PV → PV) (items : List PV) (h : HP) (hf : ∀ x ∈ items, (∀ a, te (env.set i (some x)) (h ++ [.lst a]) = .ok (f x) (h ++ [.lst a])) ∧ pur (f x) = true) (hl : items.length ≤ lim) :
    lcGo (gN i) yes te env items [] h = .ok (items.map f) h := by
  have := lc_gN (i := i) (tt := yes) (te := te) (env := env) (fun _ => true) f items [] h (fun _ _ _ => rfl) (fun x hx _ => hf x hx) (by simpa using hl)
  have ft : items.filter (fun _ => true) = items := List.filter_eq_self.mpr fun _ _ => rfl
  rw [ft, List.nil_append] at this
  exact this
theorem ints_map (ns : List Int) : intsOf (ns.map PV.int) = some ns := by
  induction ns with
  | nil => rfl
  | cons n r ih => simp only [List.map_cons, intsOf, ih]
theorem bools_map {α : Type} (p : α → Bool) (ns : List α) : boolsOf (ns.map fun x => PV.bl (p x)) = some (ns.map p) := by
  induction ns with
  | nil => rfl
  | cons n r ih => simp only [List.map_cons, boolsOf, ih]
theorem purL_ints (ns : List Int) : purL (ns.map PV.int) = true := by
  induction ns with
  | nil => rfl
  | cons n r ih => simp only [List.map_cons, purL, pur, ih, Bool.and_self]
end Sm

namespace Sm
open PySem PySem.Spec PyProof.Rows L2
def m_is_integer : List PV → M PV := callF 1
    (ret (andV (isi 2 (var 0)) (notV (isi 1 (var 0)))))
def m_is_from : List PV → M PV := callF 3
    (ret (andV (app (aCons (var 0) aNil) m_is_integer) (chn (var 1) (var 0) (var 2) leM leM)))
def m_are_figures : List PV → M PV := callF 3
    (ret (andV (chn (cst (.int 1)) (app (aCons (var 0) aNil) lenM) (var 1) leM leM) (app (aCons (lcV (lcM (iAny (var 0)) (gN 2) yes (bin (var 2) (cst (.str [48, 49, 50, 51, 52, 53, 54, 55, 56, 57])) (inM false)) [2])) aNil) allM)))
def m_is_print : List PV → M PV := callF 4
    (seq (ifS (notT (tst (isi 3 (var 0)))) (ret (cst (.bl false))) skip)
    (seq (set 1 (iteT (tst (bin (slice (var 0) noP (isP (cst (.int 1)))) (cst (.str [45])) eqM)) (slice (var 0) (isP (cst (.int 1))) noP) (var 0)))
    (seq (set 2 (meth (var 1) chkS (aCons (cst (.str [46])) aNil) splM))
    (seq (ifS (orT (tst (bin (app (aCons (var 2) aNil) lenM) (cst (.int 2)) gtM)) (orT (notT (tst (app (aCons (bin (var 2) (cst (.int 0)) ixM) (aCons (cst (.int 4)) aNil)) m_are_figures))) (andT (tst (bin (bin (bin (var 2) (cst (.int 0)) ixM) (cst (.int 0)) ixM) (cst (.str [48])) eqM)) (tst (bin (bin (var 2) (cst (.int 0)) ixM) (cst (.str [48])) neM))))) (ret (cst (.bl false))) skip)
    (seq (ifS (andT (tst (bin (app (aCons (var 2) aNil) lenM) (cst (.int 2)) eqM)) (notT (tst (app (aCons (bin (var 2) (cst (.int 1)) ixM) (aCons (cst (.int 4)) aNil)) m_are_figures)))) (ret (cst (.bl false))) skip)
    (ret (orV (bin (bin (var 0) (cst (.int 0)) ixM) (cst (.str [45])) neM) (app (aCons (lcV (lcM (iAny (var 1)) (gN 3) yes (bin (var 3) (cst (.str [48, 46])) (inM true)) [3])) aNil) anyM))))))))
def m_ten_to : List PV → M PV := callF 3
    (seq (set 1 (cst (.int 1)))
    (seq (forS (iApp (aCons (var 0) aNil) rng1M) (gN 2) (set 1 (bin (var 1) (cst (.int 10)) mulM)))
    (ret (var 1))))
def m_digits_of : List PV → M PV := callF 1
    (ret (iteT (tst (bin (cst (.str [46])) (var 0) (inM false))) (app (aCons (bin (meth (var 0) chkS (aCons (cst (.str [46])) aNil) splM) (cst (.int 1)) ixM) aNil) lenM) (cst (.int 0))))
def m_units_of : List PV → M PV := callF 1
    (ret (app (aCons (repl [46] [] (var 0)) aNil) intM))
def m_is_printed : List PV → M PV := callF 3
    (ret (bin (app (aCons (bin (cst (.int 2)) (bin (bin (var 0) (app (aCons (app (aCons (var 2) aNil) m_digits_of) aNil) m_ten_to) mulM) (bin (app (aCons (var 2) aNil) m_units_of) (var 1) mulM) subM) mulM) aNil) absM) (var 1) leM))
def m_check_scale : List PV → M PV := callF 2
    (ifS (orT (notT (tst (app (aCons (var 0) (aCons (bin (cst (.int 0)) (cst (.int 50)) subM) (aCons (bin (cst (.int 50)) (cst (.int 1)) subM) aNil))) m_is_from))) (notT (tst (app (aCons (var 1) (aCons (bin (var 0) (cst (.int 1)) addM) (aCons (app (aCons (bin (var 0) (cst (.int 11)) addM) (aCons (cst (.int 50)) aNil)) minM) aNil))) m_is_from)))) (rse 0) skip)
def m_check_prints : List PV → M PV := callF 3
    (seq (ifS (notT (tst (app (aCons (var 0) aNil) m_is_print))) never skip)
    (seq (ifS (andT (tst (bin (var 1) (cst .non) notN)) (orT (notT (tst (app (aCons (var 1) aNil) m_is_print))) (tst (bin (app (aCons (var 1) aNil) m_units_of) (cst (.int 0)) ltM)))) never skip)
    (ifS (andT (tst (bin (var 2) (cst .non) notN)) (notT (tst (app (aCons (var 2) aNil) m_is_print)))) never skip)))
def m_check_ends : List PV → M PV := callF 4
    (seq (ifS (andT (tst (bin (var 2) (cst .non) notN)) (notT (tst (app (aCons (var 2) (aCons (var 0) (aCons (var 1) aNil))) m_is_from)))) never skip)
    (ifS (andT (tst (bin (var 3) (cst .non) notN)) (notT (tst (app (aCons (var 3) (aCons (iteT (tst (bin (var 2) (cst .non) isN)) (var 0) (var 2)) (aCons (var 1) aNil))) m_is_from)))) never skip))
def m_ends_of : List PV → M PV := callF 7
    (seq (par2 1 2 (aCons (bin (fld 0 2 (var 0)) (cst (.int 3)) ixM) (aCons (bin (fld 0 2 (var 0)) (cst (.int 4)) ixM) aNil)))
    (seq (set 3 (iteT (tst (bin (var 1) (cst .non) isN)) (bin (fld 0 0 (var 0)) (cst (.int 0)) ixM) (var 1)))
    (seq (set 4 (iteT (tst (bin (var 2) (cst .non) isN)) (bin (fld 0 0 (var 0)) (cst (.int 1)) ixM) (var 2)))
    (seq (set 5 (lcV (lcM (iAny (app (aCons (var 1) (aCons (var 2) aNil)) mkT)) (gN 6) (tst (bin (var 6) (cst .non) notN)) (var 6) [6])))
    (seq (ifS (andT (tst (bin (fld 0 1 (var 0)) (cst (.int 1)) eqM)) (andT (tst (bin (app (aCons (var 5) aNil) lenM) (cst (.int 2)) eqM)) (tst (bin (bin (var 5) (cst (.int 0)) ixM) (bin (var 5) (cst (.int 1)) ixM) eqM)))) (set 5 (slice (var 5) noP (isP (cst (.int 1))))) skip)
    (ret (app (aCons (var 3) (aCons (var 4) (aCons (app (aCons (var 5) aNil) tupleM) aNil))) mkT)))))))
def m_scale_sums : List PV → M PV := callF 5
    (seq (asg (app (aCons (var 0) aNil) m_ends_of) (gT 3 (gsCons (gN 1) (gsCons (gN 2) (gsCons (gN 3) gsNil)))))
    (seq (set 4 (bin (fld 0 1 (var 0)) (app (aCons (var 3) aNil) lenM) subM))
    (seq (ifS (tst (bin (var 4) (cst (.int 0)) ltM)) (ret (cst .non)) skip)
    (ret (app (aCons (bin (app (aCons (app (aCons (var 3) aNil) listM) aNil) sumM) (bin (var 4) (var 1) mulM) addM) (aCons (bin (app (aCons (app (aCons (var 3) aNil) listM) aNil) sumM) (bin (var 4) (var 2) mulM) addM) aNil)) mkT)))))
def m_range_of : List PV → M PV := callF 6
    (seq (set 1 (app (aCons (var 0) aNil) m_scale_sums))
    (seq (ifS (tst (bin (var 1) (cst .non) isN)) (ret (cst .non)) skip)
    (seq (par2 2 3 (aCons (bin (cst (.int 2)) (app (aCons (app (aCons (bin (fld 0 2 (var 0)) (cst (.int 0)) ixM) aNil) m_digits_of) aNil) m_ten_to) mulM) (aCons (bin (cst (.int 2)) (app (aCons (bin (fld 0 2 (var 0)) (cst (.int 0)) ixM) aNil) m_units_of) mulM) aNil)))
    (seq (set 4 (app (aCons (bin (var 1) (cst (.int 0)) ixM) (aCons (bin (cst (.int 0)) (bin (bin (fld 0 1 (var 0)) (bin (cst (.int 1)) (var 3) subM) mulM) (var 2) fdivM) subM) aNil)) maxM))
    (seq (set 5 (app (aCons (bin (var 1) (cst (.int 1)) ixM) (aCons (bin (bin (fld 0 1 (var 0)) (bin (var 3) (cst (.int 1)) addM) mulM) (var 2) fdivM) aNil)) minM))
    (ret (iteT (tst (bin (var 4) (var 5) leM)) (app (aCons (var 4) (aCons (var 5) aNil)) mkT) (cst .non))))))))
def m_is_spread : List PV → M PV := callF 9
    (seq (par2 3 4 (aCons (bin (fld 0 2 (var 0)) (cst (.int 1)) ixM) (aCons (fld 0 1 (var 0)) aNil)))
    (seq (ifS (tst (bin (var 3) (cst .non) isN)) (ret (cst (.bl true))) skip)
    (seq (set 5 (iteT (tst (bin (bin (fld 0 2 (var 0)) (cst (.int 2)) ixM) (cst (.str [115, 97, 109, 112, 108, 101])) eqM)) (bin (var 4) (bin (var 4) (cst (.int 1)) subM) mulM) (bin (var 4) (var 4) mulM)))
    (seq (par3 6 7 8 (aCons (bin (bin (var 4) (var 2) mulM) (bin (var 1) (var 1) mulM) subM) (aCons (bin (cst (.int 2)) (app (aCons (app (aCons (var 3) aNil) m_digits_of) aNil) m_ten_to) mulM) (aCons (bin (cst (.int 2)) (app (aCons (var 3) aNil) m_units_of) mulM) aNil))))
    (seq (ifS (andT (tst (bin (var 8) (cst (.int 0)) gtM)) (tst (bin (bin (bin (var 6) (var 7) mulM) (var 7) mulM) (bin (bin (bin (var 8) (cst (.int 1)) subM) (bin (var 8) (cst (.int 1)) subM) mulM) (var 5) mulM) ltM))) (ret (cst (.bl false))) skip)
    (ret (bin (bin (bin (var 6) (var 7) mulM) (var 7) mulM) (bin (bin (bin (var 8) (cst (.int 1)) addM) (bin (var 8) (cst (.int 1)) addM) mulM) (var 5) mulM) leM)))))))
def m_does_fit : List PV → M PV := callF 11
    (seq (asg (fld 0 2 (var 0)) (gT 6 (gsCons (gN 2) (gsCons (gN 3) (gsCons (gN 4) (gsCons (gN 5) (gsCons (gN 6) (gsCons (gN 7) gsNil))))))))
    (seq (par2 8 9 (aCons (app (aCons (var 1) aNil) lenM) (aCons (app (aCons (app (aCons (var 1) aNil) listM) aNil) sumM) aNil)))
    (seq (ifS (orT (tst (bin (var 8) (fld 0 1 (var 0)) neM)) (notT (tst (app (aCons (var 9) (aCons (var 8) (aCons (var 2) aNil))) m_is_printed)))) (ret (cst (.bl false))) skip)
    (seq (ifS (orT (andT (tst (bin (var 5) (cst .non) notN)) (tst (bin (bin (var 1) (cst (.int 0)) ixM) (var 5) neM))) (andT (tst (bin (var 6) (cst .non) notN)) (tst (bin (bin (var 1) (un (cst (.int 1)) negM) ixM) (var 6) neM)))) (ret (cst (.bl false))) skip)
    (seq (ifS (andT (tst (bin (var 7) (cst .non) notN)) (notT (tst (app (aCons (bin (bin (var 1) (bin (bin (var 8) (cst (.int 1)) subM) (cst (.int 2)) fdivM) ixM) (bin (var 1) (bin (var 8) (cst (.int 2)) fdivM) ixM) addM) (aCons (cst (.int 2)) (aCons (var 7) aNil))) m_is_printed)))) (ret (cst (.bl false))) skip)
    (ret (app (aCons (var 0) (aCons (var 9) (aCons (app (aCons (lcV (lcM (iAny (var 1)) (gN 10) yes (bin (var 10) (var 10) mulM) [10])) aNil) sumM) aNil))) m_is_spread)))))))
def m_how_many : List PV → M PV := callF 4
    (seq (set 2 (cst (.int 1)))
    (seq (forS (iApp (aCons (cst (.int 1)) (aCons (bin (var 1) (cst (.int 1)) addM) aNil)) rng2M) (gN 3) (set 2 (bin (bin (var 2) (bin (var 0) (var 3) addM) mulM) (var 3) fdivM)))
    (ret (var 2))))
def m_check_listed : List PV → M PV := callF 1
    (ifS (tst (bin (app (aCons (fld 0 1 (var 0)) (aCons (bin (bin (fld 0 0 (var 0)) (cst (.int 1)) ixM) (bin (fld 0 0 (var 0)) (cst (.int 0)) ixM) subM) aNil)) m_how_many) (cst (.int 20000)) gtM)) (rse 11) skip)
def m_rows_of : Nat → List PV → M PV
  | 0 => fun _ _ => .bad
  | n + 1 => callF 6
    (seq (ifS (tst (bin (var 2) (cst (.int 0)) eqM)) (ret (app (aCons (app aNil mkT) aNil) mkL)) skip)
    (seq (set 3 (app aNil newL))
    (seq (forS (iApp (aCons (var 0) (aCons (bin (var 1) (cst (.int 1)) addM) aNil)) rng2M) (gN 4) (drop (meth (var 3) chkL (aCons (lcV (lcM (iAny (app (aCons (var 4) (aCons (var 1) (aCons (bin (var 2) (cst (.int 1)) subM) aNil))) (m_rows_of n))) (gN 5) yes (app (aCons (var 4) (aStar (var 5) aNil)) mkT) [5])) aNil) extM)))
    (ret (var 3)))))
def m_lists_by : List PV → M PV := callF 5
    (seq (ifS (tst (bin (app (aCons (var 0) aNil) m_range_of) (cst .non) isN)) (ret (app aNil mkL)) skip)
    (seq (asg (app (aCons (var 0) aNil) m_ends_of) (gT 3 (gsCons (gN 1) (gsCons (gN 2) (gsCons (gN 3) gsNil)))))
    (ret (lcV (lcM (iAny (app (aCons (var 1) (aCons (var 2) (aCons (fld 0 1 (var 0)) aNil))) (m_rows_of 12))) (gN 4) (tst (app (aCons (var 0) (aCons (var 4) aNil)) m_does_fit)) (var 4) [4])))))
def m_has_all : List PV → M PV := callF 3
    (ret (app (aCons (lcV (lcM (iAny (var 1)) (gN 2) yes (bin (meth (var 0) chkT (aCons (var 2) aNil) cntM) (meth (var 1) chkT (aCons (var 2) aNil) cntM) geM) [2])) aNil) allM))
def m__law_random : List PV → M PV := callFN 4
    (seq (set 2 (var 1))
    (seq (forS (iAny (var 0)) (gN 3) (set 2 (bin (app (aCons (bin (bin (var 2) (cst (.int 31)) mulM) (app (aCons (var 3) aNil) absM) addM) aNil) intM) (cst (.int 2147483647)) modM)))
    (ret (bin (app (aCons (var 2) (aCons (cst (.int 0)) aNil)) mkL) (lcV (lcM (iAny (var 0)) (gN 3) (tst (bin (var 3) (bin (cst (.int 10)) (cst (.int 18)) powM) geM)) (var 3) [3])) addN))))
def m__law_below : List PV → M PV := callF 3
    (seq (ifS (andT (tst (bin (bin (var 0) (cst (.int 1)) ixM) (cst (.int 0)) eqM)) (tst (bin (app (aCons (var 0) aNil) lenM) (cst (.int 2)) gtM))) (asg (meth (var 0) chkL (aCons (cst (.int 2)) aNil) popM) (gSb (var 0) (cst (.int 1)))) skip)
    (seq (ifS (tst (bin (bin (var 0) (cst (.int 1)) ixM) (cst (.int 0)) gtM)) (seq (set 2 (bin (app (aCons (bin (var 0) (cst (.int 1)) ixM) aNil) intM) (var 1) modM))
    (seq (asg (bin (bin (var 0) (cst (.int 1)) ixM) (var 1) fdivM) (gSb (var 0) (cst (.int 1))))
    (ret (var 2)))) skip)
    (seq (asg (bin (app (aCons (bin (bin (bin (var 0) (cst (.int 0)) ixM) (cst (.int 48271)) mulM) (cst (.int 11)) addM) aNil) intM) (cst (.int 2147483647)) modM) (gSb (var 0) (cst (.int 0))))
    (ret (bin (app (aCons (bin (bin (var 0) (cst (.int 0)) ixM) (cst (.int 64)) fdivM) aNil) intM) (var 1) modM)))))
def m__law_pick : List PV → M PV := callF 2
    (ret (bin (var 1) (app (aCons (var 0) (aCons (app (aCons (var 1) aNil) lenM) aNil)) m__law_below) ixM))
def m__law_equal : Nat → List PV → M PV
  | 0 => fun _ _ => .bad
  | n + 1 => callF 4
    (seq (ifS (tst (bin (var 1) (cst .non) isN)) (ret (bin (var 0) (cst .non) isN)) skip)
    (seq (ifS (tst (isi 1 (var 1))) (ret (andV (isi 1 (var 0)) (bin (var 0) (var 1) eqM))) skip)
    (seq (ifS (tst (isi 2 (var 1))) (ret (andV (isi 2 (var 0)) (andV (notV (isi 1 (var 0))) (bin (var 0) (var 1) eqM)))) skip)
    (seq (ifS (tst (isi 3 (var 1))) (ret (andV (isi 3 (var 0)) (bin (var 0) (var 1) eqM))) skip)
    (seq (ifS (tst (isi 6 (var 1))) (seq (ifS (orT (notT (tst (isi 6 (var 0)))) (tst (bin (app (aCons (var 0) aNil) listM) (app (aCons (app (aCons (var 1) aNil) listM) aNil) sortedM) neM))) (ret (cst (.bl false))) skip)
    (ret (app (aCons (lcV (lcM (iAny (app (aCons (var 0) aNil) listM)) (gN 3) yes (app (aCons (bin (var 0) (var 3) ixM) (aCons (bin (var 1) (var 3) ixM) aNil)) (m__law_equal n)) [3])) aNil) allM))) skip)
    (seq (ifS (tst (bin (isi 4 (var 1)) (isi 4 (var 0)) neM)) (ret (cst (.bl false))) skip)
    (seq (ifS (tst (bin (isi 5 (var 1)) (isi 5 (var 0)) neM)) (ret (cst (.bl false))) skip)
    (seq (ifS (tst (bin (app (aCons (var 0) aNil) lenM) (app (aCons (var 1) aNil) lenM) neM)) (ret (cst (.bl false))) skip)
    (ret (app (aCons (lcV (lcM (iApp (aCons (app (aCons (var 1) aNil) lenM) aNil) rng1M) (gN 2) yes (app (aCons (bin (var 0) (var 2) ixM) (aCons (bin (var 1) (var 2) ixM) aNil)) (m__law_equal n)) [2])) aNil) allM))))))))))
def m_Filler_left : List PV → M PV := callF 2
    (ret (app (aCons (lcV (lcM (iAny (fld 1 1 (var 0))) (gN 1) (tst (app (aCons (var 1) (aCons (fld 1 2 (var 0)) aNil)) m_has_all)) (var 1) [1])) aNil) lenM))
def m_Filler_add : List PV → M PV := callF 2
    (seq (ifS (notT (tst (app (aCons (var 1) (aCons (bin (fld 0 0 (fld 1 0 (var 0))) (cst (.int 0)) ixM) (aCons (bin (fld 0 0 (fld 1 0 (var 0))) (cst (.int 1)) ixM) aNil))) m_is_from))) (rse 6) skip)
    (seq (ifS (tst (bin (app (aCons (fld 1 2 (var 0)) aNil) lenM) (fld 0 1 (fld 1 0 (var 0))) eqM)) (rse 13) skip)
    (seq (fldS 1 3 (var 0) (app (aStar (fld 1 3 (var 0)) (aCons (fld 1 2 (var 0)) aNil)) mkT))
    (seq (fldS 1 4 (var 0) (app aNil mkT))
    (seq (fldS 1 2 (var 0) (app (aStar (fld 1 2 (var 0)) (aCons (var 1) aNil)) mkT))
    (ret (mthd 1 m_Filler_left (var 0) aNil)))))))
def m__law_told : List PV → M PV := callF 3
    (seq (set 2 (cst (.str [])))
    (seq (tryS (drop (mthd 1 m_Filler_add (var 0) (aCons (var 1) aNil))) [(6, (set 2 (cst (.str [109, 97, 114, 107])))), (13, (set 2 (cst (.str [102, 117, 108, 108]))))])
    (ret (var 2))))
def m_Filler___init__ : List PV → M PV := callF 2
    (seq (drop (app (aCons (var 1) aNil) m_check_listed))
    (seq (fldS 1 0 (var 0) (var 1))
    (seq (fldS 1 1 (var 0) (app (aCons (app (aCons (var 1) aNil) m_lists_by) aNil) tupleM))
    (seq (fldS 1 2 (var 0) (app aNil mkT))
    (seq (fldS 1 3 (var 0) (app aNil mkT))
    (fldS 1 4 (var 0) (app aNil mkT)))))))
def m__law_made : List PV → M PV := callF 2
    (seq (set 1 (cst (.bl false)))
    (seq (tryS (drop (app (aCons (var 0) aNil) (makeN 1 m_Filler___init__ []))) [(11, (set 1 (cst (.bl true))))])
    (ret (var 1))))
def m_Filler___len__ : List PV → M PV := callF 1
    (ret (app (aCons (fld 1 2 (var 0)) aNil) lenM))
def m_Filler_marks : List PV → M PV := callF 1
    (ret (fld 1 2 (var 0)))
def m_Filler_redo : List PV → M PV := callF 1
    (seq (ifS (tst (bin (app (aCons (fld 1 4 (var 0)) aNil) lenM) (cst (.int 0)) eqM)) (ret (cst (.bl false))) skip)
    (seq (fldS 1 3 (var 0) (app (aStar (fld 1 3 (var 0)) (aCons (fld 1 2 (var 0)) aNil)) mkT))
    (seq (fldS 1 2 (var 0) (bin (fld 1 4 (var 0)) (un (cst (.int 1)) negM) ixM))
    (seq (fldS 1 4 (var 0) (slice (fld 1 4 (var 0)) noP (isP (un (cst (.int 1)) negM))))
    (ret (cst (.bl true)))))))
def m_Filler_undo : List PV → M PV := callF 1
    (seq (ifS (tst (bin (app (aCons (fld 1 3 (var 0)) aNil) lenM) (cst (.int 0)) eqM)) (ret (cst (.bl false))) skip)
    (seq (fldS 1 4 (var 0) (app (aStar (fld 1 4 (var 0)) (aCons (fld 1 2 (var 0)) aNil)) mkT))
    (seq (fldS 1 2 (var 0) (bin (fld 1 3 (var 0)) (un (cst (.int 1)) negM) ixM))
    (seq (fldS 1 3 (var 0) (slice (fld 1 3 (var 0)) noP (isP (un (cst (.int 1)) negM))))
    (ret (cst (.bl true)))))))
def m_Report___init__ : List PV → M PV := callF 10
    (seq (drop (app (aCons (var 1) (aCons (var 2) aNil)) m_check_scale))
    (seq (ifS (notT (tst (app (aCons (var 3) (aCons (cst (.int 1)) (aCons (cst (.int 1000000)) aNil))) m_is_from))) (rse 1) skip)
    (seq (drop (app (aCons (var 4) (aCons (var 5) (aCons (var 9) aNil))) m_check_prints))
    (seq (ifS (orT (notT (tst (isi 3 (var 6)))) (orT (tst (bin (var 6) (cst (.tup [(.str [115, 97, 109, 112, 108, 101]), (.str [119, 104, 111, 108, 101])])) (inM true))) (andT (tst (bin (var 5) (cst .non) notN)) (andT (tst (bin (var 6) (cst (.str [115, 97, 109, 112, 108, 101])) eqM)) (tst (bin (var 3) (cst (.int 1)) eqM)))))) (rse 3) skip)
    (seq (drop (app (aCons (var 1) (aCons (var 2) (aCons (var 7) (aCons (var 8) aNil)))) m_check_ends))
    (seq (fldS 0 0 (var 0) (app (aCons (var 1) (aCons (var 2) aNil)) mkT))
    (seq (fldS 0 1 (var 0) (var 3))
    (fldS 0 2 (var 0) (app (aCons (var 4) (aCons (var 5) (aCons (var 6) (aCons (var 7) (aCons (var 8) (aCons (var 9) aNil)))))) mkT)))))))))
def L_0 : MS := (set 1 (app (aCons (var 0) (aCons (cst (.int 3016)) aNil)) m__law_random))
def L_1 : MS := (par2 2 3 (aCons (bin (app (aCons (var 1) (aCons (cst (.int 9)) aNil)) m__law_below) (cst (.int 4)) subM) (aCons (bin (cst (.int 2)) (app (aCons (var 1) (aCons (cst (.int 4)) aNil)) m__law_below) addM) aNil)))
def L_2 : MS := (set 4 (app (aCons (app (aCons (var 2) (aCons (bin (var 2) (cst (.int 2)) addM) (aCons (var 3) (aCons (app (aCons (bin (var 2) (cst (.int 1)) addM) aNil) strM) aNil)))) (makeM 0 m_Report___init__ [.non, (.str [115, 97, 109, 112, 108, 101]), .non, .non, .non])) aNil) (makeN 1 m_Filler___init__ [])))
def L_3 : MS := (ifS (orT (tst (mthd 1 m_Filler_undo (var 4) aNil)) (orT (tst (mthd 1 m_Filler_redo (var 4) aNil)) (orT (tst (bin (mthd 1 m_Filler_add (var 4) (aCons (bin (var 2) (cst (.int 1)) addM) aNil)) (cst (.int 1)) ltM)) (notT (tst (mthd 1 m_Filler_undo (var 4) aNil)))))) (ret (cst (.bl false))) skip)
def L_4 : MS := (forS (iAny (app (aCons (cst .non) (aCons (bin (var 2) (cst (.int 1)) subM) (aCons (bin (var 2) (cst (.int 3)) addM) (aCons (cst (.str [49])) (aCons (app (aCons (var 2) aNil) mkT) (aCons (app aNil mkL) aNil)))))) mkL)) (gN 5) (ifS (tst (bin (app (aCons (var 4) (aCons (var 5) aNil)) m__law_told) (cst (.str [109, 97, 114, 107])) neM)) (ret (cst (.bl false))) skip))
def L_5 : MS := (ifS (orT (tst (bin (app (aCons (var 4) aNil) (lenO 1 m_Filler___len__)) (cst (.int 0)) neM)) (orT (notT (tst (mthd 1 m_Filler_redo (var 4) aNil))) (orT (notT (tst (app (aCons (prop 1 m_Filler_marks (var 4)) (aCons (app (aCons (bin (var 2) (cst (.int 1)) addM) aNil) mkT) aNil)) (m__law_equal 6)))) (tst (mthd 1 m_Filler_redo (var 4) aNil))))) (ret (cst (.bl false))) skip)
def L_6 : MS := (forS (iApp (aCons (bin (var 3) (cst (.int 1)) subM) aNil) rng1M) (gN 6) (ifS (tst (bin (app (aCons (var 4) (aCons (bin (var 2) (app (aCons (var 1) (aCons (cst (.int 3)) aNil)) m__law_below) addM) aNil)) m__law_told) (cst (.str [])) neM)) (ret (cst (.bl false))) skip))
def L_7 : MS := (ifS (orT (tst (bin (app (aCons (var 4) (aCons (var 2) aNil)) m__law_told) (cst (.str [102, 117, 108, 108])) neM)) (orT (tst (bin (app (aCons (var 4) (aCons (bin (var 2) (cst (.int 1)) subM) aNil)) m__law_told) (cst (.str [109, 97, 114, 107])) neM)) (tst (bin (app (aCons (var 4) aNil) (lenO 1 m_Filler___len__)) (var 3) neM)))) (ret (cst (.bl false))) skip)
def L_8 : MS := (ret (andV (mthd 1 m_Filler_undo (var 4) aNil) (andV (bin (app (aCons (var 4) aNil) (lenO 1 m_Filler___len__)) (bin (var 3) (cst (.int 1)) subM) eqM) (app (aCons (app (aCons (cst (.int 0)) (aCons (cst (.int 11)) (aCons (cst (.int 8)) (aCons (cst (.str [53])) aNil)))) (makeM 0 m_Report___init__ [.non, (.str [115, 97, 109, 112, 108, 101]), .non, .non, .non])) aNil) m__law_made))))
def m_law : List PV → M PV := callF 7 (seq L_0 (seq L_1 (seq L_2 (seq L_3 (seq L_4 (seq L_5 (seq L_6 (seq L_7 L_8))))))))
def m_Report_low : List PV → M PV := callF 1
    (ret (bin (fld 0 0 (var 0)) (cst (.int 0)) ixM))
def m_Report_high : List PV → M PV := callF 1
    (ret (bin (fld 0 0 (var 0)) (cst (.int 1)) ixM))
def m_Report_size : List PV → M PV := callF 1
    (ret (fld 0 1 (var 0)))
def m_Report_mean : List PV → M PV := callF 1
    (ret (bin (fld 0 2 (var 0)) (cst (.int 0)) ixM))
def m_Report_spread : List PV → M PV := callF 1
    (ret (bin (fld 0 2 (var 0)) (cst (.int 1)) ixM))
def m_Report_kind : List PV → M PV := callF 1
    (ret (bin (fld 0 2 (var 0)) (cst (.int 2)) ixM))
def m_Report_least : List PV → M PV := callF 1
    (ret (bin (fld 0 2 (var 0)) (cst (.int 3)) ixM))
def m_Report_greatest : List PV → M PV := callF 1
    (ret (bin (fld 0 2 (var 0)) (cst (.int 4)) ixM))
def m_Report_middle : List PV → M PV := callF 1
    (ret (bin (fld 0 2 (var 0)) (cst (.int 5)) ixM))
def m_Filler_report : List PV → M PV := callF 1
    (ret (fld 1 0 (var 0)))
end Sm

namespace Sm
open PySem PySem.Spec PyProof.Rows L2
/-! ### the draws -/
def lowB : MS := (seq (asg (bin (app (aCons (bin (bin (bin (var 0) (cst (.int 0)) ixM) (cst (.int 48271)) mulM) (cst (.int 11)) addM) aNil) intM) (cst (.int 2147483647)) modM) (gSb (var 0) (cst (.int 0))))
    (ret (bin (app (aCons (bin (bin (var 0) (cst (.int 0)) ixM) (cst (.int 64)) fdivM) aNil) intM) (var 1) modM)))
def hiB : MS := (seq (set 2 (bin (app (aCons (bin (var 0) (cst (.int 1)) ixM) aNil) intM) (var 1) modM))
    (seq (asg (bin (bin (var 0) (cst (.int 1)) ixM) (var 1) fdivM) (gSb (var 0) (cst (.int 1))))
    (ret (var 2))))
def topB : MS := (ifS (andT (tst (bin (bin (var 0) (cst (.int 1)) ixM) (cst (.int 0)) eqM)) (tst (bin (app (aCons (var 0) aNil) lenM) (cst (.int 2)) gtM))) (asg (meth (var 0) chkL (aCons (cst (.int 2)) aNil) popM) (gSb (var 0) (cst (.int 1)))) skip)
theorem below_eq : m__law_below = callF 3 (seq topB (seq (ifS (tst (bin (bin (var 0) (cst (.int 1)) ixM) (cst (.int 0)) gtM)) hiB skip) lowB)) := rfl
section
variable {a b n : Int} {r : List PV} {t : HP} {x y z : PV}
theorem ixN_0 {k : Nat} : ixN (k + 1) 0 = some 0 := by unfold ixN; simp
theorem ixN_1 {k : Nat} : ixN (k + 1 + 1) 1 = some 1 := by unfold ixN; simp; omega
theorem ixN_2 {k : Nat} : ixN (k + 1 + 1 + 1) 2 = some 2 := by unfold ixN; simp; omega
theorem ix0 : ixM (.ref 0) (.int 0) (.lst (x :: r) :: t) = .ok x (.lst (x :: r) :: t) := by
  simp only [ixM, seqOf, lstOf, L2.atI, List.getElem?_cons_zero, List.length_cons, ixN_0, Option.bind_some]
theorem ix1 : ixM (.ref 0) (.int 1) (.lst (x :: y :: r) :: t) = .ok y (.lst (x :: y :: r) :: t) := by
  simp only [ixM, seqOf, lstOf, L2.atI, List.getElem?_cons_zero, List.getElem?_cons_succ, List.length_cons, ixN_1, Option.bind_some]
theorem set0 {v : PV} (hv : pur v = true) : setM (.ref 0) (.int 0) v (.lst (x :: r) :: t) = .ok () (.lst (v :: r) :: t) := by
  simp only [setM, List.getElem?_cons_zero, List.length_cons, ixN_0, hv, if_true, List.set_cons_zero]
theorem set1 {v : PV} (hv : pur v = true) : setM (.ref 0) (.int 1) v (.lst (x :: y :: r) :: t) = .ok () (.lst (x :: v :: r) :: t) := by
  simp only [setM, List.getElem?_cons_zero, List.length_cons, ixN_1, hv, if_true, List.set_cons_zero, List.set_cons_succ]
theorem pop2 (hl : r.length ≤ 100) : popM (.ref 0) [.int 2] (.lst (x :: y :: z :: r) :: t) = .ok z (.lst (x :: y :: r) :: t) := by
  have : r.length + 1 + 1 + 1 ≤ lim := by unfold lim; omega
  simp only [popM, List.getElem?_cons_zero, List.length_cons, ixN_2, List.getElem?_cons_succ, this, if_true, List.set_cons_zero, List.eraseIdx_cons_succ, List.eraseIdx_cons_zero]
theorem low_run (ha : 0 ≤ a) (ha2 : a < 2147483647) (hn : 0 < n) : ∃ v a', 0 ≤ v ∧ v < n ∧ 0 ≤ a' ∧ a' < 2147483647 ∧ lowB [some (.ref 0), some (.int n), none] (.lst (.int a :: .int b :: r) :: t) = .rt (.int v) (.lst (.int a' :: .int b :: r) :: t) := by
  refine ⟨((a * 48271 + 11) % 2147483647 / 64) % n, (a * 48271 + 11) % 2147483647, Int.emod_nonneg _ (by omega), Int.emod_lt_of_pos _ hn, Int.emod_nonneg _ (by omega), Int.emod_lt_of_pos _ (by omega), ?_⟩
  have m1 : mulB a 48271 = true := by unfold mulB; simp
  have q1 : (0 : Int) < 2147483647 := by decide
  have q2 : (0 : Int) < 64 := by decide
  have q3 : (64 : Int) < 18446744073709551616 := by decide
  simp only [lowB, v_seq, v_asg, v_bin, v_app, v_nil, v_cons, v_var, v_cst, v_ret, v_bind_ok, v_toS_ok, List.getElem?_cons_zero, List.getElem?_cons_succ, v_vb, ix0, ix1, v_mul m1, v_add, v_int, v_mod q1, gSb, v_nbind_ok, set0 (v := .int _) rfl, v_sb_nx, v_fdiv q2 q3, v_mod hn]
theorem hi_run (hb : 0 < b) (hn : 0 < n) (hn2 : n < 18446744073709551616) : hiB [some (.ref 0), some (.int n), none] (.lst (.int a :: .int b :: r) :: t) = .rt (.int (b % n)) (.lst (.int a :: .int (b / n) :: r) :: t) := by
  simp only [hiB, v_seq, v_asg, v_bin, v_app, v_nil, v_cons, v_var, v_cst, v_ret, v_set, v_bind_ok, v_toS_ok, List.getElem?_cons_zero, List.getElem?_cons_succ, v_vb, ix0, ix1, v_int, v_mod hn, v_fdiv hn hn2, gSb, v_nbind_ok, v_sb_nx, set1 (v := .int _) rfl, List.set_cons_zero, List.set_cons_succ]
/-- what the list of draws is -/
def DI (o : PV) : Prop := ∃ (a b : Int) (pool : List Int), o = .lst (.int a :: .int b :: pool.map PV.int) ∧ 0 ≤ a ∧ a < 2147483647 ∧ 0 ≤ b ∧ (∀ p ∈ pool, 0 < p) ∧ pool.length ≤ 63
theorem top_run {pool : List Int} {e : En} (he : e = [some (.ref 0), some (.int n), none]) (hl : pool.length ≤ 63) (hp : ∀ p ∈ pool, 0 < p) (hb : 0 ≤ b) : ∃ (b' : Int) (pool' : List Int), 0 ≤ b' ∧ (∀ p ∈ pool', 0 < p) ∧ pool'.length ≤ 63 ∧
    topB e (.lst (.int a :: .int b :: pool.map PV.int) :: t) = .nx e (.lst (.int a :: .int b' :: pool'.map PV.int) :: t) := by
  have ln : ∀ (r : List PV), lenM [.ref 0] (.lst r :: t) = .ok (.int r.length) (.lst r :: t) := fun r => rfl
  have e1 : ∀ (x y z : R Bool), True := fun _ _ _ => trivial
  subst he
  by_cases h0 : b = 0
  · subst h0
    cases pool with
    | nil =>
      exact ⟨0, [], Int.le_refl _, by simp, by decide, rfl⟩
    | cons p q =>
      refine ⟨p, q, Int.le_of_lt (hp p (List.mem_cons_self ..)), fun z h => hp z (List.mem_cons_of_mem _ h), by simp at hl; omega, ?_⟩
      have hq : (q.map PV.int).length ≤ 100 := by simp at hl ⊢; omega
      have hg : decide ((2 : Int) < ((PV.int a :: PV.int 0 :: PV.int p :: q.map PV.int).length : Nat)) = true := by simp; omega
      simp only [topB, v_if, v_and, v_tst, v_bin, v_var, v_cst, v_app, v_cons, v_nil, v_bind_ok, v_toS_ok, List.getElem?_cons_zero, List.getElem?_cons_succ, v_vb, ix1, v_eq, v_isB, ln, v_gt, List.map_cons, hg, beq_self_eq_true, bfi_t, v_asg, meth, chkL, lstOf, Option.isSome, pop2 hq, gSb, v_nbind_ok, set1 (v := .int _) rfl]
  · refine ⟨b, pool, hb, hp, hl, ?_⟩
    have hz : (b == 0) = false := by simpa using h0
    simp only [topB, v_if, v_and, v_tst, v_bin, v_var, v_cst, v_app, v_cons, v_nil, v_bind_ok, v_toS_ok, List.getElem?_cons_zero, List.getElem?_cons_succ, v_vb, ix1, v_eq, v_isB, hz, bfi_f, v_skip]
theorem below_ok {o : PV} (d : DI o) (hn : 0 < n) (hn2 : n < 18446744073709551616) : ∃ v o', 0 ≤ v ∧ v < n ∧ DI o' ∧ m__law_below [.ref 0, .int n] (o :: t) = .ok (.int v) (o' :: t) := by
  obtain ⟨a, b, pool, rfl, ha, ha2, hb, hp, hl⟩ := d
  obtain ⟨b', pool', hb', hp', hl', et⟩ := top_run (n := n) (a := a) (t := t) rfl hl hp hb
  have tk : ∀ o : PV, List.take (t.length + 1) (o :: t) = o :: t := fun o => by simp
  by_cases h0 : 0 < b'
  · have hd : decide (0 < b') = true := by simpa using h0
    refine ⟨b' % n, .lst (.int a :: .int (b' / n) :: pool'.map PV.int), Int.emod_nonneg _ (by omega), Int.emod_lt_of_pos _ hn, ⟨a, b' / n, pool', rfl, ha, ha2, Int.ediv_nonneg hb' (by omega), hp', hl'⟩, ?_⟩
    rw [below_eq, v_callF, v_seq]
    simp only [List.map_cons, List.map_nil, List.length_cons, List.length_nil, List.cons_append, List.nil_append, Nat.reduceAdd, Nat.reduceSub, List.replicate, et, v_sb_nx, v_seq, v_if, v_tst, v_bin, v_var, v_cst, v_bind_ok, v_toS_ok, List.getElem?_cons_zero, List.getElem?_cons_succ, v_vb, ix1, v_gt, v_isB, hd, bfi_t, hi_run h0 hn hn2, v_sb_rt, v_fin_rt, v_frz_int, tk]
  · have hd : decide (0 < b') = false := by simpa using h0
    obtain ⟨v, a', h1, h2, h3, h4, el⟩ := low_run (b := b') (r := pool'.map PV.int) (t := t) ha ha2 hn
    refine ⟨v, .lst (.int a' :: .int b' :: pool'.map PV.int), h1, h2, ⟨a', b', pool', rfl, h3, h4, hb', hp', hl'⟩, ?_⟩
    rw [below_eq, v_callF, v_seq]
    simp only [List.map_cons, List.map_nil, List.length_cons, List.length_nil, List.cons_append, List.nil_append, Nat.reduceAdd, Nat.reduceSub, List.replicate, et, v_sb_nx, v_seq, v_if, v_tst, v_bin, v_var, v_cst, v_bind_ok, v_toS_ok, List.getElem?_cons_zero, List.getElem?_cons_succ, v_vb, ix1, v_gt, v_isB, hd, bfi_f, v_skip, el, v_fin_rt, v_frz_int, tk]
/-- the seed's loop, the great numbers -/
def ranB : MS := set 2 (bin (app (aCons (bin (bin (var 2) (cst (.int 31)) mulM) (app (aCons (var 3) aNil) absM) addM) aNil) intM) (cst (.int 2147483647)) modM)
theorem ran_go {e0 e1 : Option PV} : ∀ (ns : List Int) (s : Int) (e3 : Option PV), 0 ≤ s → s < 2147483647 → ∃ (s' : Int) (e3' : Option PV), 0 ≤ s' ∧ s' < 2147483647 ∧ forGo (gN 3) ranB (ns.map PV.int) [e0, e1, some (.int s), e3] [] = .nx [e0, e1, some (.int s'), e3'] []
  | [], s, e3, h0, h1 => ⟨s, e3, h0, h1, rfl⟩
  | n :: ns, s, e3, h0, h1 => by
    have m1 : mulB s 31 = true := by unfold mulB; simp
    have q1 : (0 : Int) < 2147483647 := by decide
    obtain ⟨s', e3', a, b, e⟩ := ran_go (e0 := e0) (e1 := e1) ns ((s * 31 + if n < 0 then -n else n) % 2147483647) (some (.int n)) (Int.emod_nonneg _ (by omega)) (Int.emod_lt_of_pos _ (by omega))
    refine ⟨s', e3', a, b, ?_⟩
    simp only [List.map_cons, forGo, v_gN, v_toS_ok, ranB, v_set, v_bin, v_app, v_cons, v_nil, v_var, v_cst, v_bind_ok, List.getElem?_cons_zero, List.getElem?_cons_succ, List.set_cons_zero, List.set_cons_succ, v_vb, v_mul m1, v_abs, v_add, v_int, v_mod q1]
    exact e
theorem big_go {e0 e1 e2 : Option PV} : ∀ (ns : List Int) (acc : List Int), acc.length + ns.length ≤ 63 → (∀ p ∈ acc, 0 < p) → ∃ pool : List Int, (∀ p ∈ pool, 0 < p) ∧ pool.length ≤ 63 ∧
    lcGo (gN 3) (tst (bin (var 3) (bin (cst (.int 10)) (cst (.int 18)) powM) geM)) (var 3) [e0, e1, e2, none] (ns.map PV.int) (acc.map PV.int) [] = .ok (pool.map PV.int) []
  | [], acc, hl, hp => ⟨acc, hp, by simpa using hl, rfl⟩
  | n :: ns, acc, hl, hp => by
    have pw : powM (.int 10) (.int 18) [.lst (acc.map PV.int)] = .ok (.int 1000000000000000000) [.lst (acc.map PV.int)] := rfl
    have lz : ((acc.map PV.int).length < lim) := by simp only [List.length_map, lim]; simp at hl; omega
    by_cases hn : (1000000000000000000 : Int) ≤ n
    · obtain ⟨pool, h1, h2, e⟩ := big_go (e0 := e0) (e1 := e1) (e2 := e2) ns (acc ++ [n]) (by simp at hl ⊢; omega) (fun p hm => by
        rcases List.mem_append.mp hm with h | h
        · exact hp p h
        · simp at h; omega)
      refine ⟨pool, h1, h2, ?_⟩
      simp only [List.map_cons, lcGo, v_gN, v_nbind_ok, v_tst, v_bin, v_var, v_cst, v_bind_ok, List.getElem?_cons_zero, List.getElem?_cons_succ, List.set_cons_zero, List.set_cons_succ, v_vb, List.nil_append, pw, v_ge, hn, decide_true, v_isB, pur, lz, and_self, if_true, List.length_nil, List.take_zero]
      rw [List.map_append] at e
      exact e
    · obtain ⟨pool, h1, h2, e⟩ := big_go (e0 := e0) (e1 := e1) (e2 := e2) ns acc (by simp at hl ⊢; omega) hp
      refine ⟨pool, h1, h2, ?_⟩
      simp only [List.map_cons, lcGo, v_gN, v_nbind_ok, v_tst, v_bin, v_var, v_cst, v_bind_ok, List.getElem?_cons_zero, List.getElem?_cons_succ, List.set_cons_zero, List.set_cons_succ, v_vb, List.nil_append, pw, v_ge, hn, decide_false, v_isB, List.length_nil, List.take_zero]
      exact e
theorem random_ok (ns : List Int) (salt : Int) (hl : ns.length ≤ 63) (h0 : 0 ≤ salt) (h1 : salt < 2147483647) : ∃ o, DI o ∧ m__law_random [.scr (ns.map .int), .int salt] [] = .ok (.ref 0) [o] := by
  obtain ⟨s', e3', a, b, e⟩ := ran_go (e0 := some (.scr (ns.map .int))) (e1 := some (.int salt)) ns salt none h0 h1
  obtain ⟨pool, p1, p2, q⟩ := big_go (e0 := some (.scr (ns.map .int))) (e1 := some (.int salt)) (e2 := some (.int s')) ns [] (by simpa using hl) (fun _ h => nomatch h)
  refine ⟨_, ⟨s', 0, pool, rfl, a, b, Int.le_refl _, p1, p2⟩, ?_⟩
  have ha : ([PV.int s', PV.int 0] : List PV).length + (pool.map PV.int).length ≤ lim := by simp only [List.length_map, List.length_cons, List.length_nil, lim]; omega
  have mk : mkL [PV.int s', PV.int 0] [] = .ok (.lst [PV.int s', PV.int 0]) [] := rfl
  have ad : addN (.lst [PV.int s', PV.int 0]) (.lst (pool.map PV.int)) [] = .ok (.ref 0) [.lst ([PV.int s', PV.int 0] ++ pool.map PV.int)] := by
    unfold addN; simp only [lstOf, ha, if_true]; rfl
  rw [List.map_nil] at q
  have ran : m__law_random = callFN 4 (seq (set 2 (var 1)) (seq (forS (iAny (var 0)) (gN 3) ranB) (ret (bin (app (aCons (var 2) (aCons (cst (.int 0)) aNil)) mkL) (lcV (lcM (iAny (var 0)) (gN 3) (tst (bin (var 3) (bin (cst (.int 10)) (cst (.int 18)) powM) geM)) (var 3) [3])) addN)))) := rfl
  rw [ran]
  simp only [callFN, v_seq, v_set, v_forS, iAny, itemsOf, v_var, v_ret, v_bin, v_app, v_cons, v_nil, v_cst, v_bind_ok, v_toS_ok, List.map_cons, List.map_nil, List.length_cons, List.length_nil, List.cons_append, List.nil_append, Nat.reduceAdd, Nat.reduceSub, List.replicate, List.getElem?_cons_zero, List.getElem?_cons_succ, List.set_cons_zero, List.set_cons_succ, v_vb, v_sb_nx, e, mk, lcV, lcM, wipeE, q, ad, List.take, if_true]
end
end Sm

namespace Sm
open PySem PySem.Spec PyProof.Rows L2
/-! ### fillers, in plain -/
theorem count_ok {ns : List Int} {k : Int} {h : HP} : cntM (.tup (ns.map PV.int)) [.int k] h = .ok (.int (ns.count k : Nat)) h := by simp only [cntM, ints_map]
theorem has_all_ok (ms ns : List Int) (hl : ns.length ≤ lim) : ∃ b, ∀ h, m_has_all [.tup (ms.map PV.int), .tup (ns.map PV.int)] h = .ok (.bl b) h := by
  refine ⟨ns.all (fun k => decide ((ns.count k : Int) ≤ (ms.count k : Int))), fun h => ?_⟩
  have lc := lc_map (i := 2) (te := bin (meth (var 0) chkT (aCons (var 2) aNil) cntM) (meth (var 1) chkT (aCons (var 2) aNil) cntM) geM) (env := [some (.tup (ms.map PV.int)), some (.tup (ns.map PV.int)), none])
    (fun x => match x with | .int k => .bl (decide ((ns.count k : Int) ≤ (ms.count k : Int))) | _ => .non) (ns.map PV.int) h (fun x hx => by
      obtain ⟨k, _, rfl⟩ := List.mem_map.mp hx
      refine ⟨fun a => ?_, rfl⟩
      simp only [v_bin, meth, v_var, v_cons, v_nil, v_bind_ok, List.getElem?_cons_zero, List.getElem?_cons_succ, List.set_cons_zero, List.set_cons_succ, v_vb, chkT, count_ok, v_ge]) (by simpa using hl)
  have e : (ns.map PV.int).map (fun x => match x with | .int k => PV.bl (decide ((ns.count k : Int) ≤ (ms.count k : Int))) | _ => .non) = ns.map fun k => PV.bl (decide ((ns.count k : Int) ≤ (ms.count k : Int))) := by
    rw [List.map_map]; rfl
  rw [e] at lc
  have al : allM [.lst (ns.map fun k => PV.bl (decide ((ns.count k : Int) ≤ (ms.count k : Int))))] h = .ok (.bl (ns.all fun k => decide ((ns.count k : Int) ≤ (ms.count k : Int)))) h := by
    simp only [allM, boolsAt, lstOf, bools_map, List.all_map]; rfl
  simp only [m_has_all, v_callF, List.map_cons, List.map_nil, List.length_cons, List.length_nil, List.cons_append, List.nil_append, Nat.reduceAdd, Nat.reduceSub, List.replicate, v_ret, v_app, v_cons, v_nil, lcV, lcM, iAny, v_var, List.getElem?_cons_zero, List.getElem?_cons_succ, v_vb, v_bind_ok, itemsOf, wipeE, List.set_cons_zero, List.set_cons_succ, lc, al, v_toS_ok, v_fin_rt, v_frz_bl, List.take_length]
def fl (P : PV) (es : List PV) (now : List Int) (pst ftr : List PV) : PV := .ins 1 [P, .tup es, .tup (now.map PV.int), .tup pst, .tup ftr]
def IT (es : List PV) : Prop := ∀ e ∈ es, ∃ ms : List Int, e = .tup (ms.map PV.int)
theorem left_ok {o P : PV} {es pst ftr : List PV} {now : List Int} (he : IT es) (hl : now.length ≤ lim) (hl2 : es.length ≤ lim) : ∃ n, m_Filler_left [.ref 1] [o, fl P es now pst ftr] = .ok (.int n) [o, fl P es now pst ftr] := by
  have hb : ∀ e ∈ es, ∃ b, ∀ h, m_has_all [e, .tup (now.map PV.int)] h = .ok (.bl b) h := fun e h => by
    obtain ⟨ms, rfl⟩ := he e h
    exact has_all_ok ms now hl
  have lc := lc_gN (i := 1) (tt := tst (app (aCons (var 1) (aCons (fld 1 2 (var 0)) aNil)) m_has_all)) (te := var 1) (env := [some (.ref 1), none])
    (fun e => match m_has_all [e, .tup (now.map PV.int)] [] with | .ok (.bl b) _ => b | _ => false) id es [] [o, fl P es now pst ftr] (fun x hx a => by
      obtain ⟨b, hb⟩ := hb x hx
      simp only [v_tst, v_app, v_cons, v_nil, v_var, v_bind_ok, List.getElem?_cons_zero, List.getElem?_cons_succ, List.set_cons_zero, List.set_cons_succ, v_vb, fld, insAt, List.cons_append, List.nil_append, fl, hb, v_isB, if_true]) (fun x hx _ => by
      refine ⟨fun a => rfl, ?_⟩
      obtain ⟨ms, rfl⟩ := he x hx
      exact purL_ints ms) (by simpa using hl2)
  revert lc
  generalize ([] ++ List.map id (List.filter _ es)) = Z
  intro lc
  refine ⟨(Z.length : Nat), ?_⟩
  simp only [m_Filler_left, v_callF, List.map_cons, List.map_nil, List.length_cons, List.length_nil, List.cons_append, List.nil_append, Nat.reduceAdd, Nat.reduceSub, List.replicate, v_ret, v_app, v_cons, v_nil, lcV, lcM, iAny, v_var, List.getElem?_cons_zero, List.getElem?_cons_succ, v_vb, v_bind_ok, fld, insAt, fl, itemsOf, wipeE, List.set_cons_zero, List.set_cons_succ, if_true, v_toS_ok, v_fin_rt, v_frz_int, List.take_length]
  unfold fl at lc
  simp only [lc, v_bind_ok, lenM, seqOf, lstOf, v_toS_ok, v_fin_rt, v_frz_int]
  rfl
theorem from_ok {m lo hi : Int} {h : HP} : m_is_from [.int m, .int lo, .int hi] h = .ok (.bl (decide (lo ≤ m) && decide (m ≤ hi))) h := by
  have hi1 : m_is_integer [.int m] h = .ok (.bl true) h := by
    simp only [m_is_integer, v_callF, List.map_cons, List.map_nil, List.length_cons, List.length_nil, List.cons_append, List.nil_append, Nat.reduceAdd, Nat.reduceSub, List.replicate, v_ret, v_andV, isi, v_var, List.getElem?_cons_zero, v_vb, v_bind_ok, tyTag, v_bx, v_notV]
    rw [show tySub 2 2 = true from rfl, show tySub 2 1 = false from rfl]
    simp only [v_bx, bfi_t, v_bind_ok, v_toS_ok, v_fin_rt, v_frz_bl, List.take_length, Bool.not_false]
  simp only [m_is_from, v_callF, List.map_cons, List.map_nil, List.length_cons, List.length_nil, List.cons_append, List.nil_append, Nat.reduceAdd, Nat.reduceSub, List.replicate, v_ret, v_andV, v_app, v_cons, v_nil, v_var, List.getElem?_cons_zero, List.getElem?_cons_succ, v_vb, v_bind_ok, hi1, v_bx, bfi_t, v_chn, v_le]
  cases decide (lo ≤ m) <;> simp only [bfi_t, bfi_f, v_bind_ok, v_toS_ok, v_fin_rt, v_frz_bl, List.take_length, Bool.true_and, Bool.false_and]
theorem tup_at0 {x : PV} {r : List PV} {h : HP} : ixM (.tup (x :: r)) (.int 0) h = .ok x h := by simp only [ixM, seqOf, L2.atI, List.length_cons, ixN_0, Option.bind_some, List.getElem?_cons_zero]
theorem tup_at1 {x y : PV} {r : List PV} {h : HP} : ixM (.tup (x :: y :: r)) (.int 1) h = .ok y h := by simp only [ixM, seqOf, L2.atI, List.length_cons, ixN_1, Option.bind_some, List.getElem?_cons_zero, List.getElem?_cons_succ]
def pap (lo hi n : Int) (F : PV) : PV := .ins 0 [.tup [.int lo, .int hi], .int n, F]
theorem len_tup {xs : List PV} {h : HP} : lenM [.tup xs] h = .ok (.int xs.length) h := rfl
theorem add_mark {o F : PV} {lo hi n m : Int} {es pst ftr : List PV} {now : List Int} (hm : ¬ (lo ≤ m ∧ m ≤ hi)) : m_Filler_add [.ref 1, .int m] [o, fl (pap lo hi n F) es now pst ftr] = .ex 6 [] [o, fl (pap lo hi n F) es now pst ftr] := by
  have hd : (decide (lo ≤ m) && decide (m ≤ hi)) = false := by
    rw [Bool.eq_false_iff]; intro h; simp at h; exact hm h
  simp only [m_Filler_add, v_callF, List.map_cons, List.map_nil, List.length_cons, List.length_nil, List.cons_append, List.nil_append, Nat.reduceAdd, Nat.reduceSub, List.replicate, v_seq, v_if, v_not, v_tst, v_app, v_cons, v_nil, v_var, List.getElem?_cons_zero, List.getElem?_cons_succ, v_vb, v_bind_ok, fld, insAt, fl, pap, if_true, v_bin, v_cst, tup_at0, tup_at1, from_ok, hd, v_isB, v_toS_ok, Bool.not_false, bfi_t, rse, v_sb_ex, v_fin_ex]
  rfl
theorem add_full {o F : PV} {lo hi n m : Int} {es pst ftr : List PV} {now : List Int} (hm : lo ≤ m ∧ m ≤ hi) (hf : (now.length : Int) = n) : m_Filler_add [.ref 1, .int m] [o, fl (pap lo hi n F) es now pst ftr] = .ex 13 [] [o, fl (pap lo hi n F) es now pst ftr] := by
  have hd : (decide (lo ≤ m) && decide (m ≤ hi)) = true := by simp [hm]
  have he : (((now.map PV.int).length : Int) == n) = true := by simp [hf]
  simp only [m_Filler_add, v_callF, List.map_cons, List.map_nil, List.length_cons, List.length_nil, List.cons_append, List.nil_append, Nat.reduceAdd, Nat.reduceSub, List.replicate, v_seq, v_if, v_not, v_tst, v_app, v_cons, v_nil, v_var, List.getElem?_cons_zero, List.getElem?_cons_succ, v_vb, v_bind_ok, fld, insAt, fl, pap, if_true, v_bin, v_cst, tup_at0, tup_at1, from_ok, hd, v_isB, v_toS_ok, Bool.not_true, bfi_f, v_skip, v_sb_nx, len_tup, v_eq, he, bfi_t, rse, v_sb_ex, v_fin_ex]
  rfl
theorem add_ok {o F : PV} {lo hi n m : Int} {es pst ftr : List PV} {now : List Int} (he : IT es) (hl2 : es.length ≤ lim) (hm : lo ≤ m ∧ m ≤ hi) (hf : (now.length : Int) < n) (hn : now.length < 1000) (hp : pst.length < 1000) (hpp : purL pst = true) :
    ∃ k, m_Filler_add [.ref 1, .int m] [o, fl (pap lo hi n F) es now pst ftr] = .ok (.int k) [o, fl (pap lo hi n F) es (now ++ [m]) (pst ++ [.tup (now.map PV.int)]) []] := by
  have hd : (decide (lo ≤ m) && decide (m ≤ hi)) = true := by simp [hm]
  have hx : (((now.map PV.int).length : Int) == n) = false := by simp; omega
  obtain ⟨k, hk⟩ := left_ok (o := o) (P := pap lo hi n F) (es := es) (pst := pst ++ [.tup (now.map PV.int)]) (ftr := []) (now := now ++ [m]) he (by simp [lim]; omega) hl2
  refine ⟨k, ?_⟩
  have p1 : purL (pst ++ [.tup (now.map PV.int)]) = true := by
    rw [purL_append, hpp]; simp only [purL, pur, purL_ints]; rfl
  have p2 : purL (now.map PV.int ++ [.int m]) = true := by
    rw [purL_append, purL_ints]; rfl
  have m1 : ∀ h : HP, mkT (pst ++ [.tup (now.map PV.int)]) h = .ok (.tup (pst ++ [.tup (now.map PV.int)])) h := fun h => by
    unfold mkT; rw [if_pos]; simp [lim]; omega
  have m2 : ∀ h : HP, mkT (now.map PV.int ++ [.int m]) h = .ok (.tup (now.map PV.int ++ [.int m])) h := fun h => by
    unfold mkT; rw [if_pos]; simp [lim]; omega
  have m3 : ∀ h : HP, mkT [] h = .ok (.tup []) h := fun h => rfl
  have fn1 : (fnames 1).length = 5 := rfl
  unfold fl pap at hk
  rw [List.map_append, List.map_cons, List.map_nil] at hk
  simp only [m_Filler_add, v_callF, List.map_cons, List.map_nil, List.length_cons, List.length_nil, List.cons_append, List.nil_append, Nat.reduceAdd, Nat.reduceSub, List.replicate, v_seq, v_if, v_not, v_tst, v_app, v_cons, v_nil, v_var, List.getElem?_cons_zero, List.getElem?_cons_succ, v_vb, v_bind_ok, fld, insAt, fl, pap, if_true, v_bin, v_cst, tup_at0, tup_at1, from_ok, hd, v_isB, v_toS_ok, Bool.not_true, bfi_f, v_skip, v_sb_nx, len_tup, v_eq, hx,
    fldS, aStar, seqOf, m1, m2, m3, fn1, pur, p1, p2, List.set_cons_zero, List.set_cons_succ, putL, purL, Nat.reduceLeDiff, and_self, Nat.reduceLT, v_ret, mthd, hk, List.map_append]
  rfl
section
variable {o F : PV} {lo hi n m : Int} {es pst ftr : List PV} {now : List Int}
theorem told_mark (hm : ¬ (lo ≤ m ∧ m ≤ hi)) : m__law_told [.ref 1, .int m] [o, fl (pap lo hi n F) es now pst ftr] = .ok (.str [109, 97, 114, 107]) [o, fl (pap lo hi n F) es now pst ftr] := by
  have e := add_mark (o := o) (F := F) (n := n) (es := es) (pst := pst) (ftr := ftr) (now := now) hm
  unfold fl at e
  simp only [m__law_told, v_callF, List.map_cons, List.map_nil, List.length_cons, List.length_nil, List.cons_append, List.nil_append, Nat.reduceAdd, Nat.reduceSub, List.replicate, v_seq, v_set, v_cst, v_toS_ok, v_sb_nx, tryS, v_drop, mthd, v_var, List.getElem?_cons_zero, List.getElem?_cons_succ, List.set_cons_zero, List.set_cons_succ, v_vb, v_bind_ok, insAt, fl, if_true, v_cons, v_nil, e, v_toS_ex]
  rfl
theorem told_full (hm : lo ≤ m ∧ m ≤ hi) (hf : (now.length : Int) = n) : m__law_told [.ref 1, .int m] [o, fl (pap lo hi n F) es now pst ftr] = .ok (.str [102, 117, 108, 108]) [o, fl (pap lo hi n F) es now pst ftr] := by
  have e := add_full (o := o) (F := F) (n := n) (es := es) (pst := pst) (ftr := ftr) (now := now) hm hf
  unfold fl at e
  simp only [m__law_told, v_callF, List.map_cons, List.map_nil, List.length_cons, List.length_nil, List.cons_append, List.nil_append, Nat.reduceAdd, Nat.reduceSub, List.replicate, v_seq, v_set, v_cst, v_toS_ok, v_sb_nx, tryS, v_drop, mthd, v_var, List.getElem?_cons_zero, List.getElem?_cons_succ, List.set_cons_zero, List.set_cons_succ, v_vb, v_bind_ok, insAt, fl, if_true, v_cons, v_nil, e, v_toS_ex]
  rfl
theorem told_ok (he : IT es) (hl2 : es.length ≤ lim) (hm : lo ≤ m ∧ m ≤ hi) (hf : (now.length : Int) < n) (hn : now.length < 1000) (hp : pst.length < 1000) (hpp : purL pst = true) :
    m__law_told [.ref 1, .int m] [o, fl (pap lo hi n F) es now pst ftr] = .ok (.str []) [o, fl (pap lo hi n F) es (now ++ [m]) (pst ++ [.tup (now.map PV.int)]) []] := by
  obtain ⟨k, e⟩ := add_ok (o := o) (F := F) (n := n) (es := es) (pst := pst) (ftr := ftr) (now := now) he hl2 hm hf hn hp hpp
  unfold fl at e
  simp only [m__law_told, v_callF, List.map_cons, List.map_nil, List.length_cons, List.length_nil, List.cons_append, List.nil_append, Nat.reduceAdd, Nat.reduceSub, List.replicate, v_seq, v_set, v_cst, v_toS_ok, v_sb_nx, tryS, v_drop, mthd, v_var, List.getElem?_cons_zero, List.getElem?_cons_succ, List.set_cons_zero, List.set_cons_succ, v_vb, v_bind_ok, insAt, fl, if_true, v_cons, v_nil, e]
  rfl
theorem last_at {xs : List PV} {x : PV} {h : HP} : ixM (.tup (xs ++ [x])) (.int (-1)) h = .ok x h := by
  have e : L2.atI (xs ++ [x]) (-1) = some x := by
    unfold L2.atI ixN
    have h1 : ¬ (0 : Int) ≤ -1 := by decide
    have h2 : -(((xs ++ [x]).length : Nat) : Int) ≤ -1 := by simp; omega
    rw [if_neg h1, if_pos h2]
    have h3 : ((-1 : Int) + ((xs ++ [x]).length : Nat)).toNat = xs.length := by simp; omega
    rw [h3]; simp
  simp only [ixM, seqOf, e]
theorem but_last {xs : List PV} {x : PV} {h : HP} : slM (.tup (xs ++ [x])) none (some (-1)) h = .ok (.tup xs) h := by
  have e : cutL (xs ++ [x]) none (some (-1)) = xs := by
    unfold cutL
    have h0 : HT.sIx (xs ++ [x]).length 0 none = 0 := by simp [HT.sIx]
    have h1 : HT.sIx (xs ++ [x]).length (xs ++ [x]).length (some (-1)) = xs.length := by
      simp [HT.sIx]; omega
    rw [h0, h1]; simp
  simp only [slM, e]
theorem undo_ok {P : PV} {q : List PV} {prev : List Int} (hf : ftr.length < 1000) (hp : purL q = true) (hpf : purL ftr = true) : m_Filler_undo [.ref 1] [o, fl P es now (q ++ [.tup (prev.map PV.int)]) ftr] = .ok (.bl true) [o, fl P es prev q (ftr ++ [.tup (now.map PV.int)])] := by
  have hx : (((q ++ [PV.tup (prev.map PV.int)]).length : Int) == 0) = false := by simp; omega
  have p1 : purL (ftr ++ [.tup (now.map PV.int)]) = true := by
    rw [purL_append, hpf]; simp only [purL, pur, purL_ints]; rfl
  have m1 : ∀ h : HP, mkT (ftr ++ [.tup (now.map PV.int)]) h = .ok (.tup (ftr ++ [.tup (now.map PV.int)])) h := fun h => by
    unfold mkT; rw [if_pos]; simp [lim]; omega
  have fn1 : (fnames 1).length = 5 := rfl
  have ng : ∀ h : HP, negM (.int 1) h = .ok (.int (-1)) h := fun h => rfl
  simp only [m_Filler_undo, v_callF, List.map_cons, List.map_nil, List.length_cons, List.length_nil, List.cons_append, List.nil_append, Nat.reduceAdd, Nat.reduceSub, List.replicate, v_seq, v_if, v_tst, v_app, v_cons, v_nil, v_var, List.getElem?_cons_zero, List.getElem?_cons_succ, v_vb, v_bind_ok, fld, insAt, fl, if_true, v_bin, v_cst, len_tup, v_eq, hx, v_isB, v_toS_ok, bfi_f, v_skip, v_sb_nx,
    fldS, aStar, seqOf, m1, fn1, pur, p1, List.set_cons_zero, List.set_cons_succ, putL, purL_ints, hp, Nat.reduceLeDiff, and_self, Nat.reduceLT, v_ret, v_un, ng, last_at, slice, noP, isP, but_last]
  rfl
end
end Sm

namespace Sm
open PySem PySem.Spec PyProof.Rows L2
/-! ### the law -/
def preB : MS := seq L_2 (seq L_3 (seq L_4 L_5))
def stF (low size : Int) : PV := match preB [none, some (.ref 0), some (.int low), some (.int size), none, none, none] [.non] with
  | .nx _ [_, F] => F
  | _ => .non
def itB (es : List PV) : Bool := es.all fun e => match e with
  | .tup xs => (intsOf xs).isSome
  | _ => false
theorem ints_back : ∀ {xs : List PV} {ms : List Int}, intsOf xs = some ms → xs = ms.map PV.int
  | [], ms, h => by cases h; rfl
  | x :: xs, ms, h => by
    cases x with
    | int i =>
      unfold intsOf at h
      cases e : intsOf xs with
      | none => rw [e] at h; cases h
      | some ns =>
        rw [e] at h
        cases h
        rw [ints_back e]; rfl
    | _ => cases h
theorem it_of {es : List PV} (h : itB es = true) : IT es := fun e he => by
  have := List.all_eq_true.mp h e he
  cases e with
  | tup xs =>
    obtain ⟨ms, q⟩ := Option.isSome_iff_exists.mp this
    exact ⟨ms, by rw [ints_back q]⟩
  | _ => cases this
def chkF (low size : Int) : PV → Bool
  | .ins 1 [.ins 0 [.tup [.int l, .int h], .int n, _], .tup es, .tup [.int k], .tup [.tup []], .tup []] => l == low && (h == low + 2 && (n == size && (k == low + 1 && (itB es && decide (es.length ≤ lim)))))
  | _ => false
theorem chk_of {low size : Int} {F : PV} (h : chkF low size F = true) : ∃ es P, F = fl (pap low (low + 2) size P) es [low + 1] [.tup []] [] ∧ IT es ∧ es.length ≤ lim := by
  unfold chkF at h
  split at h
  · rename_i l g n P es k
    rw [Bool.and_eq_true, Bool.and_eq_true, Bool.and_eq_true, Bool.and_eq_true, Bool.and_eq_true] at h
    obtain ⟨h1, h2, h3, h4, h5, h6⟩ := h
    have e1 : l = low := by simpa using h1
    have e2 : g = low + 2 := by simpa using h2
    have e3 : n = size := by simpa using h3
    have e4 : k = low + 1 := by simpa using h4
    subst e1 e2 e3 e4
    exact ⟨es, P, rfl, it_of h5, of_decide_eq_true h6⟩
  · cases h
def PreR (sc : Option PV) (o : PV) (low size : Int) : Prop := preB [sc, some (.ref 0), some (.int low), some (.int size), none, none, none] [o] = .nx [sc, some (.ref 0), some (.int low), some (.int size), some (.ref 1), some (.lst []), none] [o, stF low size] ∧ chkF low size (stF low size) = true
section
variable {sc : Option PV} {o : PV}
theorem pre_0_0 : PreR sc o (-4) 2 := ⟨by kernel_rfl, by kernel_rfl⟩
theorem pre_0_1 : PreR sc o (-4) 3 := ⟨by kernel_rfl, by kernel_rfl⟩
theorem pre_0_2 : PreR sc o (-4) 4 := ⟨by kernel_rfl, by kernel_rfl⟩
theorem pre_0_3 : PreR sc o (-4) 5 := ⟨by kernel_rfl, by kernel_rfl⟩
theorem pre_1_0 : PreR sc o (-3) 2 := ⟨by kernel_rfl, by kernel_rfl⟩
theorem pre_1_1 : PreR sc o (-3) 3 := ⟨by kernel_rfl, by kernel_rfl⟩
theorem pre_1_2 : PreR sc o (-3) 4 := ⟨by kernel_rfl, by kernel_rfl⟩
theorem pre_1_3 : PreR sc o (-3) 5 := ⟨by kernel_rfl, by kernel_rfl⟩
theorem pre_2_0 : PreR sc o (-2) 2 := ⟨by kernel_rfl, by kernel_rfl⟩
theorem pre_2_1 : PreR sc o (-2) 3 := ⟨by kernel_rfl, by kernel_rfl⟩
theorem pre_2_2 : PreR sc o (-2) 4 := ⟨by kernel_rfl, by kernel_rfl⟩
theorem pre_2_3 : PreR sc o (-2) 5 := ⟨by kernel_rfl, by kernel_rfl⟩
theorem pre_3_0 : PreR sc o (-1) 2 := ⟨by kernel_rfl, by kernel_rfl⟩
theorem pre_3_1 : PreR sc o (-1) 3 := ⟨by kernel_rfl, by kernel_rfl⟩
theorem pre_3_2 : PreR sc o (-1) 4 := ⟨by kernel_rfl, by kernel_rfl⟩
theorem pre_3_3 : PreR sc o (-1) 5 := ⟨by kernel_rfl, by kernel_rfl⟩
theorem pre_4_0 : PreR sc o (0) 2 := ⟨by kernel_rfl, by kernel_rfl⟩
theorem pre_4_1 : PreR sc o (0) 3 := ⟨by kernel_rfl, by kernel_rfl⟩
theorem pre_4_2 : PreR sc o (0) 4 := ⟨by kernel_rfl, by kernel_rfl⟩
theorem pre_4_3 : PreR sc o (0) 5 := ⟨by kernel_rfl, by kernel_rfl⟩
theorem pre_5_0 : PreR sc o (1) 2 := ⟨by kernel_rfl, by kernel_rfl⟩
theorem pre_5_1 : PreR sc o (1) 3 := ⟨by kernel_rfl, by kernel_rfl⟩
theorem pre_5_2 : PreR sc o (1) 4 := ⟨by kernel_rfl, by kernel_rfl⟩
theorem pre_5_3 : PreR sc o (1) 5 := ⟨by kernel_rfl, by kernel_rfl⟩
theorem pre_6_0 : PreR sc o (2) 2 := ⟨by kernel_rfl, by kernel_rfl⟩
theorem pre_6_1 : PreR sc o (2) 3 := ⟨by kernel_rfl, by kernel_rfl⟩
theorem pre_6_2 : PreR sc o (2) 4 := ⟨by kernel_rfl, by kernel_rfl⟩
theorem pre_6_3 : PreR sc o (2) 5 := ⟨by kernel_rfl, by kernel_rfl⟩
theorem pre_7_0 : PreR sc o (3) 2 := ⟨by kernel_rfl, by kernel_rfl⟩
theorem pre_7_1 : PreR sc o (3) 3 := ⟨by kernel_rfl, by kernel_rfl⟩
theorem pre_7_2 : PreR sc o (3) 4 := ⟨by kernel_rfl, by kernel_rfl⟩
theorem pre_7_3 : PreR sc o (3) 5 := ⟨by kernel_rfl, by kernel_rfl⟩
theorem pre_8_0 : PreR sc o (4) 2 := ⟨by kernel_rfl, by kernel_rfl⟩
theorem pre_8_1 : PreR sc o (4) 3 := ⟨by kernel_rfl, by kernel_rfl⟩
theorem pre_8_2 : PreR sc o (4) 4 := ⟨by kernel_rfl, by kernel_rfl⟩
theorem pre_8_3 : PreR sc o (4) 5 := ⟨by kernel_rfl, by kernel_rfl⟩
theorem pre_run (a b : Int) (ha : 0 ≤ a) (ha2 : a < 9) (hb : 0 ≤ b) (hb2 : b < 4) : PreR sc o (a - 4) (2 + b) := by
  have h1 : a = 0 ∨ a = 1 ∨ a = 2 ∨ a = 3 ∨ a = 4 ∨ a = 5 ∨ a = 6 ∨ a = 7 ∨ a = 8 := by omega
  have h2 : b = 0 ∨ b = 1 ∨ b = 2 ∨ b = 3 := by omega
  rcases h1 with rfl | rfl | rfl | rfl | rfl | rfl | rfl | rfl | rfl
  · rcases h2 with rfl | rfl | rfl | rfl
    · exact pre_0_0
    · exact pre_0_1
    · exact pre_0_2
    · exact pre_0_3
  · rcases h2 with rfl | rfl | rfl | rfl
    · exact pre_1_0
    · exact pre_1_1
    · exact pre_1_2
    · exact pre_1_3
  · rcases h2 with rfl | rfl | rfl | rfl
    · exact pre_2_0
    · exact pre_2_1
    · exact pre_2_2
    · exact pre_2_3
  · rcases h2 with rfl | rfl | rfl | rfl
    · exact pre_3_0
    · exact pre_3_1
    · exact pre_3_2
    · exact pre_3_3
  · rcases h2 with rfl | rfl | rfl | rfl
    · exact pre_4_0
    · exact pre_4_1
    · exact pre_4_2
    · exact pre_4_3
  · rcases h2 with rfl | rfl | rfl | rfl
    · exact pre_5_0
    · exact pre_5_1
    · exact pre_5_2
    · exact pre_5_3
  · rcases h2 with rfl | rfl | rfl | rfl
    · exact pre_6_0
    · exact pre_6_1
    · exact pre_6_2
    · exact pre_6_3
  · rcases h2 with rfl | rfl | rfl | rfl
    · exact pre_7_0
    · exact pre_7_1
    · exact pre_7_2
    · exact pre_7_3
  · rcases h2 with rfl | rfl | rfl | rfl
    · exact pre_8_0
    · exact pre_8_1
    · exact pre_8_2
    · exact pre_8_3
end
end Sm

namespace Sm
open PySem PySem.Spec PyProof.Rows L2
def loopB : MS := (ifS (tst (bin (app (aCons (var 4) (aCons (bin (var 2) (app (aCons (var 1) (aCons (cst (.int 3)) aNil)) m__law_below) addM) aNil)) m__law_told) (cst (.str [])) neM)) (ret (cst (.bl false))) skip)
/-- what stands behind the loop -/
def PsT (pst : List PV) (now : List Int) : Prop := ∃ (q : List PV) (prev : List Int), pst = q ++ [.tup (prev.map PV.int)] ∧ prev.length + 1 = now.length ∧ purL q = true ∧ q.length ≤ now.length
theorem loop_run {sc e5 F : PV} {es : List PV} {low size : Int} (he : IT es) (hl2 : es.length ≤ lim) (hs : size < 100) : ∀ (items : List PV) (o : PV) (now : List Int) (pst ftr : List PV) (e6 : Option PV), DI o → PsT pst now → purL ftr = true → ftr.length < 100 → (now.length : Int) + items.length ≤ size →
    ∃ o' now' pst' ftr' e6', DI o' ∧ PsT pst' now' ∧ purL ftr' = true ∧ ftr'.length < 100 ∧ now'.length = now.length + items.length ∧
      forGo (gN 6) loopB items [some sc, some (.ref 0), some (.int low), some (.int size), some (.ref 1), some e5, e6] [o, fl (pap low (low + 2) size F) es now pst ftr] =
        .nx [some sc, some (.ref 0), some (.int low), some (.int size), some (.ref 1), some e5, e6'] [o', fl (pap low (low + 2) size F) es now' pst' ftr']
  | [], o, now, pst, ftr, e6, d, hp, hf, hfl, hn => ⟨o, now, pst, ftr, e6, d, hp, hf, hfl, by simp, rfl⟩
  | x :: xs, o, now, pst, ftr, e6, d, hp, hf, hfl, hn => by
    obtain ⟨v, o1, hv0, hv1, d1, eb⟩ := below_ok (n := 3) (t := [fl (pap low (low + 2) size F) es now pst ftr]) d (by decide) (by decide)
    obtain ⟨q, prev, rfl, hq, hpq, hql⟩ := id hp
    have hnl : (now.length : Int) + xs.length + 1 ≤ size := by simp at hn; omega
    have pp : purL (q ++ [.tup (prev.map PV.int)]) = true := by
      rw [purL_append, hpq]; simp only [purL, pur, purL_ints]; rfl
    have et := told_ok (o := o1) (F := F) (n := size) (m := low + v) (lo := low) (hi := low + 2) (es := es) (pst := q ++ [.tup (prev.map PV.int)]) (ftr := ftr) (now := now) he hl2 (by omega) (by omega) (by omega) (by simp; omega) pp
    obtain ⟨o', now', pst', ftr', e6', r1, r2, r3, r4, r5, r6⟩ := loop_run (sc := sc) (e5 := e5) (F := F) (low := low) he hl2 hs xs o1 (now ++ [low + v]) ((q ++ [.tup (prev.map PV.int)]) ++ [.tup (now.map PV.int)]) [] (some x) d1 ⟨q ++ [.tup (prev.map PV.int)], now, rfl, by simp, pp, by simp; omega⟩ rfl (by simp) (by simp; omega)
    refine ⟨o', now', pst', ftr', e6', r1, r2, r3, r4, by rw [r5]; simp; omega, ?_⟩
    have n0 : ∀ h : HP, neM (.str []) (.str []) h = .ok (.bl false) h := fun h => rfl
    simp only [forGo, v_gN, v_toS_ok, loopB, v_if, v_tst, v_bin, v_app, v_cons, v_nil, v_var, v_cst, v_bind_ok, List.getElem?_cons_zero, List.getElem?_cons_succ, List.set_cons_zero, List.set_cons_succ, v_vb, eb, v_add, et, n0, v_isB, bfi_f, v_skip]
    exact r6
theorem rng_len : ∀ (n : Nat) (lo : Int), (rngL lo n).length = n
  | 0, _ => rfl
  | n + 1, lo => by simp only [rngL, List.length_cons, rng_len n (lo + 1)]
theorem len_e {o P : PV} {es pst ftr : List PV} {now : List Int} : m_Filler___len__ [.ref 1] [o, fl P es now pst ftr] = .ok (.int now.length) [o, fl P es now pst ftr] := by
  simp only [m_Filler___len__, v_callF, List.map_cons, List.map_nil, List.length_cons, List.length_nil, List.cons_append, List.nil_append, Nat.reduceAdd, Nat.reduceSub, List.replicate, v_ret, v_app, v_cons, v_nil, v_var, List.getElem?_cons_zero, List.getElem?_cons_succ, v_vb, v_bind_ok, fld, insAt, fl, if_true, len_tup, v_toS_ok, v_fin_rt, v_frz_int, List.length_map]
  rfl
theorem len_b {n : Nat} (hl : n < 1000) : lnB n = true := by
  unfold lnB; simp; omega
theorem lenO_eq {c : Nat} {mf : List PV → M PV} {x : PV} {xs : List PV} {h h2 : HP} {n : Int} (hi : insAt h x = some (c, xs)) (hm : mf [x] h = .ok (.int n) h2) (hb : lnB n = true) : lenO c mf [x] h = .ok (.int n) h2 := by
  unfold lenO
  simp only [hi, hm, v_nbind_ok, hb, if_true]
theorem len_ok {o P : PV} {es pst ftr : List PV} {now : List Int} (hl : now.length < 1000) : lenO 1 m_Filler___len__ [.ref 1] [o, fl P es now pst ftr] = .ok (.int now.length) [o, fl P es now pst ftr] :=
  lenO_eq rfl len_e (len_b hl)
def okT : R PV → Option (Bool × HP)
  | .ok (.bl b) h => some (b, h)
  | _ => none
theorem okT_of {r : R PV} {b : Bool} {h : HP} (e : okT r = some (b, h)) : r = .ok (.bl b) h := by
  cases r with
  | ok x h' =>
    cases x with
    | bl c => cases e; rfl
    | _ => cases e
  | _ => cases e
theorem made_ok {o F : PV} : (makeM 0 m_Report___init__ [.non, (.str [115, 97, 109, 112, 108, 101]), .non, .non, .non] [.int 0, .int 11, .int 8, .str [53]] [o, F]).bind (fun r h => m__law_made [r] h) = .ok (.bl true) [o, F] := okT_of (by kernel_rfl)
theorem end7 {sc e5 o F : PV} {e6 : Option PV} {es pst ftr : List PV} {low size : Int} {now : List Int} (hn : (now.length : Int) = size) (hl : now.length < 1000) :
    L_7 [some sc, some (.ref 0), some (.int low), some (.int size), some (.ref 1), some e5, e6] [o, fl (pap low (low + 2) size F) es now pst ftr] =
      .nx [some sc, some (.ref 0), some (.int low), some (.int size), some (.ref 1), some e5, e6] [o, fl (pap low (low + 2) size F) es now pst ftr] := by
  have n1 : ∀ h : HP, neM (.str [102, 117, 108, 108]) (.str [102, 117, 108, 108]) h = .ok (.bl false) h := fun h => rfl
  have n2 : ∀ h : HP, neM (.str [109, 97, 114, 107]) (.str [109, 97, 114, 107]) h = .ok (.bl false) h := fun h => rfl
  have n3 : (!((now.length : Int) == size)) = false := by simp [hn]
  simp only [L_7, v_if, v_or, v_tst, v_bin, v_app, v_cons, v_nil, v_var, v_cst, v_bind_ok, List.getElem?_cons_zero, List.getElem?_cons_succ, v_vb, told_full (o := o) (F := F) (lo := low) (hi := low + 2) (n := size) (m := low) (es := es) (pst := pst) (ftr := ftr) (now := now) (by omega) hn, n1, v_isB, bfi_f, v_sub,
    told_mark (o := o) (F := F) (lo := low) (hi := low + 2) (n := size) (m := low - 1) (es := es) (pst := pst) (ftr := ftr) (now := now) (by omega), n2, len_ok hl, v_ne, n3, v_toS_ok, v_skip]
theorem end8 {sc e5 o F : PV} {e6 : Option PV} {es pst ftr : List PV} {low size : Int} {now : List Int} (hn : (now.length : Int) = size) (hl : now.length < 1000) (hp : PsT pst now) (hf : purL ftr = true) (hfl : ftr.length < 100) :
    ∃ h', L_8 [some sc, some (.ref 0), some (.int low), some (.int size), some (.ref 1), some e5, e6] [o, fl (pap low (low + 2) size F) es now pst ftr] = .rt (.bl true) h' := by
  obtain ⟨q, prev, rfl, hq, hpq, hql⟩ := hp
  have n3 : ((prev.length : Int) == size - 1) = true := by simp; omega
  refine ⟨[o, fl (pap low (low + 2) size F) es prev q (ftr ++ [.tup (now.map PV.int)])], ?_⟩
  have eu := undo_ok (o := o) (P := pap low (low + 2) size F) (es := es) (now := now) (q := q) (prev := prev) (ftr := ftr) (by omega) hpq hf
  have el := len_ok (o := o) (P := pap low (low + 2) size F) (es := es) (now := prev) (pst := q) (ftr := ftr ++ [.tup (now.map PV.int)]) (by omega)
  have em := made_ok (o := o) (F := fl (pap low (low + 2) size F) es prev q (ftr ++ [.tup (now.map PV.int)]))
  have hm : mthd 1 m_Filler_undo (var 4) aNil [some sc, some (.ref 0), some (.int low), some (.int size), some (.ref 1), some e5, e6] [o, fl (pap low (low + 2) size F) es now (q ++ [.tup (prev.map PV.int)]) ftr] = .ok (.bl true) [o, fl (pap low (low + 2) size F) es prev q (ftr ++ [.tup (now.map PV.int)])] := by
    unfold fl at eu ⊢
    simp only [mthd, v_var, List.getElem?_cons_zero, List.getElem?_cons_succ, v_vb, v_bind_ok, insAt, if_true, v_nil, eu]
  cases q1 : makeM 0 m_Report___init__ [.non, (.str [115, 97, 109, 112, 108, 101]), .non, .non, .non] [.int 0, .int 11, .int 8, .str [53]] [o, fl (pap low (low + 2) size F) es prev q (ftr ++ [.tup (now.map PV.int)])] with
  | bad => rw [q1] at em; cases em
  | ex c f h => rw [q1] at em; cases em
  | ok r h =>
    rw [q1, v_bind_ok] at em
    simp only [L_8, v_ret, v_andV, hm, v_bind_ok, v_bx, bfi_t, v_bin, v_app, v_cons, v_nil, v_var, v_cst, List.getElem?_cons_zero, List.getElem?_cons_succ, v_vb, el, v_sub, v_eq, n3, q1, em, v_toS_ok]
theorem law_true (ns : List Int) (hl : ns.length ≤ 63) : ∃ hp, m_law [.scr (ns.map .int)] [] = .ok (.bl true) hp := by
  obtain ⟨o, d, er⟩ := random_ok ns 3016 hl (by decide) (by decide)
  obtain ⟨v1, o1, a0, a1, d1, e1⟩ := below_ok (n := 9) (t := []) d (by decide) (by decide)
  obtain ⟨v2, o2, b0, b1, d2, e2⟩ := below_ok (n := 4) (t := []) d1 (by decide) (by decide)
  obtain ⟨ep, ck⟩ := pre_run (sc := some (.scr (ns.map .int))) (o := o2) v1 v2 a0 a1 b0 b1
  obtain ⟨es, P, eF, hi, hl2⟩ := chk_of ck
  rw [eF] at ep
  have as : seq L_2 (seq L_3 (seq L_4 (seq L_5 (seq L_6 (seq L_7 L_8))))) = seq preB (seq L_6 (seq L_7 L_8)) := by
    unfold preB; simp only [seq_assoc]
  have rg : ∀ h : HP, rng1M [.int (2 + v2 - 1)] h = .ok (rngL 0 (2 + v2 - 1).toNat) h := fun h => by
    have : rB (2 + v2 - 1) = true := by unfold rB; simp; omega
    simp only [rng1M, this]
  obtain ⟨o', now', pst', ftr', e6', r1, r2, r3, r4, r5, r6⟩ := loop_run (sc := .scr (ns.map .int)) (e5 := .lst []) (F := P) (low := v1 - 4) (size := 2 + v2) hi hl2 (by omega) (rngL 0 (2 + v2 - 1).toNat) o2 [v1 - 4 + 1] [.tup []] [] none d2 ⟨[], [], rfl, rfl, rfl, by simp⟩ rfl (by simp) (by rw [rng_len]; simp; omega)
  rw [rng_len] at r5
  have hn : (now'.length : Int) = 2 + v2 := by simp at r5; omega
  have l6 : L_6 = forS (iApp (aCons (bin (var 3) (cst (.int 1)) subM) aNil) rng1M) (gN 6) loopB := rfl
  obtain ⟨h', e8⟩ := end8 (sc := .scr (ns.map .int)) (e5 := .lst []) (e6 := e6') (o := o') (F := P) (es := es) (low := v1 - 4) hn (by omega) r2 r3 r4
  have e7 := end7 (sc := .scr (ns.map .int)) (e5 := .lst []) (e6 := e6') (o := o') (F := P) (es := es) (low := v1 - 4) (pst := pst') (ftr := ftr') hn (by omega)
  refine ⟨h'.take 0, ?_⟩
  unfold m_law
  rw [as]
  simp only [v_callF, List.map_cons, List.map_nil, List.length_cons, List.length_nil, List.cons_append, List.nil_append, Nat.reduceAdd, Nat.reduceSub, List.replicate, v_seq, L_0, L_1, v_set, par2, v_app, v_cons, v_nil, v_var, v_cst, v_bin, v_bind_ok, v_toS_ok, List.getElem?_cons_zero, List.getElem?_cons_succ, List.set_cons_zero, List.set_cons_succ, v_vb, er, v_sb_nx, e1, e2, v_sub, v_add, ep, l6, v_forS, v_iApp, rg, r6, e7, e8, v_fin_rt, v_frz_bl]
end Sm

namespace Sm
open PySem PySem.Spec PyProof.Rows L2
def top (i : Nat) : Stmt := PySem.Challenge.pw_meansinprint_k16_fillers_refused.main.body.getD i (.Pass ⟨0, 0, 0, 0⟩)
/-- what the top leaves, as far as the law goes -/
structure Hyp (K : PySem.W.Frag) (mg : Str → Option Value) : Prop where
  d_is_integer : ∃ f fd, mg "is_integer" = some (.ref f) ∧ FunD K "is_integer" "is_integer" (defArgs (top 15)) (defBody (top 15)) (defScope (top 15)) [] [] f fd
  d_is_from : ∃ f fd, mg "is_from" = some (.ref f) ∧ FunD K "is_from" "is_from" (defArgs (top 16)) (defBody (top 16)) (defScope (top 16)) [] [] f fd
  d_are_figures : ∃ f fd, mg "are_figures" = some (.ref f) ∧ FunD K "are_figures" "are_figures" (defArgs (top 17)) (defBody (top 17)) (defScope (top 17)) [] [] f fd
  d_is_print : ∃ f fd, mg "is_print" = some (.ref f) ∧ FunD K "is_print" "is_print" (defArgs (top 18)) (defBody (top 18)) (defScope (top 18)) [] [] f fd
  d_ten_to : ∃ f fd, mg "ten_to" = some (.ref f) ∧ FunD K "ten_to" "ten_to" (defArgs (top 19)) (defBody (top 19)) (defScope (top 19)) [] [] f fd
  d_digits_of : ∃ f fd, mg "digits_of" = some (.ref f) ∧ FunD K "digits_of" "digits_of" (defArgs (top 20)) (defBody (top 20)) (defScope (top 20)) [] [] f fd
  d_units_of : ∃ f fd, mg "units_of" = some (.ref f) ∧ FunD K "units_of" "units_of" (defArgs (top 21)) (defBody (top 21)) (defScope (top 21)) [] [] f fd
  d_is_printed : ∃ f fd, mg "is_printed" = some (.ref f) ∧ FunD K "is_printed" "is_printed" (defArgs (top 22)) (defBody (top 22)) (defScope (top 22)) [] [] f fd
  d_check_scale : ∃ f fd, mg "check_scale" = some (.ref f) ∧ FunD K "check_scale" "check_scale" (defArgs (top 28)) (defBody (top 28)) (defScope (top 28)) [] [] f fd
  d_check_prints : ∃ f fd, mg "check_prints" = some (.ref f) ∧ FunD K "check_prints" "check_prints" (defArgs (top 29)) (defBody (top 29)) (defScope (top 29)) [] [] f fd
  d_check_ends : ∃ f fd, mg "check_ends" = some (.ref f) ∧ FunD K "check_ends" "check_ends" (defArgs (top 30)) (defBody (top 30)) (defScope (top 30)) [] [] f fd
  d_ends_of : ∃ f fd, mg "ends_of" = some (.ref f) ∧ FunD K "ends_of" "ends_of" (defArgs (top 32)) (defBody (top 32)) (defScope (top 32)) [] [] f fd
  d_scale_sums : ∃ f fd, mg "scale_sums" = some (.ref f) ∧ FunD K "scale_sums" "scale_sums" (defArgs (top 34)) (defBody (top 34)) (defScope (top 34)) [] [] f fd
  d_range_of : ∃ f fd, mg "range_of" = some (.ref f) ∧ FunD K "range_of" "range_of" (defArgs (top 35)) (defBody (top 35)) (defScope (top 35)) [] [] f fd
  d_is_spread : ∃ f fd, mg "is_spread" = some (.ref f) ∧ FunD K "is_spread" "is_spread" (defArgs (top 37)) (defBody (top 37)) (defScope (top 37)) [] [] f fd
  d_does_fit : ∃ f fd, mg "does_fit" = some (.ref f) ∧ FunD K "does_fit" "does_fit" (defArgs (top 40)) (defBody (top 40)) (defScope (top 40)) [] [] f fd
  d_how_many : ∃ f fd, mg "how_many" = some (.ref f) ∧ FunD K "how_many" "how_many" (defArgs (top 41)) (defBody (top 41)) (defScope (top 41)) [] [] f fd
  d_check_listed : ∃ f fd, mg "check_listed" = some (.ref f) ∧ FunD K "check_listed" "check_listed" (defArgs (top 42)) (defBody (top 42)) (defScope (top 42)) [] [] f fd
  d_rows_of : ∃ f fd, mg "rows_of" = some (.ref f) ∧ FunD K "rows_of" "rows_of" (defArgs (top 43)) (defBody (top 43)) (defScope (top 43)) [] [] f fd
  d_lists_by : ∃ f fd, mg "lists_by" = some (.ref f) ∧ FunD K "lists_by" "lists_by" (defArgs (top 44)) (defBody (top 44)) (defScope (top 44)) [] [] f fd
  d_has_all : ∃ f fd, mg "has_all" = some (.ref f) ∧ FunD K "has_all" "has_all" (defArgs (top 46)) (defBody (top 46)) (defScope (top 46)) [] [] f fd
  d__law_random : ∃ f fd, mg "_law_random" = some (.ref f) ∧ FunD K "_law_random" "_law_random" (defArgs (top 49)) (defBody (top 49)) (defScope (top 49)) [] [] f fd
  d__law_below : ∃ f fd, mg "_law_below" = some (.ref f) ∧ FunD K "_law_below" "_law_below" (defArgs (top 50)) (defBody (top 50)) (defScope (top 50)) [] [] f fd
  d__law_pick : ∃ f fd, mg "_law_pick" = some (.ref f) ∧ FunD K "_law_pick" "_law_pick" (defArgs (top 51)) (defBody (top 51)) (defScope (top 51)) [] [] f fd
  d__law_equal : ∃ f fd, mg "_law_equal" = some (.ref f) ∧ FunD K "_law_equal" "_law_equal" (defArgs (top 52)) (defBody (top 52)) (defScope (top 52)) [] [] f fd
  d__law_told : ∃ f fd, mg "_law_told" = some (.ref f) ∧ FunD K "_law_told" "_law_told" (defArgs (top 53)) (defBody (top 53)) (defScope (top 53)) [] [] f fd
  d__law_made : ∃ f fd, mg "_law_made" = some (.ref f) ∧ FunD K "_law_made" "_law_made" (defArgs (top 54)) (defBody (top 54)) (defScope (top 54)) [] [] f fd
  d_law : ∃ f fd, mg "law" = some (.ref f) ∧ FunD K "law" "law" (defArgs (top 55)) (defBody (top 55)) (defScope (top 55)) [] [] f fd
  d_Report___init__ : ∃ C f fd, mg (cname 0) = some (.ref C) ∧ Mk K C f ∧ FunD K "__init__" "Report.__init__" (defArgs (inClass (top 31) 0)) (defBody (inClass (top 31) 0)) (defScope (inClass (top 31) 0)) [.non, .str "sample", .non, .non, .non] [] f fd
  d_Filler___init__ : ∃ C f fd, mg (cname 1) = some (.ref C) ∧ Mk K C f ∧ FunD K "__init__" "Filler.__init__" (defArgs (inClass (top 47) 0)) (defBody (inClass (top 47) 0)) (defScope (inClass (top 47) 0)) [] [] f fd
  d_Report_low : ∃ C p g fd, mg (cname 0) = some (.ref C) ∧ Cls K C ∧ PropOf K C "low" p g ∧ FunD K "low" "Report.low" (defArgs (inClass (top 31) 1)) (defBody (inClass (top 31) 1)) (defScope (inClass (top 31) 1)) [] [] g fd
  d_Report_high : ∃ C p g fd, mg (cname 0) = some (.ref C) ∧ Cls K C ∧ PropOf K C "high" p g ∧ FunD K "high" "Report.high" (defArgs (inClass (top 31) 2)) (defBody (inClass (top 31) 2)) (defScope (inClass (top 31) 2)) [] [] g fd
  d_Report_size : ∃ C p g fd, mg (cname 0) = some (.ref C) ∧ Cls K C ∧ PropOf K C "size" p g ∧ FunD K "size" "Report.size" (defArgs (inClass (top 31) 3)) (defBody (inClass (top 31) 3)) (defScope (inClass (top 31) 3)) [] [] g fd
  d_Report_mean : ∃ C p g fd, mg (cname 0) = some (.ref C) ∧ Cls K C ∧ PropOf K C "mean" p g ∧ FunD K "mean" "Report.mean" (defArgs (inClass (top 31) 4)) (defBody (inClass (top 31) 4)) (defScope (inClass (top 31) 4)) [] [] g fd
  d_Report_spread : ∃ C p g fd, mg (cname 0) = some (.ref C) ∧ Cls K C ∧ PropOf K C "spread" p g ∧ FunD K "spread" "Report.spread" (defArgs (inClass (top 31) 5)) (defBody (inClass (top 31) 5)) (defScope (inClass (top 31) 5)) [] [] g fd
  d_Report_kind : ∃ C p g fd, mg (cname 0) = some (.ref C) ∧ Cls K C ∧ PropOf K C "kind" p g ∧ FunD K "kind" "Report.kind" (defArgs (inClass (top 31) 6)) (defBody (inClass (top 31) 6)) (defScope (inClass (top 31) 6)) [] [] g fd
  d_Report_least : ∃ C p g fd, mg (cname 0) = some (.ref C) ∧ Cls K C ∧ PropOf K C "least" p g ∧ FunD K "least" "Report.least" (defArgs (inClass (top 31) 7)) (defBody (inClass (top 31) 7)) (defScope (inClass (top 31) 7)) [] [] g fd
  d_Report_greatest : ∃ C p g fd, mg (cname 0) = some (.ref C) ∧ Cls K C ∧ PropOf K C "greatest" p g ∧ FunD K "greatest" "Report.greatest" (defArgs (inClass (top 31) 8)) (defBody (inClass (top 31) 8)) (defScope (inClass (top 31) 8)) [] [] g fd
  d_Report_middle : ∃ C p g fd, mg (cname 0) = some (.ref C) ∧ Cls K C ∧ PropOf K C "middle" p g ∧ FunD K "middle" "Report.middle" (defArgs (inClass (top 31) 9)) (defBody (inClass (top 31) 9)) (defScope (inClass (top 31) 9)) [] [] g fd
  d_Filler_report : ∃ C p g fd, mg (cname 1) = some (.ref C) ∧ Cls K C ∧ PropOf K C "report" p g ∧ FunD K "report" "Filler.report" (defArgs (inClass (top 47) 1)) (defBody (inClass (top 47) 1)) (defScope (inClass (top 47) 1)) [] [] g fd
  d_Filler_marks : ∃ C p g fd, mg (cname 1) = some (.ref C) ∧ Cls K C ∧ PropOf K C "marks" p g ∧ FunD K "marks" "Filler.marks" (defArgs (inClass (top 47) 2)) (defBody (inClass (top 47) 2)) (defScope (inClass (top 47) 2)) [] [] g fd
  d_Filler___len__ : ∃ C g fd, mg (cname 1) = some (.ref C) ∧ Cls K C ∧ Meth K C "__len__" g ∧ FunD K "__len__" "Filler.__len__" (defArgs (inClass (top 47) 3)) (defBody (inClass (top 47) 3)) (defScope (inClass (top 47) 3)) [] [] g fd
  d_Filler_left : ∃ C g fd, mg (cname 1) = some (.ref C) ∧ Cls K C ∧ Meth K C "left" g ∧ FunD K "left" "Filler.left" (defArgs (inClass (top 47) 4)) (defBody (inClass (top 47) 4)) (defScope (inClass (top 47) 4)) [] [] g fd
  d_Filler_add : ∃ C g fd, mg (cname 1) = some (.ref C) ∧ Cls K C ∧ Meth K C "add" g ∧ FunD K "add" "Filler.add" (defArgs (inClass (top 47) 6)) (defBody (inClass (top 47) 6)) (defScope (inClass (top 47) 6)) [] [] g fd
  d_Filler_undo : ∃ C g fd, mg (cname 1) = some (.ref C) ∧ Cls K C ∧ Meth K C "undo" g ∧ FunD K "undo" "Filler.undo" (defArgs (inClass (top 47) 7)) (defBody (inClass (top 47) 7)) (defScope (inClass (top 47) 7)) [] [] g fd
  d_Filler_redo : ∃ C g fd, mg (cname 1) = some (.ref C) ∧ Cls K C ∧ Meth K C "redo" g ∧ FunD K "redo" "Filler.redo" (defArgs (inClass (top 47) 8)) (defBody (inClass (top 47) 8)) (defScope (inClass (top 47) 8)) [] [] g fd
  b_abs : mg "abs" = none
  b_all : mg "all" = none
  b_any : mg "any" = none
  b_bool : mg "bool" = none
  b_dict : mg "dict" = none
  b_int : mg "int" = none
  b_isinstance : mg "isinstance" = none
  b_len : mg "len" = none
  b_list : mg "list" = none
  b_max : mg "max" = none
  b_min : mg "min" = none
  b_range : mg "range" = none
  b_sorted : mg "sorted" = none
  b_str : mg "str" = none
  b_sum : mg "sum" = none
  b_tuple : mg "tuple" = none
  g_FIGURES : Gc K mg "FIGURES" (.str [48, 49, 50, 51, 52, 53, 54, 55, 56, 57])
  g_KINDS : Gc K mg "KINDS" (.tup [(.str [115, 97, 109, 112, 108, 101]), (.str [119, 104, 111, 108, 101])])
  g_MOST_DIGITS : Gc K mg "MOST_DIGITS" (.int 4)
  g_MOST_LISTS : Gc K mg "MOST_LISTS" (.int 20000)
  g_MOST_MARK : Gc K mg "MOST_MARK" (.int 50)
  g_MOST_SIZE : Gc K mg "MOST_SIZE" (.int 1000000)
  g_MOST_WHOLE : Gc K mg "MOST_WHOLE" (.int 4)
  g_MOST_WIDTH : Gc K mg "MOST_WIDTH" (.int 11)
  x_0 : ExcF K mg 0
  x_1 : ExcF K mg 1
  x_3 : ExcF K mg 3
  x_6 : ExcF K mg 6
  x_11 : ExcF K mg 11
  x_13 : ExcF K mg 13
  xm_6 : ExmF K mg 6
  xm_11 : ExmF K mg 11
  xm_13 : ExmF K mg 13
  n_0_0 : ∀ C, mg (cname 0) = some (.ref C) → Cls K C ∧ NoAttr K C "scale"
  n_0_1 : ∀ C, mg (cname 0) = some (.ref C) → Cls K C ∧ NoAttr K C "many"
  n_0_2 : ∀ C, mg (cname 0) = some (.ref C) → Cls K C ∧ NoAttr K C "facts"
  n_1_0 : ∀ C, mg (cname 1) = some (.ref C) → Cls K C ∧ NoAttr K C "paper"
  n_1_1 : ∀ C, mg (cname 1) = some (.ref C) → Cls K C ∧ NoAttr K C "every"
  n_1_2 : ∀ C, mg (cname 1) = some (.ref C) → Cls K C ∧ NoAttr K C "now"
  n_1_3 : ∀ C, mg (cname 1) = some (.ref C) → Cls K C ∧ NoAttr K C "past"
  n_1_4 : ∀ C, mg (cname 1) = some (.ref C) → Cls K C ∧ NoAttr K C "future"
section
variable {P : Program} {w : World} {K : PySem.W.Frag} {mg : Str → Option Value} {base : Heap}
def N_is_integer : List Str := ["value"]
theorem sc_is_integer : FnScope N_is_integer ["value"] (defScope (top 15)) := ⟨rfl, rfl, rfl, by decide +kernel, rfl, by decide +kernel, by decide +kernel⟩
theorem ok_is_integer (h : Hyp K mg) : Fnc P w K mg base "is_integer" 1 1 m_is_integer := by
  obtain ⟨f, fd, hm, F⟩ := h.d_is_integer
  refine ⟨f, fd, ["value"], rfl, hm, F.kp, (FunD.bindsN F (fun _ _ _ _ _ _ us hl => match us, hl with | [_], _ => rfl)), ?_⟩
  have sc := sc_is_integer
  refine fn_m F sc (fun cdv A outer s H E hr => ?_)
  have tk : Takes (cxOf (L2.CX P w) P w K mg base N_is_integer "is_integer" (defScope (top 15)) f cdv A outer s H E) (fun c d _ H' => E c d H') := takes_of rfl rfl rfl rfl
  exact (bm_one (sm_ret (em_and (em_isi 2 (by decide) rfl h.b_isinstance rfl h.b_int (by decide +kernel) (em_var (pv 0))) (em_one (em_not (em_isi 1 (by decide) rfl h.b_isinstance rfl h.b_bool (by decide +kernel) (em_var (pv 0))))))))
def N_is_from : List Str := ["value", "low", "high"]
theorem sc_is_from : FnScope N_is_from ["value", "low", "high"] (defScope (top 16)) := ⟨rfl, rfl, rfl, by decide +kernel, rfl, by decide +kernel, by decide +kernel⟩
theorem ok_is_from (h : Hyp K mg) : Fnc P w K mg base "is_from" 3 2 m_is_from := by
  obtain ⟨f, fd, hm, F⟩ := h.d_is_from
  refine ⟨f, fd, ["value", "low", "high"], rfl, hm, F.kp, (FunD.bindsN F (fun _ _ _ _ _ _ us hl => match us, hl with | [_, _, _], _ => rfl)), ?_⟩
  have sc := sc_is_from
  refine fn_m F sc (fun cdv A outer s H E hr => ?_)
  have tk : Takes (cxOf (L2.CX P w) P w K mg base N_is_from "is_from" (defScope (top 16)) f cdv A outer s H E) (fun c d _ H' => E c d H') := takes_of rfl rfl rfl rfl
  exact (bm_one (sm_ret (em_and (em_call (ok_is_integer h) hr (by decide) rfl tk (am_cons (em_var (pv 0)) am_nil) (len_cons (fun _ _ _ _ => len_nil))) (em_one (em_chain o_le o_le (em_var (pv 1)) (em_var (pv 0)) (em_var (pv 2)))))))
def N_are_figures : List Str := ["word", "most", "sign"]
theorem sc_are_figures : FnScope N_are_figures ["word", "most"] (defScope (top 17)) := ⟨rfl, rfl, rfl, by decide +kernel, rfl, by decide +kernel, by decide +kernel⟩
theorem ok_are_figures (h : Hyp K mg) : Fnc P w K mg base "are_figures" 2 1 m_are_figures := by
  obtain ⟨f, fd, hm, F⟩ := h.d_are_figures
  refine ⟨f, fd, ["word", "most"], rfl, hm, F.kp, (FunD.bindsN F (fun _ _ _ _ _ _ us hl => match us, hl with | [_, _], _ => rfl)), ?_⟩
  have sc := sc_are_figures
  refine fn_m F sc (fun cdv A outer s H E hr => ?_)
  have tk : Takes (cxOf (L2.CX P w) P w K mg base N_are_figures "are_figures" (defScope (top 17)) f cdv A outer s H E) (fun c d _ H' => E c d H') := takes_of rfl rfl rfl rfl
  exact (bm_one (sm_ret (em_and (em_chain o_le o_le em_int (em_blt c_len rfl h.b_len (by decide +kernel) (am_cons (em_var (pv 0)) am_nil)) (em_var (pv 1))) (em_one (em_blt (c_all rfl) rfl h.b_all (by decide +kernel) (am_cons (em_lc (own := [("sign", 2)]) rfl sc.nd (im_any (em_var (pv 0))) (blkOk_by (N := N_are_figures) (sc := defScope (top 17)) (by decide +kernel)) (fun _ _ _ _ _ => (gm_name (by decide) sc.nd rfl (by first | exact Or.inl rfl | exact Or.inr rfl))) (fun _ _ _ _ _ => tsm_nil) (fun _ _ _ _ _ => (em_cop o_in (em_var (pv 2)) (em_glob h.g_FIGURES rfl) rfl))) am_nil))))))
def N_is_print : List Str := ["value", "plain", "parts", "sign"]
theorem sc_is_print : FnScope N_is_print ["value"] (defScope (top 18)) := ⟨rfl, rfl, rfl, by decide +kernel, rfl, by decide +kernel, by decide +kernel⟩
theorem ok_is_print (h : Hyp K mg) : Fnc P w K mg base "is_print" 1 2 m_is_print := by
  obtain ⟨f, fd, hm, F⟩ := h.d_is_print
  refine ⟨f, fd, ["value"], rfl, hm, F.kp, (FunD.bindsN F (fun _ _ _ _ _ _ us hl => match us, hl with | [_], _ => rfl)), ?_⟩
  have sc := sc_is_print
  refine fn_m F sc (fun cdv A outer s H E hr => ?_)
  have tk : Takes (cxOf (L2.CX P w) P w K mg base N_is_print "is_print" (defScope (top 18)) f cdv A outer s H E) (fun c d _ H' => E c d H') := takes_of rfl rfl rfl rfl
  exact (bm_cons (sm_if (tm_not (tm_val (em_isi 3 (by decide) rfl h.b_isinstance rfl h.b_str (by decide +kernel) (em_var (pv 0))))) (bm_one (sm_ret em_bl)) bm_nil)
    (bm_cons (sm_set (i := 1) sc.nd rfl (by first | exact Or.inl rfl | exact Or.inr rfl) (em_ifExp (tm_cop (o_eq hr.units) (em_slice (em_var (pv 0)) om_none (om_some em_int)) (em_strL (by decide +kernel)) (nomark _)) (em_slice (em_var (pv 0)) (om_some em_int) om_none) (em_var (pv 0))))
    (bm_cons (sm_set (i := 2) sc.nd rfl (by first | exact Or.inl rfl | exact Or.inr rfl) (em_meth m_split (em_var (pv 1)) (am_cons (em_strL (by decide +kernel)) am_nil)))
    (bm_cons (sm_if (WM.tm (wm_or (tm_cop o_gt (em_blt c_len rfl h.b_len (by decide +kernel) (am_cons (em_var (pv 2)) am_nil)) em_int (nomark _)) (wm_or (tm_not (tm_val (em_call (ok_are_figures h) hr (by decide) rfl tk (am_cons (em_sub i_seq (em_var (pv 2)) em_int (fun _ _ => rfl)) (am_cons (em_glob h.g_MOST_WHOLE rfl) am_nil)) (len_cons (len_cons (fun _ _ _ _ => len_nil)))))) (wm_or1 (WM.tm (wm_and (tm_cop (o_eq hr.units) (em_sub i_seq (em_sub i_seq (em_var (pv 2)) em_int (fun _ _ => rfl)) em_int (fun _ _ => rfl)) (em_strL (by decide +kernel)) (nomark _)) (wm_and1 (tm_cop (o_ne hr.units) (em_sub i_seq (em_var (pv 2)) em_int (fun _ _ => rfl)) (em_strL (by decide +kernel)) (nomark _))))))))) (bm_one (sm_ret em_bl)) bm_nil)
    (bm_cons (sm_if (WM.tm (wm_and (tm_cop (o_eq hr.units) (em_blt c_len rfl h.b_len (by decide +kernel) (am_cons (em_var (pv 2)) am_nil)) em_int (nomark _)) (wm_and1 (tm_not (tm_val (em_call (ok_are_figures h) hr (by decide) rfl tk (am_cons (em_sub i_seq (em_var (pv 2)) em_int (fun _ _ => rfl)) (am_cons (em_glob h.g_MOST_DIGITS rfl) am_nil)) (len_cons (len_cons (fun _ _ _ _ => len_nil))))))))) (bm_one (sm_ret em_bl)) bm_nil)
    (bm_one (sm_ret (em_or (em_cop (o_ne hr.units) (em_sub i_seq (em_var (pv 0)) em_int (fun _ _ => rfl)) (em_strL (by decide +kernel)) (nomark _)) (em_one (em_blt (c_any rfl) rfl h.b_any (by decide +kernel) (am_cons (em_lc (own := [("sign", 3)]) rfl sc.nd (im_any (em_var (pv 1))) (blkOk_by (N := N_is_print) (sc := defScope (top 18)) (by decide +kernel)) (fun _ _ _ _ _ => (gm_name (by decide) sc.nd rfl (by first | exact Or.inl rfl | exact Or.inr rfl))) (fun _ _ _ _ _ => tsm_nil) (fun _ _ _ _ _ => (em_cop o_notin (em_var (pv 3)) (em_strL (by decide +kernel)) rfl))) am_nil)))))))))))
def N_ten_to : List Str := ["digits", "found", "lap"]
theorem sc_ten_to : FnScope N_ten_to ["digits"] (defScope (top 19)) := ⟨rfl, rfl, rfl, by decide +kernel, rfl, by decide +kernel, by decide +kernel⟩
theorem ok_ten_to (h : Hyp K mg) : Fnc P w K mg base "ten_to" 1 1 m_ten_to := by
  obtain ⟨f, fd, hm, F⟩ := h.d_ten_to
  refine ⟨f, fd, ["digits"], rfl, hm, F.kp, (FunD.bindsN F (fun _ _ _ _ _ _ us hl => match us, hl with | [_], _ => rfl)), ?_⟩
  have sc := sc_ten_to
  refine fn_m F sc (fun cdv A outer s H E hr => ?_)
  have tk : Takes (cxOf (L2.CX P w) P w K mg base N_ten_to "ten_to" (defScope (top 19)) f cdv A outer s H E) (fun c d _ H' => E c d H') := takes_of rfl rfl rfl rfl
  have hp := passes_of (X := cxOf (L2.CX P w) P w K mg base N_ten_to "ten_to" (defScope (top 19)) f cdv A outer s H E) rfl
  exact (bm_cons (sm_set (i := 1) sc.nd rfl (by first | exact Or.inl rfl | exact Or.inr rfl) em_int)
    (bm_cons (sm_for (vs := [2]) hp rfl (im_range1 rfl h.b_range (am_cons (em_var (pv 0)) am_nil)) (gm_name (by decide) sc.nd rfl (by first | exact Or.inl rfl | exact Or.inr rfl)) noex_name (bm_one (sm_set (i := 1) sc.nd rfl (by first | exact Or.inl rfl | exact Or.inr rfl) (em_bop o_mul (em_var (pv 1)) em_int))))
    (bm_one (sm_ret (em_var (pv 1))))))
def N_digits_of : List Str := ["told"]
theorem sc_digits_of : FnScope N_digits_of ["told"] (defScope (top 20)) := ⟨rfl, rfl, rfl, by decide +kernel, rfl, by decide +kernel, by decide +kernel⟩
theorem ok_digits_of (h : Hyp K mg) : Fnc P w K mg base "digits_of" 1 1 m_digits_of := by
  obtain ⟨f, fd, hm, F⟩ := h.d_digits_of
  refine ⟨f, fd, ["told"], rfl, hm, F.kp, (FunD.bindsN F (fun _ _ _ _ _ _ us hl => match us, hl with | [_], _ => rfl)), ?_⟩
  have sc := sc_digits_of
  refine fn_m F sc (fun cdv A outer s H E hr => ?_)
  have tk : Takes (cxOf (L2.CX P w) P w K mg base N_digits_of "digits_of" (defScope (top 20)) f cdv A outer s H E) (fun c d _ H' => E c d H') := takes_of rfl rfl rfl rfl
  exact (bm_one (sm_ret (em_ifExp (tm_cop o_in (em_strL (by decide +kernel)) (em_var (pv 0)) rfl) (em_blt c_len rfl h.b_len (by decide +kernel) (am_cons (em_sub i_seq (em_meth m_split (em_var (pv 0)) (am_cons (em_strL (by decide +kernel)) am_nil)) em_int (fun _ _ => rfl)) am_nil)) em_int)))
def N_units_of : List Str := ["told"]
theorem sc_units_of : FnScope N_units_of ["told"] (defScope (top 21)) := ⟨rfl, rfl, rfl, by decide +kernel, rfl, by decide +kernel, by decide +kernel⟩
theorem ok_units_of (h : Hyp K mg) : Fnc P w K mg base "units_of" 1 1 m_units_of := by
  obtain ⟨f, fd, hm, F⟩ := h.d_units_of
  refine ⟨f, fd, ["told"], rfl, hm, F.kp, (FunD.bindsN F (fun _ _ _ _ _ _ us hl => match us, hl with | [_], _ => rfl)), ?_⟩
  have sc := sc_units_of
  refine fn_mT F sc (by decide +kernel) (by decide) (fun cdv A outer s H E hr => ?_)
  have tk : Takes (cxOf (L2.CX P w) P w K mg base N_units_of "units_of" (defScope (top 21)) f cdv A outer s H E) (fun c d _ H' => E c d H') := takes_of rfl rfl rfl rfl
  exact (bmt_one (smt_ret (emt_typ1 c_int rfl h.b_int (by decide +kernel) (emt_repl (ly := [46]) (lz := []) (by decide +kernel) (by decide +kernel) (by decide +kernel) (em_var (pv 0))))))
def N_is_printed : List Str := ["over", "under", "told"]
theorem sc_is_printed : FnScope N_is_printed ["over", "under", "told"] (defScope (top 22)) := ⟨rfl, rfl, rfl, by decide +kernel, rfl, by decide +kernel, by decide +kernel⟩
theorem ok_is_printed (h : Hyp K mg) : Fnc P w K mg base "is_printed" 3 2 m_is_printed := by
  obtain ⟨f, fd, hm, F⟩ := h.d_is_printed
  refine ⟨f, fd, ["over", "under", "told"], rfl, hm, F.kp, (FunD.bindsN F (fun _ _ _ _ _ _ us hl => match us, hl with | [_, _, _], _ => rfl)), ?_⟩
  have sc := sc_is_printed
  refine fn_m F sc (fun cdv A outer s H E hr => ?_)
  have tk : Takes (cxOf (L2.CX P w) P w K mg base N_is_printed "is_printed" (defScope (top 22)) f cdv A outer s H E) (fun c d _ H' => E c d H') := takes_of rfl rfl rfl rfl
  exact (bm_one (sm_ret (em_cop o_le (em_blt c_abs rfl h.b_abs (by decide +kernel) (am_cons (em_bop o_mul em_int (em_bop o_sub (em_bop o_mul (em_var (pv 0)) (em_call (ok_ten_to h) hr (by decide) rfl tk (am_cons (em_call (ok_digits_of h) hr (by decide) rfl tk (am_cons (em_var (pv 2)) am_nil) (len_cons (fun _ _ _ _ => len_nil))) am_nil) (len_cons (fun _ _ _ _ => len_nil)))) (em_bop o_mul (em_call (ok_units_of h) hr (by decide) rfl tk (am_cons (em_var (pv 2)) am_nil) (len_cons (fun _ _ _ _ => len_nil))) (em_var (pv 1))))) am_nil)) (em_var (pv 1)) (nomark _))))
def N_check_scale : List Str := ["low", "high"]
theorem sc_check_scale : FnScope N_check_scale ["low", "high"] (defScope (top 28)) := ⟨rfl, rfl, rfl, by decide +kernel, rfl, by decide +kernel, by decide +kernel⟩
theorem ok_check_scale (h : Hyp K mg) : Fnc P w K mg base "check_scale" 2 3 m_check_scale := by
  obtain ⟨f, fd, hm, F⟩ := h.d_check_scale
  refine ⟨f, fd, ["low", "high"], rfl, hm, F.kp, (FunD.bindsN F (fun _ _ _ _ _ _ us hl => match us, hl with | [_, _], _ => rfl)), ?_⟩
  have sc := sc_check_scale
  refine fn_m F sc (fun cdv A outer s H E hr => ?_)
  have tk : Takes (cxOf (L2.CX P w) P w K mg base N_check_scale "check_scale" (defScope (top 28)) f cdv A outer s H E) (fun c d _ H' => E c d H') := takes_of rfl rfl rfl rfl
  exact (bm_one (sm_if (WM.tm (wm_or (tm_not (tm_val (em_call (ok_is_from h) hr (by decide) rfl tk (am_cons (em_var (pv 0)) (am_cons (em_bop o_sub em_int (em_glob h.g_MOST_MARK rfl)) (am_cons (em_bop o_sub (em_glob h.g_MOST_MARK rfl) em_int) am_nil))) (len_cons (len_cons (len_cons (fun _ _ _ _ => len_nil))))))) (wm_or1 (tm_not (tm_val (em_call (ok_is_from h) hr (by decide) rfl tk (am_cons (em_var (pv 1)) (am_cons (em_bop o_add (em_var (pv 0)) em_int) (am_cons (em_blt (c_min rfl) rfl h.b_min (by decide +kernel) (am_cons (em_bop o_add (em_var (pv 0)) (em_glob h.g_MOST_WIDTH rfl)) (am_cons (em_glob h.g_MOST_MARK rfl) am_nil))) am_nil))) (len_cons (len_cons (len_cons (fun _ _ _ _ => len_nil)))))))))) (bm_one (sm_raise0 (c := 0) h.x_0 rfl rfl tk rfl)) bm_nil))
def N_check_prints : List Str := ["mean", "spread", "middle"]
theorem sc_check_prints : FnScope N_check_prints ["mean", "spread", "middle"] (defScope (top 29)) := ⟨rfl, rfl, rfl, by decide +kernel, rfl, by decide +kernel, by decide +kernel⟩
theorem ok_check_prints (h : Hyp K mg) : Fnc P w K mg base "check_prints" 3 3 m_check_prints := by
  obtain ⟨f, fd, hm, F⟩ := h.d_check_prints
  refine ⟨f, fd, ["mean", "spread", "middle"], rfl, hm, F.kp, (FunD.bindsN F (fun _ _ _ _ _ _ us hl => match us, hl with | [_, _, _], _ => rfl)), ?_⟩
  have sc := sc_check_prints
  refine fn_m F sc (fun cdv A outer s H E hr => ?_)
  have tk : Takes (cxOf (L2.CX P w) P w K mg base N_check_prints "check_prints" (defScope (top 29)) f cdv A outer s H E) (fun c d _ H' => E c d H') := takes_of rfl rfl rfl rfl
  exact (bm_cons (sm_if (tm_not (tm_val (em_call (ok_is_print h) hr (by decide) rfl tk (am_cons (em_var (pv 0)) am_nil) (len_cons (fun _ _ _ _ => len_nil))))) (bm_one sm_bad) bm_nil)
    (bm_cons (sm_if (WM.tm (wm_and (tm_cop o_notN (em_var (pv 1)) em_non (nomark _)) (wm_and1 (WM.tm (wm_or (tm_not (tm_val (em_call (ok_is_print h) hr (by decide) rfl tk (am_cons (em_var (pv 1)) am_nil) (len_cons (fun _ _ _ _ => len_nil))))) (wm_or1 (tm_cop o_lt (em_call (ok_units_of h) hr (by decide) rfl tk (am_cons (em_var (pv 1)) am_nil) (len_cons (fun _ _ _ _ => len_nil))) em_int (nomark _)))))))) (bm_one sm_bad) bm_nil)
    (bm_one (sm_if (WM.tm (wm_and (tm_cop o_notN (em_var (pv 2)) em_non (nomark _)) (wm_and1 (tm_not (tm_val (em_call (ok_is_print h) hr (by decide) rfl tk (am_cons (em_var (pv 2)) am_nil) (len_cons (fun _ _ _ _ => len_nil)))))))) (bm_one sm_bad) bm_nil))))
def N_check_ends : List Str := ["low", "high", "least", "greatest"]
theorem sc_check_ends : FnScope N_check_ends ["low", "high", "least", "greatest"] (defScope (top 30)) := ⟨rfl, rfl, rfl, by decide +kernel, rfl, by decide +kernel, by decide +kernel⟩
theorem ok_check_ends (h : Hyp K mg) : Fnc P w K mg base "check_ends" 4 3 m_check_ends := by
  obtain ⟨f, fd, hm, F⟩ := h.d_check_ends
  refine ⟨f, fd, ["low", "high", "least", "greatest"], rfl, hm, F.kp, (FunD.bindsN F (fun _ _ _ _ _ _ us hl => match us, hl with | [_, _, _, _], _ => rfl)), ?_⟩
  have sc := sc_check_ends
  refine fn_m F sc (fun cdv A outer s H E hr => ?_)
  have tk : Takes (cxOf (L2.CX P w) P w K mg base N_check_ends "check_ends" (defScope (top 30)) f cdv A outer s H E) (fun c d _ H' => E c d H') := takes_of rfl rfl rfl rfl
  exact (bm_cons (sm_if (WM.tm (wm_and (tm_cop o_notN (em_var (pv 2)) em_non (nomark _)) (wm_and1 (tm_not (tm_val (em_call (ok_is_from h) hr (by decide) rfl tk (am_cons (em_var (pv 2)) (am_cons (em_var (pv 0)) (am_cons (em_var (pv 1)) am_nil))) (len_cons (len_cons (len_cons (fun _ _ _ _ => len_nil)))))))))) (bm_one sm_bad) bm_nil)
    (bm_one (sm_if (WM.tm (wm_and (tm_cop o_notN (em_var (pv 3)) em_non (nomark _)) (wm_and1 (tm_not (tm_val (em_call (ok_is_from h) hr (by decide) rfl tk (am_cons (em_var (pv 3)) (am_cons (em_ifExp (tm_cop o_isN (em_var (pv 2)) em_non (nomark _)) (em_var (pv 0)) (em_var (pv 2))) (am_cons (em_var (pv 1)) am_nil))) (len_cons (len_cons (len_cons (fun _ _ _ _ => len_nil)))))))))) (bm_one sm_bad) bm_nil)))
def N_ends_of : List Str := ["report", "least", "greatest", "low", "high", "told", "mark"]
theorem sc_ends_of : FnScope N_ends_of ["report"] (defScope (top 32)) := ⟨rfl, rfl, rfl, by decide +kernel, rfl, by decide +kernel, by decide +kernel⟩
theorem ok_ends_of (h : Hyp K mg) : Fnc P w K mg base "ends_of" 1 1 m_ends_of := by
  obtain ⟨f, fd, hm, F⟩ := h.d_ends_of
  refine ⟨f, fd, ["report"], rfl, hm, F.kp, (FunD.bindsN F (fun _ _ _ _ _ _ us hl => match us, hl with | [_], _ => rfl)), ?_⟩
  have sc := sc_ends_of
  refine fn_m F sc (fun cdv A outer s H E hr => ?_)
  have tk : Takes (cxOf (L2.CX P w) P w K mg base N_ends_of "ends_of" (defScope (top 32)) f cdv A outer s H E) (fun c d _ H' => E c d H') := takes_of rfl rfl rfl rfl
  exact (bm_cons (sm_par (i := 1) (j := 2) rfl sc.nd rfl rfl (by decide) rfl rfl (am_cons (em_sub i_seq (em_fld 0 2 rfl (by decide +kernel) h.n_0_2 (em_var (pv 0))) em_int (fun _ _ => rfl)) (am_cons (em_sub i_seq (em_fld 0 2 rfl (by decide +kernel) h.n_0_2 (em_var (pv 0))) em_int (fun _ _ => rfl)) am_nil)) rfl)
    (bm_cons (sm_set (i := 3) sc.nd rfl (by first | exact Or.inl rfl | exact Or.inr rfl) (em_ifExp (tm_cop o_isN (em_var (pv 1)) em_non (nomark _)) (em_sub i_seq (em_fld 0 0 rfl (by decide +kernel) h.n_0_0 (em_var (pv 0))) em_int (fun _ _ => rfl)) (em_var (pv 1))))
    (bm_cons (sm_set (i := 4) sc.nd rfl (by first | exact Or.inl rfl | exact Or.inr rfl) (em_ifExp (tm_cop o_isN (em_var (pv 2)) em_non (nomark _)) (em_sub i_seq (em_fld 0 0 rfl (by decide +kernel) h.n_0_0 (em_var (pv 0))) em_int (fun _ _ => rfl)) (em_var (pv 2))))
    (bm_cons (by first | exact sm_setLc (i := 5) (own := [("mark", 6)]) rfl sc.nd rfl rfl (sw_true rfl rfl rfl (by decide +kernel)) (im_any (em_tup (am_cons (em_var (pv 1)) (am_cons (em_var (pv 2)) am_nil)))) (blkOk_by (N := N_ends_of) (sc := defScope (top 32)) (by decide +kernel)) (fun _ _ _ _ _ => (gm_name (by decide) sc.nd rfl (by first | exact Or.inl rfl | exact Or.inr rfl))) (fun _ _ _ _ _ => (tsm_one (tm_cop o_notN (em_var (pv 6)) em_non (nomark _)))) (fun _ _ _ _ _ => (em_var (pv 6))) | exact sm_set (i := 5) sc.nd rfl (by first | exact Or.inl rfl | exact Or.inr rfl) (em_lc (own := [("mark", 6)]) rfl sc.nd (im_any (em_tup (am_cons (em_var (pv 1)) (am_cons (em_var (pv 2)) am_nil)))) (blkOk_by (N := N_ends_of) (sc := defScope (top 32)) (by decide +kernel)) (fun _ _ _ _ _ => (gm_name (by decide) sc.nd rfl (by first | exact Or.inl rfl | exact Or.inr rfl))) (fun _ _ _ _ _ => (tsm_one (tm_cop o_notN (em_var (pv 6)) em_non (nomark _)))) (fun _ _ _ _ _ => (em_var (pv 6)))))
    (bm_cons (sm_if (WM.tm (wm_and (tm_cop (o_eq hr.units) (em_fld 0 1 rfl (by decide +kernel) h.n_0_1 (em_var (pv 0))) em_int (nomark _)) (wm_and (tm_cop (o_eq hr.units) (em_blt c_len rfl h.b_len (by decide +kernel) (am_cons (em_var (pv 5)) am_nil)) em_int (nomark _)) (wm_and1 (tm_cop (o_eq hr.units) (em_sub i_seq (em_var (pv 5)) em_int (fun _ _ => rfl)) (em_sub i_seq (em_var (pv 5)) em_int (fun _ _ => rfl)) (nomark _)))))) (bm_one (sm_set (i := 5) sc.nd rfl (by first | exact Or.inl rfl | exact Or.inr rfl) (em_slice (em_var (pv 5)) om_none (om_some em_int)))) bm_nil)
    (bm_one (sm_ret (em_tup (am_cons (em_var (pv 3)) (am_cons (em_var (pv 4)) (am_cons (em_typ c_tuple rfl h.b_tuple (by decide +kernel) (am_cons (em_var (pv 5)) am_nil)) am_nil)))))))))))
def N_scale_sums : List Str := ["report", "low", "high", "told", "rest"]
theorem sc_scale_sums : FnScope N_scale_sums ["report"] (defScope (top 34)) := ⟨rfl, rfl, rfl, by decide +kernel, rfl, by decide +kernel, by decide +kernel⟩
theorem ok_scale_sums (h : Hyp K mg) : Fnc P w K mg base "scale_sums" 1 2 m_scale_sums := by
  obtain ⟨f, fd, hm, F⟩ := h.d_scale_sums
  refine ⟨f, fd, ["report"], rfl, hm, F.kp, (FunD.bindsN F (fun _ _ _ _ _ _ us hl => match us, hl with | [_], _ => rfl)), ?_⟩
  have sc := sc_scale_sums
  refine fn_m F sc (fun cdv A outer s H E hr => ?_)
  have tk : Takes (cxOf (L2.CX P w) P w K mg base N_scale_sums "scale_sums" (defScope (top 34)) f cdv A outer s H E) (fun c d _ H' => E c d H') := takes_of rfl rfl rfl rfl
  exact (bm_cons (sm_asg (vs := [1, 2, 3]) (em_call (ok_ends_of h) hr (by decide) rfl tk (am_cons (em_var (pv 0)) am_nil) (len_cons (fun _ _ _ _ => len_nil))) (gm_tup rfl (gms_cons (gm_name (by decide) sc.nd rfl (by first | exact Or.inl rfl | exact Or.inr rfl)) (gms_cons (gm_name (by decide) sc.nd rfl (by first | exact Or.inl rfl | exact Or.inr rfl)) (gms_cons (gm_name (by decide) sc.nd rfl (by first | exact Or.inl rfl | exact Or.inr rfl)) gms_nil)))) (noex_tup (noex_cons noex_name (noex_cons noex_name (noex_cons noex_name noex_nil)))))
    (bm_cons (sm_set (i := 4) sc.nd rfl (by first | exact Or.inl rfl | exact Or.inr rfl) (em_bop o_sub (em_fld 0 1 rfl (by decide +kernel) h.n_0_1 (em_var (pv 0))) (em_blt c_len rfl h.b_len (by decide +kernel) (am_cons (em_var (pv 3)) am_nil))))
    (bm_cons (sm_if (tm_cop o_lt (em_var (pv 4)) em_int (nomark _)) (bm_one (sm_ret em_non)) bm_nil)
    (bm_one (sm_ret (em_tup (am_cons (em_bop o_add (em_blt (c_sum rfl) rfl h.b_sum (by decide +kernel) (am_cons (em_typ c_list rfl h.b_list (by decide +kernel) (am_cons (em_var (pv 3)) am_nil)) am_nil)) (em_bop o_mul (em_var (pv 4)) (em_var (pv 1)))) (am_cons (em_bop o_add (em_blt (c_sum rfl) rfl h.b_sum (by decide +kernel) (am_cons (em_typ c_list rfl h.b_list (by decide +kernel) (am_cons (em_var (pv 3)) am_nil)) am_nil)) (em_bop o_mul (em_var (pv 4)) (em_var (pv 2)))) am_nil))))))))
def N_range_of : List Str := ["report", "bounds", "ten", "units", "low", "high"]
theorem sc_range_of : FnScope N_range_of ["report"] (defScope (top 35)) := ⟨rfl, rfl, rfl, by decide +kernel, rfl, by decide +kernel, by decide +kernel⟩
theorem ok_range_of (h : Hyp K mg) : Fnc P w K mg base "range_of" 1 3 m_range_of := by
  obtain ⟨f, fd, hm, F⟩ := h.d_range_of
  refine ⟨f, fd, ["report"], rfl, hm, F.kp, (FunD.bindsN F (fun _ _ _ _ _ _ us hl => match us, hl with | [_], _ => rfl)), ?_⟩
  have sc := sc_range_of
  refine fn_m F sc (fun cdv A outer s H E hr => ?_)
  have tk : Takes (cxOf (L2.CX P w) P w K mg base N_range_of "range_of" (defScope (top 35)) f cdv A outer s H E) (fun c d _ H' => E c d H') := takes_of rfl rfl rfl rfl
  exact (bm_cons (sm_set (i := 1) sc.nd rfl (by first | exact Or.inl rfl | exact Or.inr rfl) (em_call (ok_scale_sums h) hr (by decide) rfl tk (am_cons (em_var (pv 0)) am_nil) (len_cons (fun _ _ _ _ => len_nil))))
    (bm_cons (sm_if (tm_cop o_isN (em_var (pv 1)) em_non (nomark _)) (bm_one (sm_ret em_non)) bm_nil)
    (bm_cons (sm_par (i := 2) (j := 3) rfl sc.nd rfl rfl (by decide) rfl rfl (am_cons (em_bop o_mul em_int (em_call (ok_ten_to h) hr (by decide) rfl tk (am_cons (em_call (ok_digits_of h) hr (by decide) rfl tk (am_cons (em_sub i_seq (em_fld 0 2 rfl (by decide +kernel) h.n_0_2 (em_var (pv 0))) em_int (fun _ _ => rfl)) am_nil) (len_cons (fun _ _ _ _ => len_nil))) am_nil) (len_cons (fun _ _ _ _ => len_nil)))) (am_cons (em_bop o_mul em_int (em_call (ok_units_of h) hr (by decide) rfl tk (am_cons (em_sub i_seq (em_fld 0 2 rfl (by decide +kernel) h.n_0_2 (em_var (pv 0))) em_int (fun _ _ => rfl)) am_nil) (len_cons (fun _ _ _ _ => len_nil)))) am_nil)) rfl)
    (bm_cons (sm_set (i := 4) sc.nd rfl (by first | exact Or.inl rfl | exact Or.inr rfl) (em_blt (c_max rfl) rfl h.b_max (by decide +kernel) (am_cons (em_sub i_seq (em_var (pv 1)) em_int (fun _ _ => rfl)) (am_cons (em_bop o_sub em_int (em_bop o_fdiv (em_bop o_mul (em_fld 0 1 rfl (by decide +kernel) h.n_0_1 (em_var (pv 0))) (em_bop o_sub em_int (em_var (pv 3)))) (em_var (pv 2)))) am_nil))))
    (bm_cons (sm_set (i := 5) sc.nd rfl (by first | exact Or.inl rfl | exact Or.inr rfl) (em_blt (c_min rfl) rfl h.b_min (by decide +kernel) (am_cons (em_sub i_seq (em_var (pv 1)) em_int (fun _ _ => rfl)) (am_cons (em_bop o_fdiv (em_bop o_mul (em_fld 0 1 rfl (by decide +kernel) h.n_0_1 (em_var (pv 0))) (em_bop o_add (em_var (pv 3)) em_int)) (em_var (pv 2))) am_nil))))
    (bm_one (sm_ret (em_ifExp (tm_cop o_le (em_var (pv 4)) (em_var (pv 5)) (nomark _)) (em_tup (am_cons (em_var (pv 4)) (am_cons (em_var (pv 5)) am_nil))) em_non))))))))
def N_is_spread : List Str := ["report", "whole", "square", "told", "size", "under", "over", "ten", "units"]
theorem sc_is_spread : FnScope N_is_spread ["report", "whole", "square"] (defScope (top 37)) := ⟨rfl, rfl, rfl, by decide +kernel, rfl, by decide +kernel, by decide +kernel⟩
theorem ok_is_spread (h : Hyp K mg) : Fnc P w K mg base "is_spread" 3 2 m_is_spread := by
  obtain ⟨f, fd, hm, F⟩ := h.d_is_spread
  refine ⟨f, fd, ["report", "whole", "square"], rfl, hm, F.kp, (FunD.bindsN F (fun _ _ _ _ _ _ us hl => match us, hl with | [_, _, _], _ => rfl)), ?_⟩
  have sc := sc_is_spread
  refine fn_m F sc (fun cdv A outer s H E hr => ?_)
  have tk : Takes (cxOf (L2.CX P w) P w K mg base N_is_spread "is_spread" (defScope (top 37)) f cdv A outer s H E) (fun c d _ H' => E c d H') := takes_of rfl rfl rfl rfl
  exact (bm_cons (sm_par (i := 3) (j := 4) rfl sc.nd rfl rfl (by decide) rfl rfl (am_cons (em_sub i_seq (em_fld 0 2 rfl (by decide +kernel) h.n_0_2 (em_var (pv 0))) em_int (fun _ _ => rfl)) (am_cons (em_fld 0 1 rfl (by decide +kernel) h.n_0_1 (em_var (pv 0))) am_nil)) rfl)
    (bm_cons (sm_if (tm_cop o_isN (em_var (pv 3)) em_non (nomark _)) (bm_one (sm_ret em_bl)) bm_nil)
    (bm_cons (sm_set (i := 5) sc.nd rfl (by first | exact Or.inl rfl | exact Or.inr rfl) (em_ifExp (tm_cop (o_eq hr.units) (em_sub i_seq (em_fld 0 2 rfl (by decide +kernel) h.n_0_2 (em_var (pv 0))) em_int (fun _ _ => rfl)) (em_strL (by decide +kernel)) (nomark _)) (em_bop o_mul (em_var (pv 4)) (em_bop o_sub (em_var (pv 4)) em_int)) (em_bop o_mul (em_var (pv 4)) (em_var (pv 4)))))
    (bm_cons (sm_par3 (i := 6) (j := 7) (l := 8) rfl sc.nd rfl rfl rfl (by decide) (by decide) (by decide) rfl rfl rfl (am_cons (em_bop o_sub (em_bop o_mul (em_var (pv 4)) (em_var (pv 2))) (em_bop o_mul (em_var (pv 1)) (em_var (pv 1)))) (am_cons (em_bop o_mul em_int (em_call (ok_ten_to h) hr (by decide) rfl tk (am_cons (em_call (ok_digits_of h) hr (by decide) rfl tk (am_cons (em_var (pv 3)) am_nil) (len_cons (fun _ _ _ _ => len_nil))) am_nil) (len_cons (fun _ _ _ _ => len_nil)))) (am_cons (em_bop o_mul em_int (em_call (ok_units_of h) hr (by decide) rfl tk (am_cons (em_var (pv 3)) am_nil) (len_cons (fun _ _ _ _ => len_nil)))) am_nil))) rfl)
    (bm_cons (sm_if (WM.tm (wm_and (tm_cop o_gt (em_var (pv 8)) em_int (nomark _)) (wm_and1 (tm_cop o_lt (em_bop o_mul (em_bop o_mul (em_var (pv 6)) (em_var (pv 7))) (em_var (pv 7))) (em_bop o_mul (em_bop o_mul (em_bop o_sub (em_var (pv 8)) em_int) (em_bop o_sub (em_var (pv 8)) em_int)) (em_var (pv 5))) (nomark _))))) (bm_one (sm_ret em_bl)) bm_nil)
    (bm_one (sm_ret (em_cop o_le (em_bop o_mul (em_bop o_mul (em_var (pv 6)) (em_var (pv 7))) (em_var (pv 7))) (em_bop o_mul (em_bop o_mul (em_bop o_add (em_var (pv 8)) em_int) (em_bop o_add (em_var (pv 8)) em_int)) (em_var (pv 5))) (nomark _)))))))))
def N_does_fit : List Str := ["report", "marks", "mean", "spread", "kind", "least", "greatest", "middle", "size", "whole", "mark"]
theorem sc_does_fit : FnScope N_does_fit ["report", "marks"] (defScope (top 40)) := ⟨rfl, rfl, rfl, by decide +kernel, rfl, by decide +kernel, by decide +kernel⟩
theorem ok_does_fit (h : Hyp K mg) : Fnc P w K mg base "does_fit" 2 3 m_does_fit := by
  obtain ⟨f, fd, hm, F⟩ := h.d_does_fit
  refine ⟨f, fd, ["report", "marks"], rfl, hm, F.kp, (FunD.bindsN F (fun _ _ _ _ _ _ us hl => match us, hl with | [_, _], _ => rfl)), ?_⟩
  have sc := sc_does_fit
  refine fn_m F sc (fun cdv A outer s H E hr => ?_)
  have tk : Takes (cxOf (L2.CX P w) P w K mg base N_does_fit "does_fit" (defScope (top 40)) f cdv A outer s H E) (fun c d _ H' => E c d H') := takes_of rfl rfl rfl rfl
  exact (bm_cons (sm_asg (vs := [2, 3, 4, 5, 6, 7]) (em_fld 0 2 rfl (by decide +kernel) h.n_0_2 (em_var (pv 0))) (gm_tup rfl (gms_cons (gm_name (by decide) sc.nd rfl (by first | exact Or.inl rfl | exact Or.inr rfl)) (gms_cons (gm_name (by decide) sc.nd rfl (by first | exact Or.inl rfl | exact Or.inr rfl)) (gms_cons (gm_name (by decide) sc.nd rfl (by first | exact Or.inl rfl | exact Or.inr rfl)) (gms_cons (gm_name (by decide) sc.nd rfl (by first | exact Or.inl rfl | exact Or.inr rfl)) (gms_cons (gm_name (by decide) sc.nd rfl (by first | exact Or.inl rfl | exact Or.inr rfl)) (gms_cons (gm_name (by decide) sc.nd rfl (by first | exact Or.inl rfl | exact Or.inr rfl)) gms_nil))))))) (noex_tup (noex_cons noex_name (noex_cons noex_name (noex_cons noex_name (noex_cons noex_name (noex_cons noex_name (noex_cons noex_name noex_nil))))))))
    (bm_cons (sm_par (i := 8) (j := 9) rfl sc.nd rfl rfl (by decide) rfl rfl (am_cons (em_blt c_len rfl h.b_len (by decide +kernel) (am_cons (em_var (pv 1)) am_nil)) (am_cons (em_blt (c_sum rfl) rfl h.b_sum (by decide +kernel) (am_cons (em_typ c_list rfl h.b_list (by decide +kernel) (am_cons (em_var (pv 1)) am_nil)) am_nil)) am_nil)) rfl)
    (bm_cons (sm_if (WM.tm (wm_or (tm_cop (o_ne hr.units) (em_var (pv 8)) (em_fld 0 1 rfl (by decide +kernel) h.n_0_1 (em_var (pv 0))) (nomark _)) (wm_or1 (tm_not (tm_val (em_call (ok_is_printed h) hr (by decide) rfl tk (am_cons (em_var (pv 9)) (am_cons (em_var (pv 8)) (am_cons (em_var (pv 2)) am_nil))) (len_cons (len_cons (len_cons (fun _ _ _ _ => len_nil)))))))))) (bm_one (sm_ret em_bl)) bm_nil)
    (bm_cons (sm_if (WM.tm (wm_or (WM.tm (wm_and (tm_cop o_notN (em_var (pv 5)) em_non (nomark _)) (wm_and1 (tm_cop (o_ne hr.units) (em_sub i_seq (em_var (pv 1)) em_int (fun _ _ => rfl)) (em_var (pv 5)) (nomark _))))) (wm_or1 (WM.tm (wm_and (tm_cop o_notN (em_var (pv 6)) em_non (nomark _)) (wm_and1 (tm_cop (o_ne hr.units) (em_sub i_seq (em_var (pv 1)) (em_uop o_neg em_int) (fun _ _ => rfl)) (em_var (pv 6)) (nomark _)))))))) (bm_one (sm_ret em_bl)) bm_nil)
    (bm_cons (sm_if (WM.tm (wm_and (tm_cop o_notN (em_var (pv 7)) em_non (nomark _)) (wm_and1 (tm_not (tm_val (em_call (ok_is_printed h) hr (by decide) rfl tk (am_cons (em_bop o_add (em_sub i_seq (em_var (pv 1)) (em_bop o_fdiv (em_bop o_sub (em_var (pv 8)) em_int) em_int) (fun _ _ => rfl)) (em_sub i_seq (em_var (pv 1)) (em_bop o_fdiv (em_var (pv 8)) em_int) (fun _ _ => rfl))) (am_cons em_int (am_cons (em_var (pv 7)) am_nil))) (len_cons (len_cons (len_cons (fun _ _ _ _ => len_nil)))))))))) (bm_one (sm_ret em_bl)) bm_nil)
    (bm_one (sm_ret (em_call (ok_is_spread h) hr (by decide) rfl tk (am_cons (em_var (pv 0)) (am_cons (em_var (pv 9)) (am_cons (em_blt (c_sum rfl) rfl h.b_sum (by decide +kernel) (am_cons (em_lc (own := [("mark", 10)]) rfl sc.nd (im_any (em_var (pv 1))) (blkOk_by (N := N_does_fit) (sc := defScope (top 40)) (by decide +kernel)) (fun _ _ _ _ _ => (gm_name (by decide) sc.nd rfl (by first | exact Or.inl rfl | exact Or.inr rfl))) (fun _ _ _ _ _ => tsm_nil) (fun _ _ _ _ _ => (em_bop o_mul (em_var (pv 10)) (em_var (pv 10))))) am_nil)) am_nil))) (len_cons (len_cons (len_cons (fun _ _ _ _ => len_nil))))))))))))
def N_how_many : List Str := ["size", "width", "found", "at"]
theorem sc_how_many : FnScope N_how_many ["size", "width"] (defScope (top 41)) := ⟨rfl, rfl, rfl, by decide +kernel, rfl, by decide +kernel, by decide +kernel⟩
theorem ok_how_many (h : Hyp K mg) : Fnc P w K mg base "how_many" 2 1 m_how_many := by
  obtain ⟨f, fd, hm, F⟩ := h.d_how_many
  refine ⟨f, fd, ["size", "width"], rfl, hm, F.kp, (FunD.bindsN F (fun _ _ _ _ _ _ us hl => match us, hl with | [_, _], _ => rfl)), ?_⟩
  have sc := sc_how_many
  refine fn_m F sc (fun cdv A outer s H E hr => ?_)
  have tk : Takes (cxOf (L2.CX P w) P w K mg base N_how_many "how_many" (defScope (top 41)) f cdv A outer s H E) (fun c d _ H' => E c d H') := takes_of rfl rfl rfl rfl
  have hp := passes_of (X := cxOf (L2.CX P w) P w K mg base N_how_many "how_many" (defScope (top 41)) f cdv A outer s H E) rfl
  exact (bm_cons (sm_set (i := 2) sc.nd rfl (by first | exact Or.inl rfl | exact Or.inr rfl) em_int)
    (bm_cons (sm_for (vs := [3]) hp rfl (im_range2 rfl h.b_range (am_cons em_int (am_cons (em_bop o_add (em_var (pv 1)) em_int) am_nil))) (gm_name (by decide) sc.nd rfl (by first | exact Or.inl rfl | exact Or.inr rfl)) noex_name (bm_one (sm_set (i := 2) sc.nd rfl (by first | exact Or.inl rfl | exact Or.inr rfl) (em_bop o_fdiv (em_bop o_mul (em_var (pv 2)) (em_bop o_add (em_var (pv 0)) (em_var (pv 3)))) (em_var (pv 3))))))
    (bm_one (sm_ret (em_var (pv 2))))))
def N_check_listed : List Str := ["report"]
theorem sc_check_listed : FnScope N_check_listed ["report"] (defScope (top 42)) := ⟨rfl, rfl, rfl, by decide +kernel, rfl, by decide +kernel, by decide +kernel⟩
theorem ok_check_listed (h : Hyp K mg) : Fnc P w K mg base "check_listed" 1 2 m_check_listed := by
  obtain ⟨f, fd, hm, F⟩ := h.d_check_listed
  refine ⟨f, fd, ["report"], rfl, hm, F.kp, (FunD.bindsN F (fun _ _ _ _ _ _ us hl => match us, hl with | [_], _ => rfl)), ?_⟩
  have sc := sc_check_listed
  refine fn_m F sc (fun cdv A outer s H E hr => ?_)
  have tk : Takes (cxOf (L2.CX P w) P w K mg base N_check_listed "check_listed" (defScope (top 42)) f cdv A outer s H E) (fun c d _ H' => E c d H') := takes_of rfl rfl rfl rfl
  exact (bm_one (sm_if (tm_cop o_gt (em_call (ok_how_many h) hr (by decide) rfl tk (am_cons (em_fld 0 1 rfl (by decide +kernel) h.n_0_1 (em_var (pv 0))) (am_cons (em_bop o_sub (em_sub i_seq (em_fld 0 0 rfl (by decide +kernel) h.n_0_0 (em_var (pv 0))) em_int (fun _ _ => rfl)) (em_sub i_seq (em_fld 0 0 rfl (by decide +kernel) h.n_0_0 (em_var (pv 0))) em_int (fun _ _ => rfl))) am_nil)) (len_cons (len_cons (fun _ _ _ _ => len_nil)))) (em_glob h.g_MOST_LISTS rfl) (nomark _)) (bm_one (sm_raise0 (c := 11) h.x_11 rfl rfl tk rfl)) bm_nil))
def N_rows_of : List Str := ["low", "high", "size", "found", "mark", "rest"]
theorem sc_rows_of : FnScope N_rows_of ["low", "high", "size"] (defScope (top 43)) := ⟨rfl, rfl, rfl, by decide +kernel, rfl, by decide +kernel, by decide +kernel⟩
theorem ok_rows_of (h : Hyp K mg) : ∀ n, Fnc P w K mg base "rows_of" 3 (1 + n) (m_rows_of n)
  | 0 => by
    obtain ⟨f, fd, hm, F⟩ := h.d_rows_of
    exact fnc_bad (ps := ["low", "high", "size"]) rfl hm F.kp (FunD.bindsN F (fun _ _ _ _ _ _ us hl => match us, hl with | [_, _, _], _ => rfl))
  | n + 1 => by
    have ih := ok_rows_of h n
    obtain ⟨f, fd, hm, F⟩ := h.d_rows_of
    refine ⟨f, fd, ["low", "high", "size"], rfl, hm, F.kp, (FunD.bindsN F (fun _ _ _ _ _ _ us hl => match us, hl with | [_, _, _], _ => rfl)), ?_⟩
    have sc := sc_rows_of
    refine fn_m F sc (fun cdv A outer s H E hr => ?_)
    have tk : Takes (cxOf (L2.CX P w) P w K mg base N_rows_of "rows_of" (defScope (top 43)) f cdv A outer s H E) (fun c d _ H' => E c d H') := takes_of rfl rfl rfl rfl
    have hp := passes_of (X := cxOf (L2.CX P w) P w K mg base N_rows_of "rows_of" (defScope (top 43)) f cdv A outer s H E) rfl
    exact (bm_cons (sm_if (tm_cop (o_eq hr.units) (em_var (pv 2)) em_int (nomark _)) (bm_one (sm_ret (em_lst (am_cons (em_tup am_nil) am_nil)))) bm_nil)
      (bm_cons (sm_set (i := 3) sc.nd rfl (by first | exact Or.inl rfl | exact Or.inr rfl) (em_lstT am_nil))
      (bm_cons (sm_for (vs := [4]) hp rfl (im_range2 rfl h.b_range (am_cons (em_var (pv 0)) (am_cons (em_bop o_add (em_var (pv 1)) em_int) am_nil))) (gm_name (by decide) sc.nd rfl (by first | exact Or.inl rfl | exact Or.inr rfl)) noex_name (bm_one (sm_expr (em_meth m_extend (em_var (pv 3)) (am_cons (em_lc (own := [("rest", 5)]) rfl sc.nd (im_any (em_call ih hr (by change _ ≤ 1 + n; omega) rfl tk (am_cons (em_var (pv 4)) (am_cons (em_var (pv 1)) (am_cons (em_bop o_sub (em_var (pv 2)) em_int) am_nil))) (len_cons (len_cons (len_cons (fun _ _ _ _ => len_nil)))))) (blkOk_by (N := N_rows_of) (sc := defScope (top 43)) (by decide +kernel)) (fun _ _ _ _ _ => (gm_name (by decide) sc.nd rfl (by first | exact Or.inl rfl | exact Or.inr rfl))) (fun _ _ _ _ _ => tsm_nil) (fun _ _ _ _ _ => (em_tup (am_cons (em_var (pv 4)) (am_star (em_var (pv 5)) am_nil))))) am_nil)))))
      (bm_one (sm_ret (em_var (pv 3)))))))
def N_lists_by : List Str := ["report", "low", "high", "told", "marks"]
theorem sc_lists_by : FnScope N_lists_by ["report"] (defScope (top 44)) := ⟨rfl, rfl, rfl, by decide +kernel, rfl, by decide +kernel, by decide +kernel⟩
theorem ok_lists_by (h : Hyp K mg) : Fnc P w K mg base "lists_by" 1 14 m_lists_by := by
  obtain ⟨f, fd, hm, F⟩ := h.d_lists_by
  refine ⟨f, fd, ["report"], rfl, hm, F.kp, (FunD.bindsN F (fun _ _ _ _ _ _ us hl => match us, hl with | [_], _ => rfl)), ?_⟩
  have sc := sc_lists_by
  refine fn_m F sc (fun cdv A outer s H E hr => ?_)
  have tk : Takes (cxOf (L2.CX P w) P w K mg base N_lists_by "lists_by" (defScope (top 44)) f cdv A outer s H E) (fun c d _ H' => E c d H') := takes_of rfl rfl rfl rfl
  exact (bm_cons (sm_if (tm_cop o_isN (em_call (ok_range_of h) hr (by decide) rfl tk (am_cons (em_var (pv 0)) am_nil) (len_cons (fun _ _ _ _ => len_nil))) em_non (nomark _)) (bm_one (sm_ret (em_lst am_nil))) bm_nil)
    (bm_cons (sm_asg (vs := [1, 2, 3]) (em_call (ok_ends_of h) hr (by decide) rfl tk (am_cons (em_var (pv 0)) am_nil) (len_cons (fun _ _ _ _ => len_nil))) (gm_tup rfl (gms_cons (gm_name (by decide) sc.nd rfl (by first | exact Or.inl rfl | exact Or.inr rfl)) (gms_cons (gm_name (by decide) sc.nd rfl (by first | exact Or.inl rfl | exact Or.inr rfl)) (gms_cons (gm_name (by decide) sc.nd rfl (by first | exact Or.inl rfl | exact Or.inr rfl)) gms_nil)))) (noex_tup (noex_cons noex_name (noex_cons noex_name (noex_cons noex_name noex_nil)))))
    (bm_one (sm_ret (em_lc (own := [("marks", 4)]) rfl sc.nd (im_any (em_call (ok_rows_of h 12) hr (by decide) rfl tk (am_cons (em_var (pv 1)) (am_cons (em_var (pv 2)) (am_cons (em_fld 0 1 rfl (by decide +kernel) h.n_0_1 (em_var (pv 0))) am_nil))) (len_cons (len_cons (len_cons (fun _ _ _ _ => len_nil)))))) (blkOk_by (N := N_lists_by) (sc := defScope (top 44)) (by decide +kernel)) (fun _ _ _ _ _ => (gm_name (by decide) sc.nd rfl (by first | exact Or.inl rfl | exact Or.inr rfl))) (fun _ _ _ _ _ => (tsm_one (tm_val (em_call (ok_does_fit h) hr (by decide) rfl takes0 (am_cons (em_var (pv 0)) (am_cons (em_var (pv 4)) am_nil)) (len_cons (len_cons (fun _ _ _ _ => len_nil))))))) (fun _ _ _ _ _ => (em_var (pv 4))))))))
def N_has_all : List Str := ["marks", "some", "mark"]
theorem sc_has_all : FnScope N_has_all ["marks", "some"] (defScope (top 46)) := ⟨rfl, rfl, rfl, by decide +kernel, rfl, by decide +kernel, by decide +kernel⟩
theorem ok_has_all (h : Hyp K mg) : Fnc P w K mg base "has_all" 2 1 m_has_all := by
  obtain ⟨f, fd, hm, F⟩ := h.d_has_all
  refine ⟨f, fd, ["marks", "some"], rfl, hm, F.kp, (FunD.bindsN F (fun _ _ _ _ _ _ us hl => match us, hl with | [_, _], _ => rfl)), ?_⟩
  have sc := sc_has_all
  refine fn_m F sc (fun cdv A outer s H E hr => ?_)
  have tk : Takes (cxOf (L2.CX P w) P w K mg base N_has_all "has_all" (defScope (top 46)) f cdv A outer s H E) (fun c d _ H' => E c d H') := takes_of rfl rfl rfl rfl
  exact (bm_one (sm_ret (em_blt (c_all rfl) rfl h.b_all (by decide +kernel) (am_cons (em_lc (own := [("mark", 2)]) rfl sc.nd (im_any (em_var (pv 1))) (blkOk_by (N := N_has_all) (sc := defScope (top 46)) (by decide +kernel)) (fun _ _ _ _ _ => (gm_name (by decide) sc.nd rfl (by first | exact Or.inl rfl | exact Or.inr rfl))) (fun _ _ _ _ _ => tsm_nil) (fun _ _ _ _ _ => (em_cop o_ge (em_meth m_count (em_var (pv 0)) (am_cons (em_var (pv 2)) am_nil)) (em_meth m_count (em_var (pv 1)) (am_cons (em_var (pv 2)) am_nil)) (nomark _)))) am_nil))))
def N__law_random : List Str := ["_law_script", "_law_salt", "_law_seed", "_law_cell"]
theorem sc__law_random : FnScope N__law_random ["_law_script", "_law_salt"] (defScope (top 49)) := ⟨rfl, rfl, rfl, by decide +kernel, rfl, by decide +kernel, by decide +kernel⟩
theorem ok__law_random (h : Hyp K mg) : Fnc P w K mg base "_law_random" 2 1 m__law_random := by
  obtain ⟨f, fd, hm, F⟩ := h.d__law_random
  refine ⟨f, fd, ["_law_script", "_law_salt"], rfl, hm, F.kp, (FunD.bindsN F (fun _ _ _ _ _ _ us hl => match us, hl with | [_, _], _ => rfl)), ?_⟩
  have sc := sc__law_random
  refine fn_mN F sc (fun cdv A outer s H E hr => ?_)
  have tk : Takes (cxOf (L2.CX P w) P w K mg base N__law_random "_law_random" (defScope (top 49)) f cdv A outer s H E) (fun c d _ H' => E c d H') := takes_of rfl rfl rfl rfl
  have hp := passes_of (X := cxOf (L2.CX P w) P w K mg base N__law_random "_law_random" (defScope (top 49)) f cdv A outer s H E) rfl
  exact (bm_cons (sm_set (i := 2) sc.nd rfl (by first | exact Or.inl rfl | exact Or.inr rfl) (em_var (pv 1)))
    (bm_cons (sm_for (vs := [3]) hp rfl (im_any (em_var (pv 0))) (gm_name (by decide) sc.nd rfl (by first | exact Or.inl rfl | exact Or.inr rfl)) noex_name (bm_one (sm_set (i := 2) sc.nd rfl (by first | exact Or.inl rfl | exact Or.inr rfl) (em_bop o_mod (em_typ c_int rfl h.b_int (by decide +kernel) (am_cons (em_bop o_add (em_bop o_mul (em_var (pv 2)) em_int) (em_blt c_abs rfl h.b_abs (by decide +kernel) (am_cons (em_var (pv 3)) am_nil))) am_nil)) em_int))))
    (bm_one (sm_ret (em_bop o_addN (em_lst (am_cons (em_var (pv 2)) (am_cons em_int am_nil))) (em_lc (own := [("_law_cell", 3)]) rfl sc.nd (im_any (em_var (pv 0))) (blkOk_by (N := N__law_random) (sc := defScope (top 49)) (by decide +kernel)) (fun _ _ _ _ _ => (gm_name (by decide) sc.nd rfl (by first | exact Or.inl rfl | exact Or.inr rfl))) (fun _ _ _ _ _ => (tsm_one (tm_cop o_ge (em_var (pv 3)) (em_bop o_pow em_int em_int) (nomark _)))) (fun _ _ _ _ _ => (em_var (pv 3)))))))))
def N__law_below : List Str := ["_law_d", "_law_size", "_law_result"]
theorem sc__law_below : FnScope N__law_below ["_law_d", "_law_size"] (defScope (top 50)) := ⟨rfl, rfl, rfl, by decide +kernel, rfl, by decide +kernel, by decide +kernel⟩
theorem ok__law_below (h : Hyp K mg) : Fnc P w K mg base "_law_below" 2 1 m__law_below := by
  obtain ⟨f, fd, hm, F⟩ := h.d__law_below
  refine ⟨f, fd, ["_law_d", "_law_size"], rfl, hm, F.kp, (FunD.bindsN F (fun _ _ _ _ _ _ us hl => match us, hl with | [_, _], _ => rfl)), ?_⟩
  have sc := sc__law_below
  refine fn_m F sc (fun cdv A outer s H E hr => ?_)
  have tk : Takes (cxOf (L2.CX P w) P w K mg base N__law_below "_law_below" (defScope (top 50)) f cdv A outer s H E) (fun c d _ H' => E c d H') := takes_of rfl rfl rfl rfl
  exact (bm_cons (sm_if (WM.tm (wm_and (tm_cop (o_eq hr.units) (em_sub i_seq (em_var (pv 0)) em_int (fun _ _ => rfl)) em_int (nomark _)) (wm_and1 (tm_cop o_gt (em_blt c_len rfl h.b_len (by decide +kernel) (am_cons (em_var (pv 0)) am_nil)) em_int (nomark _))))) (bm_one (sm_asg (vs := []) (em_meth m_pop (em_var (pv 0)) (am_cons em_int am_nil)) (gm_sub (em_var (pv 0)) em_int) noex_sub)) bm_nil)
    (bm_cons (sm_if (tm_cop o_gt (em_sub i_seq (em_var (pv 0)) em_int (fun _ _ => rfl)) em_int (nomark _)) (bm_cons (sm_set (i := 2) sc.nd rfl (by first | exact Or.inl rfl | exact Or.inr rfl) (em_bop o_mod (em_typ c_int rfl h.b_int (by decide +kernel) (am_cons (em_sub i_seq (em_var (pv 0)) em_int (fun _ _ => rfl)) am_nil)) (em_var (pv 1))))
    (bm_cons (sm_asg (vs := []) (em_bop o_fdiv (em_sub i_seq (em_var (pv 0)) em_int (fun _ _ => rfl)) (em_var (pv 1))) (gm_sub (em_var (pv 0)) em_int) noex_sub)
    (bm_one (sm_ret (em_var (pv 2)))))) bm_nil)
    (bm_cons (sm_asg (vs := []) (em_bop o_mod (em_typ c_int rfl h.b_int (by decide +kernel) (am_cons (em_bop o_add (em_bop o_mul (em_sub i_seq (em_var (pv 0)) em_int (fun _ _ => rfl)) em_int) em_int) am_nil)) em_int) (gm_sub (em_var (pv 0)) em_int) noex_sub)
    (bm_one (sm_ret (em_bop o_mod (em_typ c_int rfl h.b_int (by decide +kernel) (am_cons (em_bop o_fdiv (em_sub i_seq (em_var (pv 0)) em_int (fun _ _ => rfl)) em_int) am_nil)) (em_var (pv 1))))))))
def N__law_pick : List Str := ["_law_d", "_law_items"]
theorem sc__law_pick : FnScope N__law_pick ["_law_d", "_law_items"] (defScope (top 51)) := ⟨rfl, rfl, rfl, by decide +kernel, rfl, by decide +kernel, by decide +kernel⟩
theorem ok__law_pick (h : Hyp K mg) : Fnc P w K mg base "_law_pick" 2 2 m__law_pick := by
  obtain ⟨f, fd, hm, F⟩ := h.d__law_pick
  refine ⟨f, fd, ["_law_d", "_law_items"], rfl, hm, F.kp, (FunD.bindsN F (fun _ _ _ _ _ _ us hl => match us, hl with | [_, _], _ => rfl)), ?_⟩
  have sc := sc__law_pick
  refine fn_m F sc (fun cdv A outer s H E hr => ?_)
  have tk : Takes (cxOf (L2.CX P w) P w K mg base N__law_pick "_law_pick" (defScope (top 51)) f cdv A outer s H E) (fun c d _ H' => E c d H') := takes_of rfl rfl rfl rfl
  exact (bm_one (sm_ret (em_sub i_seq (em_var (pv 1)) (em_call (ok__law_below h) hr (by decide) rfl tk (am_cons (em_var (pv 0)) (am_cons (em_blt c_len rfl h.b_len (by decide +kernel) (am_cons (em_var (pv 1)) am_nil)) am_nil)) (len_cons (len_cons (fun _ _ _ _ => len_nil)))) (fun _ _ => rfl))))
def N__law_equal : List Str := ["_law_actual", "_law_expected", "_law_k", "_law_key"]
theorem sc__law_equal : FnScope N__law_equal ["_law_actual", "_law_expected"] (defScope (top 52)) := ⟨rfl, rfl, rfl, by decide +kernel, rfl, by decide +kernel, by decide +kernel⟩
theorem ok__law_equal (h : Hyp K mg) : ∀ n, Fnc P w K mg base "_law_equal" 2 (1 + n) (m__law_equal n)
  | 0 => by
    obtain ⟨f, fd, hm, F⟩ := h.d__law_equal
    exact fnc_bad (ps := ["_law_actual", "_law_expected"]) rfl hm F.kp (FunD.bindsN F (fun _ _ _ _ _ _ us hl => match us, hl with | [_, _], _ => rfl))
  | n + 1 => by
    have ih := ok__law_equal h n
    obtain ⟨f, fd, hm, F⟩ := h.d__law_equal
    refine ⟨f, fd, ["_law_actual", "_law_expected"], rfl, hm, F.kp, (FunD.bindsN F (fun _ _ _ _ _ _ us hl => match us, hl with | [_, _], _ => rfl)), ?_⟩
    have sc := sc__law_equal
    refine fn_m F sc (fun cdv A outer s H E hr => ?_)
    have tk : Takes (cxOf (L2.CX P w) P w K mg base N__law_equal "_law_equal" (defScope (top 52)) f cdv A outer s H E) (fun c d _ H' => E c d H') := takes_of rfl rfl rfl rfl
    exact (bm_cons (sm_if (tm_cop o_isN (em_var (pv 1)) em_non (nomark _)) (bm_one (sm_ret (em_cop o_isN (em_var (pv 0)) em_non (nomark _)))) bm_nil)
      (bm_cons (sm_if (tm_val (em_isi 1 (by decide) rfl h.b_isinstance rfl h.b_bool (by decide +kernel) (em_var (pv 1)))) (bm_one (sm_ret (em_and (em_isi 1 (by decide) rfl h.b_isinstance rfl h.b_bool (by decide +kernel) (em_var (pv 0))) (em_one (em_cop (o_eq hr.units) (em_var (pv 0)) (em_var (pv 1)) (nomark _)))))) bm_nil)
      (bm_cons (sm_if (tm_val (em_isi 2 (by decide) rfl h.b_isinstance rfl h.b_int (by decide +kernel) (em_var (pv 1)))) (bm_one (sm_ret (em_and (em_isi 2 (by decide) rfl h.b_isinstance rfl h.b_int (by decide +kernel) (em_var (pv 0))) (em_and (em_not (em_isi 1 (by decide) rfl h.b_isinstance rfl h.b_bool (by decide +kernel) (em_var (pv 0)))) (em_one (em_cop (o_eq hr.units) (em_var (pv 0)) (em_var (pv 1)) (nomark _))))))) bm_nil)
      (bm_cons (sm_if (tm_val (em_isi 3 (by decide) rfl h.b_isinstance rfl h.b_str (by decide +kernel) (em_var (pv 1)))) (bm_one (sm_ret (em_and (em_isi 3 (by decide) rfl h.b_isinstance rfl h.b_str (by decide +kernel) (em_var (pv 0))) (em_one (em_cop (o_eq hr.units) (em_var (pv 0)) (em_var (pv 1)) (nomark _)))))) bm_nil)
      (bm_cons (sm_if (tm_val (em_isi 6 (by decide) rfl h.b_isinstance rfl h.b_dict (by decide +kernel) (em_var (pv 1)))) (bm_cons (sm_if (WM.tm (wm_or (tm_not (tm_val (em_isi 6 (by decide) rfl h.b_isinstance rfl h.b_dict (by decide +kernel) (em_var (pv 0))))) (wm_or1 (tm_cop (o_ne hr.units) (em_typ c_list rfl h.b_list (by decide +kernel) (am_cons (em_var (pv 0)) am_nil)) (em_blt c_sorted rfl h.b_sorted (by decide +kernel) (am_cons (em_typ c_list rfl h.b_list (by decide +kernel) (am_cons (em_var (pv 1)) am_nil)) am_nil)) (nomark _))))) (bm_one (sm_ret em_bl)) bm_nil)
      (bm_one (sm_ret (em_blt (c_all rfl) rfl h.b_all (by decide +kernel) (am_cons (em_lc (own := [("_law_key", 3)]) rfl sc.nd (im_any (em_typ c_list rfl h.b_list (by decide +kernel) (am_cons (em_var (pv 0)) am_nil))) (blkOk_by (N := N__law_equal) (sc := defScope (top 52)) (by decide +kernel)) (fun _ _ _ _ _ => (gm_name (by decide) sc.nd rfl (by first | exact Or.inl rfl | exact Or.inr rfl))) (fun _ _ _ _ _ => tsm_nil) (fun _ _ _ _ _ => (em_call ih hr (by change _ ≤ 1 + n; omega) rfl takes0 (am_cons (em_sub i_seq (em_var (pv 0)) (em_var (pv 3)) (fun _ _ => rfl)) (am_cons (em_sub i_seq (em_var (pv 1)) (em_var (pv 3)) (fun _ _ => rfl)) am_nil)) (len_cons (len_cons (fun _ _ _ _ => len_nil)))))) am_nil))))) bm_nil)
      (bm_cons (sm_if (tm_cop (o_ne hr.units) (em_isi 4 (by decide) rfl h.b_isinstance rfl h.b_tuple (by decide +kernel) (em_var (pv 1))) (em_isi 4 (by decide) rfl h.b_isinstance rfl h.b_tuple (by decide +kernel) (em_var (pv 0))) (nomark _)) (bm_one (sm_ret em_bl)) bm_nil)
      (bm_cons (sm_if (tm_cop (o_ne hr.units) (em_isi 5 (by decide) rfl h.b_isinstance rfl h.b_list (by decide +kernel) (em_var (pv 1))) (em_isi 5 (by decide) rfl h.b_isinstance rfl h.b_list (by decide +kernel) (em_var (pv 0))) (nomark _)) (bm_one (sm_ret em_bl)) bm_nil)
      (bm_cons (sm_if (tm_cop (o_ne hr.units) (em_blt c_len rfl h.b_len (by decide +kernel) (am_cons (em_var (pv 0)) am_nil)) (em_blt c_len rfl h.b_len (by decide +kernel) (am_cons (em_var (pv 1)) am_nil)) (nomark _)) (bm_one (sm_ret em_bl)) bm_nil)
      (bm_one (sm_ret (em_blt (c_all rfl) rfl h.b_all (by decide +kernel) (am_cons (em_lc (own := [("_law_k", 2)]) rfl sc.nd (im_range1 rfl h.b_range (am_cons (em_blt c_len rfl h.b_len (by decide +kernel) (am_cons (em_var (pv 1)) am_nil)) am_nil)) (blkOk_by (N := N__law_equal) (sc := defScope (top 52)) (by decide +kernel)) (fun _ _ _ _ _ => (gm_name (by decide) sc.nd rfl (by first | exact Or.inl rfl | exact Or.inr rfl))) (fun _ _ _ _ _ => tsm_nil) (fun _ _ _ _ _ => (em_call ih hr (by change _ ≤ 1 + n; omega) rfl takes0 (am_cons (em_sub i_seq (em_var (pv 0)) (em_var (pv 2)) (fun _ _ => rfl)) (am_cons (em_sub i_seq (em_var (pv 1)) (em_var (pv 2)) (fun _ _ => rfl)) am_nil)) (len_cons (len_cons (fun _ _ _ _ => len_nil)))))) am_nil))))))))))))
def N_Filler_left : List Str := ["self", "marks"]
theorem sc_Filler_left : FnScope N_Filler_left ["self"] (defScope (inClass (top 47) 4)) := ⟨rfl, rfl, rfl, by decide +kernel, rfl, by decide +kernel, by decide +kernel⟩
theorem ok_Filler_left (h : Hyp K mg) : Mth P w K mg base 1 "left" 1 2 m_Filler_left := by
  obtain ⟨C, g, fd, hm, cl, mt, F⟩ := h.d_Filler_left
  refine ⟨C, g, fd, ["self"], hm, cl, mt, by decide +kernel, (FunD.bindsN F (fun _ _ _ _ _ _ us hl => match us, hl with | [_], _ => rfl)), ?_⟩
  have sc := sc_Filler_left
  refine fn_m F sc (fun cdv A outer s H E hr => ?_)
  have tk : Takes (cxOf (L2.CX P w) P w K mg base N_Filler_left "Filler.left" (defScope (inClass (top 47) 4)) g cdv A outer s H E) (fun c d _ H' => E c d H') := takes_of rfl rfl rfl rfl
  exact (bm_one (sm_ret (em_blt c_len rfl h.b_len (by decide +kernel) (am_cons (em_lc (own := [("marks", 1)]) rfl sc.nd (im_any (em_fld 1 1 rfl (by decide +kernel) h.n_1_1 (em_var (pv 0)))) (blkOk_by (N := N_Filler_left) (sc := defScope (inClass (top 47) 4)) (by decide +kernel)) (fun _ _ _ _ _ => (gm_name (by decide) sc.nd rfl (by first | exact Or.inl rfl | exact Or.inr rfl))) (fun _ _ _ _ _ => (tsm_one (tm_val (em_call (ok_has_all h) hr (by decide) rfl takes0 (am_cons (em_var (pv 1)) (am_cons (em_fld 1 2 rfl (by decide +kernel) h.n_1_2 (em_var (pv 0))) am_nil)) (len_cons (len_cons (fun _ _ _ _ => len_nil))))))) (fun _ _ _ _ _ => (em_var (pv 1)))) am_nil))))
def N_Filler_add : List Str := ["self", "mark"]
theorem sc_Filler_add : FnScope N_Filler_add ["self", "mark"] (defScope (inClass (top 47) 6)) := ⟨rfl, rfl, rfl, by decide +kernel, rfl, by decide +kernel, by decide +kernel⟩
theorem ok_Filler_add (h : Hyp K mg) : Mth P w K mg base 1 "add" 2 4 m_Filler_add := by
  obtain ⟨C, g, fd, hm, cl, mt, F⟩ := h.d_Filler_add
  refine ⟨C, g, fd, ["self", "mark"], hm, cl, mt, by decide +kernel, (FunD.bindsN F (fun _ _ _ _ _ _ us hl => match us, hl with | [_, _], _ => rfl)), ?_⟩
  have sc := sc_Filler_add
  refine fn_m F sc (fun cdv A outer s H E hr => ?_)
  have tk : Takes (cxOf (L2.CX P w) P w K mg base N_Filler_add "Filler.add" (defScope (inClass (top 47) 6)) g cdv A outer s H E) (fun c d _ H' => E c d H') := takes_of rfl rfl rfl rfl
  exact (bm_cons (sm_if (tm_not (tm_val (em_call (ok_is_from h) hr (by decide) rfl tk (am_cons (em_var (pv 1)) (am_cons (em_sub i_seq (em_fld 0 0 rfl (by decide +kernel) h.n_0_0 (em_fld 1 0 rfl (by decide +kernel) h.n_1_0 (em_var (pv 0)))) em_int (fun _ _ => rfl)) (am_cons (em_sub i_seq (em_fld 0 0 rfl (by decide +kernel) h.n_0_0 (em_fld 1 0 rfl (by decide +kernel) h.n_1_0 (em_var (pv 0)))) em_int (fun _ _ => rfl)) am_nil))) (len_cons (len_cons (len_cons (fun _ _ _ _ => len_nil))))))) (bm_one (sm_raise0 (c := 6) h.x_6 rfl rfl tk rfl)) bm_nil)
    (bm_cons (sm_if (tm_cop (o_eq hr.units) (em_blt c_len rfl h.b_len (by decide +kernel) (am_cons (em_fld 1 2 rfl (by decide +kernel) h.n_1_2 (em_var (pv 0))) am_nil)) (em_fld 0 1 rfl (by decide +kernel) h.n_0_1 (em_fld 1 0 rfl (by decide +kernel) h.n_1_0 (em_var (pv 0)))) (nomark _)) (bm_one (sm_raise0 (c := 13) h.x_13 rfl rfl tk rfl)) bm_nil)
    (bm_cons (sm_fld 1 3 rfl (by decide +kernel) h.n_1_3 (em_var (pv 0)) (em_tup (am_star (em_fld 1 3 rfl (by decide +kernel) h.n_1_3 (em_var (pv 0))) (am_cons (em_fld 1 2 rfl (by decide +kernel) h.n_1_2 (em_var (pv 0))) am_nil))))
    (bm_cons (sm_fld 1 4 rfl (by decide +kernel) h.n_1_4 (em_var (pv 0)) (em_tup am_nil))
    (bm_cons (sm_fld 1 2 rfl (by decide +kernel) h.n_1_2 (em_var (pv 0)) (em_tup (am_star (em_fld 1 2 rfl (by decide +kernel) h.n_1_2 (em_var (pv 0))) (am_cons (em_var (pv 1)) am_nil))))
    (bm_one (sm_ret (em_mthd0 (ok_Filler_left h) hr (by decide) tk (em_var (pv 0))))))))))
def N__law_told : List Str := ["_law_filler", "_law_mark", "_law_found"]
theorem sc__law_told : FnScope N__law_told ["_law_filler", "_law_mark"] (defScope (top 53)) := ⟨rfl, rfl, rfl, by decide +kernel, rfl, by decide +kernel, by decide +kernel⟩
theorem ok__law_told (h : Hyp K mg) : Fnc P w K mg base "_law_told" 2 6 m__law_told := by
  obtain ⟨f, fd, hm, F⟩ := h.d__law_told
  refine ⟨f, fd, ["_law_filler", "_law_mark"], rfl, hm, F.kp, (FunD.bindsN F (fun _ _ _ _ _ _ us hl => match us, hl with | [_, _], _ => rfl)), ?_⟩
  have sc := sc__law_told
  refine fn_m F sc (fun cdv A outer s H E hr => ?_)
  have tk : Takes (cxOf (L2.CX P w) P w K mg base N__law_told "_law_told" (defScope (top 53)) f cdv A outer s H E) (fun c d _ H' => E c d H') := takes_of rfl rfl rfl rfl
  exact (bm_cons (sm_set (i := 2) sc.nd rfl (by first | exact Or.inl rfl | exact Or.inr rfl) (em_strL (by decide +kernel)))
    (bm_cons (sm_try rfl rfl tk (fun _ _ _ tk hp => (bm_one (sm_expr (em_mthd (ok_Filler_add h) hr (by decide) tk (em_var (pv 0)) (am_cons (em_var (pv 1)) am_nil) (fun env hp xs hp' q => by have := (len_cons (fun _ _ _ _ => len_nil)) env hp xs hp' q; omega))))) (HdM.cons (c := 6) h.xm_6 rfl rfl (by decide) (fun _ _ _ => (bm_one (sm_set (i := 2) sc.nd rfl (by first | exact Or.inl rfl | exact Or.inr rfl) (em_strL (by decide +kernel))))) (HdM.cons (c := 13) h.xm_13 rfl rfl (by decide) (fun _ _ _ => (bm_one (sm_set (i := 2) sc.nd rfl (by first | exact Or.inl rfl | exact Or.inr rfl) (em_strL (by decide +kernel))))) HdM.nil)))
    (bm_one (sm_ret (em_var (pv 2))))))
def N_Filler___init__ : List Str := ["self", "report"]
theorem sc_Filler___init__ : FnScope N_Filler___init__ ["self", "report"] (defScope (inClass (top 47) 0)) := ⟨rfl, rfl, rfl, by decide +kernel, rfl, by decide +kernel, by decide +kernel⟩
theorem run_Filler___init__ (h : Hyp K mg) {f : Addr} {fd : FuncData} (F : FunD K "__init__" "Filler.__init__" (defArgs (inClass (top 47) 0)) (defBody (inClass (top 47) 0)) (defScope (inClass (top 47) 0)) [] [] f fd) : FnOk P w K mg base (L2.CX P w) 15 f fd ["self", "report"] (spM K mg 2 m_Filler___init__) := by
  have sc := sc_Filler___init__
  refine fn_m F sc (fun cdv A outer s H E hr => ?_)
  have tk : Takes (cxOf (L2.CX P w) P w K mg base N_Filler___init__ "Filler.__init__" (defScope (inClass (top 47) 0)) f cdv A outer s H E) (fun c d _ H' => E c d H') := takes_of rfl rfl rfl rfl
  exact (bm_cons (sm_expr (em_call (ok_check_listed h) hr (by decide) rfl tk (am_cons (em_var (pv 1)) am_nil) (len_cons (fun _ _ _ _ => len_nil))))
    (bm_cons (sm_fld 1 0 rfl (by decide +kernel) h.n_1_0 (em_var (pv 0)) (em_var (pv 1)))
    (bm_cons (sm_fld 1 1 rfl (by decide +kernel) h.n_1_1 (em_var (pv 0)) (em_typ c_tuple rfl h.b_tuple (by decide +kernel) (am_cons (em_call (ok_lists_by h) hr (by decide) rfl tk (am_cons (em_var (pv 1)) am_nil) (len_cons (fun _ _ _ _ => len_nil))) am_nil)))
    (bm_cons (sm_fld 1 2 rfl (by decide +kernel) h.n_1_2 (em_var (pv 0)) (em_tup am_nil))
    (bm_cons (sm_fld 1 3 rfl (by decide +kernel) h.n_1_3 (em_var (pv 0)) (em_tup am_nil))
    (bm_one (sm_fld 1 4 rfl (by decide +kernel) h.n_1_4 (em_var (pv 0)) (em_tup am_nil))))))))
theorem mk_Filler_1 (h : Hyp K mg) : Mkr P w K mg base 1 2 15 [] m_Filler___init__ := by
  obtain ⟨C, f, fd, hm, M, F⟩ := h.d_Filler___init__
  exact ⟨C, f, fd, ["self", "report"], [], [], hm, M, rfl, .nil, fun _ _ => .nil, (FunD.bindsN F (fun _ _ _ _ _ _ us hl => match us, hl with | [_, _], _ => rfl)), run_Filler___init__ h F⟩
def N__law_made : List Str := ["_law_report", "_law_found"]
theorem sc__law_made : FnScope N__law_made ["_law_report"] (defScope (top 54)) := ⟨rfl, rfl, rfl, by decide +kernel, rfl, by decide +kernel, by decide +kernel⟩
theorem ok__law_made (h : Hyp K mg) : Fnc P w K mg base "_law_made" 1 17 m__law_made := by
  obtain ⟨f, fd, hm, F⟩ := h.d__law_made
  refine ⟨f, fd, ["_law_report"], rfl, hm, F.kp, (FunD.bindsN F (fun _ _ _ _ _ _ us hl => match us, hl with | [_], _ => rfl)), ?_⟩
  have sc := sc__law_made
  refine fn_m F sc (fun cdv A outer s H E hr => ?_)
  have tk : Takes (cxOf (L2.CX P w) P w K mg base N__law_made "_law_made" (defScope (top 54)) f cdv A outer s H E) (fun c d _ H' => E c d H') := takes_of rfl rfl rfl rfl
  exact (bm_cons (sm_set (i := 1) sc.nd rfl (by first | exact Or.inl rfl | exact Or.inr rfl) em_bl)
    (bm_cons (sm_try rfl rfl tk (fun _ _ _ tk hp => (bm_one (sm_expr (em_makeN (mk_Filler_1 h) hr (by decide) rfl rfl tk (am_cons (em_var (pv 0)) am_nil) (fun env hp xs hp' q => by have := (len_cons (fun _ _ _ _ => len_nil)) env hp xs hp' q; simp only [List.length_cons, List.length_nil]; omega))))) (HdM.cons (c := 11) h.xm_11 rfl rfl (by decide) (fun _ _ _ => (bm_one (sm_set (i := 1) sc.nd rfl (by first | exact Or.inl rfl | exact Or.inr rfl) em_bl))) HdM.nil))
    (bm_one (sm_ret (em_var (pv 1))))))
def N_Filler___len__ : List Str := ["self"]
theorem sc_Filler___len__ : FnScope N_Filler___len__ ["self"] (defScope (inClass (top 47) 3)) := ⟨rfl, rfl, rfl, by decide +kernel, rfl, by decide +kernel, by decide +kernel⟩
theorem ok_Filler___len__ (h : Hyp K mg) : Mth P w K mg base 1 "__len__" 1 1 m_Filler___len__ := by
  obtain ⟨C, g, fd, hm, cl, mt, F⟩ := h.d_Filler___len__
  refine ⟨C, g, fd, ["self"], hm, cl, mt, by decide +kernel, (FunD.bindsN F (fun _ _ _ _ _ _ us hl => match us, hl with | [_], _ => rfl)), ?_⟩
  have sc := sc_Filler___len__
  refine fn_m F sc (fun cdv A outer s H E hr => ?_)
  have tk : Takes (cxOf (L2.CX P w) P w K mg base N_Filler___len__ "Filler.__len__" (defScope (inClass (top 47) 3)) g cdv A outer s H E) (fun c d _ H' => E c d H') := takes_of rfl rfl rfl rfl
  exact (bm_one (sm_ret (em_blt c_len rfl h.b_len (by decide +kernel) (am_cons (em_fld 1 2 rfl (by decide +kernel) h.n_1_2 (em_var (pv 0))) am_nil))))
def N_Filler_marks : List Str := ["self"]
theorem sc_Filler_marks : FnScope N_Filler_marks ["self"] (defScope (inClass (top 47) 2)) := ⟨rfl, rfl, rfl, by decide +kernel, rfl, by decide +kernel, by decide +kernel⟩
theorem ok_Filler_marks (h : Hyp K mg) : Prp P w K mg base 1 "marks" 1 m_Filler_marks := by
  obtain ⟨C, p, g, fd, hm, cl, pr, F⟩ := h.d_Filler_marks
  refine ⟨C, p, g, fd, ["self"], hm, cl, pr, (FunD.bindsN F (fun _ _ _ _ _ _ us hl => match us, hl with | [_], _ => rfl)), ?_⟩
  have sc := sc_Filler_marks
  refine fn_m F sc (fun cdv A outer s H E hr => ?_)
  have tk : Takes (cxOf (L2.CX P w) P w K mg base N_Filler_marks "Filler.marks" (defScope (inClass (top 47) 2)) g cdv A outer s H E) (fun c d _ H' => E c d H') := takes_of rfl rfl rfl rfl
  exact (bm_one (sm_ret (em_fld 1 2 rfl (by decide +kernel) h.n_1_2 (em_var (pv 0)))))
def N_Filler_redo : List Str := ["self"]
theorem sc_Filler_redo : FnScope N_Filler_redo ["self"] (defScope (inClass (top 47) 8)) := ⟨rfl, rfl, rfl, by decide +kernel, rfl, by decide +kernel, by decide +kernel⟩
theorem ok_Filler_redo (h : Hyp K mg) : Mth P w K mg base 1 "redo" 1 1 m_Filler_redo := by
  obtain ⟨C, g, fd, hm, cl, mt, F⟩ := h.d_Filler_redo
  refine ⟨C, g, fd, ["self"], hm, cl, mt, by decide +kernel, (FunD.bindsN F (fun _ _ _ _ _ _ us hl => match us, hl with | [_], _ => rfl)), ?_⟩
  have sc := sc_Filler_redo
  refine fn_m F sc (fun cdv A outer s H E hr => ?_)
  have tk : Takes (cxOf (L2.CX P w) P w K mg base N_Filler_redo "Filler.redo" (defScope (inClass (top 47) 8)) g cdv A outer s H E) (fun c d _ H' => E c d H') := takes_of rfl rfl rfl rfl
  exact (bm_cons (sm_if (tm_cop (o_eq hr.units) (em_blt c_len rfl h.b_len (by decide +kernel) (am_cons (em_fld 1 4 rfl (by decide +kernel) h.n_1_4 (em_var (pv 0))) am_nil)) em_int (nomark _)) (bm_one (sm_ret em_bl)) bm_nil)
    (bm_cons (sm_fld 1 3 rfl (by decide +kernel) h.n_1_3 (em_var (pv 0)) (em_tup (am_star (em_fld 1 3 rfl (by decide +kernel) h.n_1_3 (em_var (pv 0))) (am_cons (em_fld 1 2 rfl (by decide +kernel) h.n_1_2 (em_var (pv 0))) am_nil))))
    (bm_cons (sm_fld 1 2 rfl (by decide +kernel) h.n_1_2 (em_var (pv 0)) (em_sub i_seq (em_fld 1 4 rfl (by decide +kernel) h.n_1_4 (em_var (pv 0))) (em_uop o_neg em_int) (fun _ _ => rfl)))
    (bm_cons (sm_fld 1 4 rfl (by decide +kernel) h.n_1_4 (em_var (pv 0)) (em_slice (em_fld 1 4 rfl (by decide +kernel) h.n_1_4 (em_var (pv 0))) om_none (om_some (em_uop o_neg em_int))))
    (bm_one (sm_ret em_bl))))))
def N_Filler_undo : List Str := ["self"]
theorem sc_Filler_undo : FnScope N_Filler_undo ["self"] (defScope (inClass (top 47) 7)) := ⟨rfl, rfl, rfl, by decide +kernel, rfl, by decide +kernel, by decide +kernel⟩
theorem ok_Filler_undo (h : Hyp K mg) : Mth P w K mg base 1 "undo" 1 1 m_Filler_undo := by
  obtain ⟨C, g, fd, hm, cl, mt, F⟩ := h.d_Filler_undo
  refine ⟨C, g, fd, ["self"], hm, cl, mt, by decide +kernel, (FunD.bindsN F (fun _ _ _ _ _ _ us hl => match us, hl with | [_], _ => rfl)), ?_⟩
  have sc := sc_Filler_undo
  refine fn_m F sc (fun cdv A outer s H E hr => ?_)
  have tk : Takes (cxOf (L2.CX P w) P w K mg base N_Filler_undo "Filler.undo" (defScope (inClass (top 47) 7)) g cdv A outer s H E) (fun c d _ H' => E c d H') := takes_of rfl rfl rfl rfl
  exact (bm_cons (sm_if (tm_cop (o_eq hr.units) (em_blt c_len rfl h.b_len (by decide +kernel) (am_cons (em_fld 1 3 rfl (by decide +kernel) h.n_1_3 (em_var (pv 0))) am_nil)) em_int (nomark _)) (bm_one (sm_ret em_bl)) bm_nil)
    (bm_cons (sm_fld 1 4 rfl (by decide +kernel) h.n_1_4 (em_var (pv 0)) (em_tup (am_star (em_fld 1 4 rfl (by decide +kernel) h.n_1_4 (em_var (pv 0))) (am_cons (em_fld 1 2 rfl (by decide +kernel) h.n_1_2 (em_var (pv 0))) am_nil))))
    (bm_cons (sm_fld 1 2 rfl (by decide +kernel) h.n_1_2 (em_var (pv 0)) (em_sub i_seq (em_fld 1 3 rfl (by decide +kernel) h.n_1_3 (em_var (pv 0))) (em_uop o_neg em_int) (fun _ _ => rfl)))
    (bm_cons (sm_fld 1 3 rfl (by decide +kernel) h.n_1_3 (em_var (pv 0)) (em_slice (em_fld 1 3 rfl (by decide +kernel) h.n_1_3 (em_var (pv 0))) om_none (om_some (em_uop o_neg em_int))))
    (bm_one (sm_ret em_bl))))))
def N_Report___init__ : List Str := ["self", "low", "high", "size", "mean", "spread", "kind", "least", "greatest", "middle"]
theorem sc_Report___init__ : FnScope N_Report___init__ ["self", "low", "high", "size", "mean", "spread", "kind", "least", "greatest", "middle"] (defScope (inClass (top 31) 0)) := ⟨rfl, rfl, rfl, by decide +kernel, rfl, by decide +kernel, by decide +kernel⟩
theorem run_Report___init__ (h : Hyp K mg) {f : Addr} {fd : FuncData} (F : FunD K "__init__" "Report.__init__" (defArgs (inClass (top 31) 0)) (defBody (inClass (top 31) 0)) (defScope (inClass (top 31) 0)) [.non, .str "sample", .non, .non, .non] [] f fd) : FnOk P w K mg base (L2.CX P w) 4 f fd ["self", "low", "high", "size", "mean", "spread", "kind", "least", "greatest", "middle"] (spM K mg 10 m_Report___init__) := by
  have sc := sc_Report___init__
  refine fn_m F sc (fun cdv A outer s H E hr => ?_)
  have tk : Takes (cxOf (L2.CX P w) P w K mg base N_Report___init__ "Report.__init__" (defScope (inClass (top 31) 0)) f cdv A outer s H E) (fun c d _ H' => E c d H') := takes_of rfl rfl rfl rfl
  exact (bm_cons (sm_expr (em_call (ok_check_scale h) hr (by decide) rfl tk (am_cons (em_var (pv 1)) (am_cons (em_var (pv 2)) am_nil)) (len_cons (len_cons (fun _ _ _ _ => len_nil)))))
    (bm_cons (sm_if (tm_not (tm_val (em_call (ok_is_from h) hr (by decide) rfl tk (am_cons (em_var (pv 3)) (am_cons em_int (am_cons (em_glob h.g_MOST_SIZE rfl) am_nil))) (len_cons (len_cons (len_cons (fun _ _ _ _ => len_nil))))))) (bm_one (sm_raise0 (c := 1) h.x_1 rfl rfl tk rfl)) bm_nil)
    (bm_cons (sm_expr (em_call (ok_check_prints h) hr (by decide) rfl tk (am_cons (em_var (pv 4)) (am_cons (em_var (pv 5)) (am_cons (em_var (pv 9)) am_nil))) (len_cons (len_cons (len_cons (fun _ _ _ _ => len_nil))))))
    (bm_cons (sm_if (WM.tm (wm_or (tm_not (tm_val (em_isi 3 (by decide) rfl h.b_isinstance rfl h.b_str (by decide +kernel) (em_var (pv 6))))) (wm_or (tm_cop o_notin (em_var (pv 6)) (em_glob h.g_KINDS rfl) rfl) (wm_or1 (WM.tm (wm_and (tm_cop o_notN (em_var (pv 5)) em_non (nomark _)) (wm_and (tm_cop (o_eq hr.units) (em_var (pv 6)) (em_strL (by decide +kernel)) (nomark _)) (wm_and1 (tm_cop (o_eq hr.units) (em_var (pv 3)) em_int (nomark _)))))))))) (bm_one (sm_raise0 (c := 3) h.x_3 rfl rfl tk rfl)) bm_nil)
    (bm_cons (sm_expr (em_call (ok_check_ends h) hr (by decide) rfl tk (am_cons (em_var (pv 1)) (am_cons (em_var (pv 2)) (am_cons (em_var (pv 7)) (am_cons (em_var (pv 8)) am_nil)))) (len_cons (len_cons (len_cons (len_cons (fun _ _ _ _ => len_nil)))))))
    (bm_cons (sm_fld 0 0 rfl (by decide +kernel) h.n_0_0 (em_var (pv 0)) (em_tup (am_cons (em_var (pv 1)) (am_cons (em_var (pv 2)) am_nil))))
    (bm_cons (sm_fld 0 1 rfl (by decide +kernel) h.n_0_1 (em_var (pv 0)) (em_var (pv 3)))
    (bm_one (sm_fld 0 2 rfl (by decide +kernel) h.n_0_2 (em_var (pv 0)) (em_tup (am_cons (em_var (pv 4)) (am_cons (em_var (pv 5)) (am_cons (em_var (pv 6)) (am_cons (em_var (pv 7)) (am_cons (em_var (pv 8)) (am_cons (em_var (pv 9)) am_nil))))))))))))))))
theorem mk_Report_4 (h : Hyp K mg) : Mkr P w K mg base 0 10 4 [.non, (.str [115, 97, 109, 112, 108, 101]), .non, .non, .non] m_Report___init__ := by
  obtain ⟨C, f, fd, hm, M, F⟩ := h.d_Report___init__
  obtain ⟨ds, hv, hb⟩ := (show ∃ ds, Vals ([.non, .str "sample", .non, .non, .non].drop 0) ds ∧ Binds K fd ["self", "low", "high", "size", "mean", "spread", "kind", "least", "greatest", "middle"] ds from (FunD.binds1 F 5 0 (by simp) (by decide) (fun T kV doc pm an cdv ct us its hu hi => match us, its, hu, hi with | [_, _, _, _, _], [_, _, _, _, _], _, _ => ⟨_, rfl, rfl⟩)))
  exact ⟨C, f, fd, ["self", "low", "high", "size", "mean", "spread", "kind", "least", "greatest", "middle"], _, ds, hm, M, rfl, hv, fun _ _ => (.cons .non (.cons (rv_strC (by decide +kernel)) (.cons .non (.cons .non (.cons .non .nil))))), hb, run_Report___init__ h F⟩
def N_law : List Str := ["_law_script", "_law_d", "_law_low", "_law_size", "_law_filler", "_law_value", "_law_k"]
theorem sc_law : FnScope N_law ["_law_script"] (defScope (top 55)) := ⟨rfl, rfl, rfl, by decide +kernel, rfl, by decide +kernel, by decide +kernel⟩
theorem run_law (h : Hyp K mg) {f : Addr} {fd : FuncData} (F : FunD K "law" "law" (defArgs (top 55)) (defBody (top 55)) (defScope (top 55)) [] [] f fd) : FnOk P w K mg base (L2.CX P w) 18 f fd ["_law_script"] (spM K mg 1 m_law) := by
  have sc := sc_law
  refine fn_m F sc (fun cdv A outer s H E hr => ?_)
  have tk : Takes (cxOf (L2.CX P w) P w K mg base N_law "law" (defScope (top 55)) f cdv A outer s H E) (fun c d _ H' => E c d H') := takes_of rfl rfl rfl rfl
  have hp := passes_of (X := cxOf (L2.CX P w) P w K mg base N_law "law" (defScope (top 55)) f cdv A outer s H E) rfl
  exact (bm_cons (sm_set (i := 1) sc.nd rfl (by first | exact Or.inl rfl | exact Or.inr rfl) (em_call (ok__law_random h) hr (by decide) rfl tk (am_cons (em_var (pv 0)) (am_cons em_int am_nil)) (len_cons (len_cons (fun _ _ _ _ => len_nil)))))
    (bm_cons (sm_par (i := 2) (j := 3) rfl sc.nd rfl rfl (by decide) rfl rfl (am_cons (em_bop o_sub (em_call (ok__law_below h) hr (by decide) rfl tk (am_cons (em_var (pv 1)) (am_cons em_int am_nil)) (len_cons (len_cons (fun _ _ _ _ => len_nil)))) em_int) (am_cons (em_bop o_add em_int (em_call (ok__law_below h) hr (by decide) rfl tk (am_cons (em_var (pv 1)) (am_cons em_int am_nil)) (len_cons (len_cons (fun _ _ _ _ => len_nil))))) am_nil)) rfl)
    (bm_cons (sm_set (i := 4) sc.nd rfl (by first | exact Or.inl rfl | exact Or.inr rfl) (em_makeN (mk_Filler_1 h) hr (by decide) rfl rfl tk (am_cons (em_make (mk_Report_4 h) hr (by decide) rfl rfl tk (am_cons (em_var (pv 2)) (am_cons (em_bop o_add (em_var (pv 2)) em_int) (am_cons (em_var (pv 3)) (am_cons (em_typ c_str rfl h.b_str (by decide +kernel) (am_cons (em_bop o_add (em_var (pv 2)) em_int) am_nil)) am_nil)))) (fun env hp xs hp' q => by have := (len_cons (len_cons (len_cons (len_cons (fun _ _ _ _ => len_nil))))) env hp xs hp' q; simp only [List.length_cons, List.length_nil]; omega)) am_nil) (fun env hp xs hp' q => by have := (len_cons (fun _ _ _ _ => len_nil)) env hp xs hp' q; simp only [List.length_cons, List.length_nil]; omega)))
    (bm_cons (sm_if (WM.tm (wm_or (tm_val (em_mthd0 (ok_Filler_undo h) hr (by decide) tk (em_var (pv 4)))) (wm_or (tm_val (em_mthd0 (ok_Filler_redo h) hr (by decide) tk (em_var (pv 4)))) (wm_or (tm_cop o_lt (em_mthd (ok_Filler_add h) hr (by decide) tk (em_var (pv 4)) (am_cons (em_bop o_add (em_var (pv 2)) em_int) am_nil) (fun env hp xs hp' q => by have := (len_cons (fun _ _ _ _ => len_nil)) env hp xs hp' q; omega)) em_int (nomark _)) (wm_or1 (tm_not (tm_val (em_mthd0 (ok_Filler_undo h) hr (by decide) tk (em_var (pv 4)))))))))) (bm_one (sm_ret em_bl)) bm_nil)
    (bm_cons (sm_for (vs := [5]) hp rfl (im_any (em_lst (am_cons em_non (am_cons (em_bop o_sub (em_var (pv 2)) em_int) (am_cons (em_bop o_add (em_var (pv 2)) em_int) (am_cons (em_strL (by decide +kernel)) (am_cons (em_tup (am_cons (em_var (pv 2)) am_nil)) (am_cons (em_lst am_nil) am_nil)))))))) (gm_name (by decide) sc.nd rfl (by first | exact Or.inl rfl | exact Or.inr rfl)) noex_name (bm_one (sm_if (tm_cop (o_ne hr.units) (em_call (ok__law_told h) hr (by decide) rfl tk (am_cons (em_var (pv 4)) (am_cons (em_var (pv 5)) am_nil)) (len_cons (len_cons (fun _ _ _ _ => len_nil)))) (em_strL (by decide +kernel)) (nomark _)) (bm_one (sm_ret em_bl)) bm_nil)))
    (bm_cons (sm_if (WM.tm (wm_or (tm_cop (o_ne hr.units) (em_blt (c_lenO (ok_Filler___len__ h) hr (by decide) ) rfl h.b_len (by decide +kernel) (am_cons (em_var (pv 4)) am_nil)) em_int (nomark _)) (wm_or (tm_not (tm_val (em_mthd0 (ok_Filler_redo h) hr (by decide) tk (em_var (pv 4))))) (wm_or (tm_not (tm_val (em_call (ok__law_equal h 6) hr (by decide) rfl tk (am_cons (em_prop (ok_Filler_marks h) hr (by decide) (em_var (pv 4))) (am_cons (em_tup (am_cons (em_bop o_add (em_var (pv 2)) em_int) am_nil)) am_nil)) (len_cons (len_cons (fun _ _ _ _ => len_nil)))))) (wm_or1 (tm_val (em_mthd0 (ok_Filler_redo h) hr (by decide) tk (em_var (pv 4))))))))) (bm_one (sm_ret em_bl)) bm_nil)
    (bm_cons (sm_for (vs := [6]) hp rfl (im_range1 rfl h.b_range (am_cons (em_bop o_sub (em_var (pv 3)) em_int) am_nil)) (gm_name (by decide) sc.nd rfl (by first | exact Or.inl rfl | exact Or.inr rfl)) noex_name (bm_one (sm_if (tm_cop (o_ne hr.units) (em_call (ok__law_told h) hr (by decide) rfl tk (am_cons (em_var (pv 4)) (am_cons (em_bop o_add (em_var (pv 2)) (em_call (ok__law_below h) hr (by decide) rfl tk (am_cons (em_var (pv 1)) (am_cons em_int am_nil)) (len_cons (len_cons (fun _ _ _ _ => len_nil))))) am_nil)) (len_cons (len_cons (fun _ _ _ _ => len_nil)))) (em_strL (by decide +kernel)) (nomark _)) (bm_one (sm_ret em_bl)) bm_nil)))
    (bm_cons (sm_if (WM.tm (wm_or (tm_cop (o_ne hr.units) (em_call (ok__law_told h) hr (by decide) rfl tk (am_cons (em_var (pv 4)) (am_cons (em_var (pv 2)) am_nil)) (len_cons (len_cons (fun _ _ _ _ => len_nil)))) (em_strL (by decide +kernel)) (nomark _)) (wm_or (tm_cop (o_ne hr.units) (em_call (ok__law_told h) hr (by decide) rfl tk (am_cons (em_var (pv 4)) (am_cons (em_bop o_sub (em_var (pv 2)) em_int) am_nil)) (len_cons (len_cons (fun _ _ _ _ => len_nil)))) (em_strL (by decide +kernel)) (nomark _)) (wm_or1 (tm_cop (o_ne hr.units) (em_blt (c_lenO (ok_Filler___len__ h) hr (by decide) ) rfl h.b_len (by decide +kernel) (am_cons (em_var (pv 4)) am_nil)) (em_var (pv 3)) (nomark _)))))) (bm_one (sm_ret em_bl)) bm_nil)
    (bm_one (sm_ret (em_and (em_mthd0 (ok_Filler_undo h) hr (by decide) tk (em_var (pv 4))) (em_and (em_cop (o_eq hr.units) (em_blt (c_lenO (ok_Filler___len__ h) hr (by decide) ) rfl h.b_len (by decide +kernel) (am_cons (em_var (pv 4)) am_nil)) (em_bop o_sub (em_var (pv 3)) em_int) (nomark _)) (em_one (em_call (ok__law_made h) hr (by decide) rfl tk (am_cons (em_make (mk_Report_4 h) hr (by decide) rfl rfl tk (am_cons em_int (am_cons em_int (am_cons em_int (am_cons (em_strL (by decide +kernel)) am_nil)))) (fun env hp xs hp' q => by have := (len_cons (len_cons (len_cons (len_cons (fun _ _ _ _ => len_nil))))) env hp xs hp' q; simp only [List.length_cons, List.length_nil]; omega)) am_nil) (len_cons (fun _ _ _ _ => len_nil))))))))))))))))
def N_Report_low : List Str := ["self"]
theorem sc_Report_low : FnScope N_Report_low ["self"] (defScope (inClass (top 31) 1)) := ⟨rfl, rfl, rfl, by decide +kernel, rfl, by decide +kernel, by decide +kernel⟩
theorem ok_Report_low (h : Hyp K mg) : Prp P w K mg base 0 "low" 1 m_Report_low := by
  obtain ⟨C, p, g, fd, hm, cl, pr, F⟩ := h.d_Report_low
  refine ⟨C, p, g, fd, ["self"], hm, cl, pr, (FunD.bindsN F (fun _ _ _ _ _ _ us hl => match us, hl with | [_], _ => rfl)), ?_⟩
  have sc := sc_Report_low
  refine fn_m F sc (fun cdv A outer s H E hr => ?_)
  have tk : Takes (cxOf (L2.CX P w) P w K mg base N_Report_low "Report.low" (defScope (inClass (top 31) 1)) g cdv A outer s H E) (fun c d _ H' => E c d H') := takes_of rfl rfl rfl rfl
  exact (bm_one (sm_ret (em_sub i_seq (em_fld 0 0 rfl (by decide +kernel) h.n_0_0 (em_var (pv 0))) em_int (fun _ _ => rfl))))
def N_Report_high : List Str := ["self"]
theorem sc_Report_high : FnScope N_Report_high ["self"] (defScope (inClass (top 31) 2)) := ⟨rfl, rfl, rfl, by decide +kernel, rfl, by decide +kernel, by decide +kernel⟩
theorem ok_Report_high (h : Hyp K mg) : Prp P w K mg base 0 "high" 1 m_Report_high := by
  obtain ⟨C, p, g, fd, hm, cl, pr, F⟩ := h.d_Report_high
  refine ⟨C, p, g, fd, ["self"], hm, cl, pr, (FunD.bindsN F (fun _ _ _ _ _ _ us hl => match us, hl with | [_], _ => rfl)), ?_⟩
  have sc := sc_Report_high
  refine fn_m F sc (fun cdv A outer s H E hr => ?_)
  have tk : Takes (cxOf (L2.CX P w) P w K mg base N_Report_high "Report.high" (defScope (inClass (top 31) 2)) g cdv A outer s H E) (fun c d _ H' => E c d H') := takes_of rfl rfl rfl rfl
  exact (bm_one (sm_ret (em_sub i_seq (em_fld 0 0 rfl (by decide +kernel) h.n_0_0 (em_var (pv 0))) em_int (fun _ _ => rfl))))
def N_Report_size : List Str := ["self"]
theorem sc_Report_size : FnScope N_Report_size ["self"] (defScope (inClass (top 31) 3)) := ⟨rfl, rfl, rfl, by decide +kernel, rfl, by decide +kernel, by decide +kernel⟩
theorem ok_Report_size (h : Hyp K mg) : Prp P w K mg base 0 "size" 1 m_Report_size := by
  obtain ⟨C, p, g, fd, hm, cl, pr, F⟩ := h.d_Report_size
  refine ⟨C, p, g, fd, ["self"], hm, cl, pr, (FunD.bindsN F (fun _ _ _ _ _ _ us hl => match us, hl with | [_], _ => rfl)), ?_⟩
  have sc := sc_Report_size
  refine fn_m F sc (fun cdv A outer s H E hr => ?_)
  have tk : Takes (cxOf (L2.CX P w) P w K mg base N_Report_size "Report.size" (defScope (inClass (top 31) 3)) g cdv A outer s H E) (fun c d _ H' => E c d H') := takes_of rfl rfl rfl rfl
  exact (bm_one (sm_ret (em_fld 0 1 rfl (by decide +kernel) h.n_0_1 (em_var (pv 0)))))
def N_Report_mean : List Str := ["self"]
theorem sc_Report_mean : FnScope N_Report_mean ["self"] (defScope (inClass (top 31) 4)) := ⟨rfl, rfl, rfl, by decide +kernel, rfl, by decide +kernel, by decide +kernel⟩
theorem ok_Report_mean (h : Hyp K mg) : Prp P w K mg base 0 "mean" 1 m_Report_mean := by
  obtain ⟨C, p, g, fd, hm, cl, pr, F⟩ := h.d_Report_mean
  refine ⟨C, p, g, fd, ["self"], hm, cl, pr, (FunD.bindsN F (fun _ _ _ _ _ _ us hl => match us, hl with | [_], _ => rfl)), ?_⟩
  have sc := sc_Report_mean
  refine fn_m F sc (fun cdv A outer s H E hr => ?_)
  have tk : Takes (cxOf (L2.CX P w) P w K mg base N_Report_mean "Report.mean" (defScope (inClass (top 31) 4)) g cdv A outer s H E) (fun c d _ H' => E c d H') := takes_of rfl rfl rfl rfl
  exact (bm_one (sm_ret (em_sub i_seq (em_fld 0 2 rfl (by decide +kernel) h.n_0_2 (em_var (pv 0))) em_int (fun _ _ => rfl))))
def N_Report_spread : List Str := ["self"]
theorem sc_Report_spread : FnScope N_Report_spread ["self"] (defScope (inClass (top 31) 5)) := ⟨rfl, rfl, rfl, by decide +kernel, rfl, by decide +kernel, by decide +kernel⟩
theorem ok_Report_spread (h : Hyp K mg) : Prp P w K mg base 0 "spread" 1 m_Report_spread := by
  obtain ⟨C, p, g, fd, hm, cl, pr, F⟩ := h.d_Report_spread
  refine ⟨C, p, g, fd, ["self"], hm, cl, pr, (FunD.bindsN F (fun _ _ _ _ _ _ us hl => match us, hl with | [_], _ => rfl)), ?_⟩
  have sc := sc_Report_spread
  refine fn_m F sc (fun cdv A outer s H E hr => ?_)
  have tk : Takes (cxOf (L2.CX P w) P w K mg base N_Report_spread "Report.spread" (defScope (inClass (top 31) 5)) g cdv A outer s H E) (fun c d _ H' => E c d H') := takes_of rfl rfl rfl rfl
  exact (bm_one (sm_ret (em_sub i_seq (em_fld 0 2 rfl (by decide +kernel) h.n_0_2 (em_var (pv 0))) em_int (fun _ _ => rfl))))
def N_Report_kind : List Str := ["self"]
theorem sc_Report_kind : FnScope N_Report_kind ["self"] (defScope (inClass (top 31) 6)) := ⟨rfl, rfl, rfl, by decide +kernel, rfl, by decide +kernel, by decide +kernel⟩
theorem ok_Report_kind (h : Hyp K mg) : Prp P w K mg base 0 "kind" 1 m_Report_kind := by
  obtain ⟨C, p, g, fd, hm, cl, pr, F⟩ := h.d_Report_kind
  refine ⟨C, p, g, fd, ["self"], hm, cl, pr, (FunD.bindsN F (fun _ _ _ _ _ _ us hl => match us, hl with | [_], _ => rfl)), ?_⟩
  have sc := sc_Report_kind
  refine fn_m F sc (fun cdv A outer s H E hr => ?_)
  have tk : Takes (cxOf (L2.CX P w) P w K mg base N_Report_kind "Report.kind" (defScope (inClass (top 31) 6)) g cdv A outer s H E) (fun c d _ H' => E c d H') := takes_of rfl rfl rfl rfl
  exact (bm_one (sm_ret (em_sub i_seq (em_fld 0 2 rfl (by decide +kernel) h.n_0_2 (em_var (pv 0))) em_int (fun _ _ => rfl))))
def N_Report_least : List Str := ["self"]
theorem sc_Report_least : FnScope N_Report_least ["self"] (defScope (inClass (top 31) 7)) := ⟨rfl, rfl, rfl, by decide +kernel, rfl, by decide +kernel, by decide +kernel⟩
theorem ok_Report_least (h : Hyp K mg) : Prp P w K mg base 0 "least" 1 m_Report_least := by
  obtain ⟨C, p, g, fd, hm, cl, pr, F⟩ := h.d_Report_least
  refine ⟨C, p, g, fd, ["self"], hm, cl, pr, (FunD.bindsN F (fun _ _ _ _ _ _ us hl => match us, hl with | [_], _ => rfl)), ?_⟩
  have sc := sc_Report_least
  refine fn_m F sc (fun cdv A outer s H E hr => ?_)
  have tk : Takes (cxOf (L2.CX P w) P w K mg base N_Report_least "Report.least" (defScope (inClass (top 31) 7)) g cdv A outer s H E) (fun c d _ H' => E c d H') := takes_of rfl rfl rfl rfl
  exact (bm_one (sm_ret (em_sub i_seq (em_fld 0 2 rfl (by decide +kernel) h.n_0_2 (em_var (pv 0))) em_int (fun _ _ => rfl))))
def N_Report_greatest : List Str := ["self"]
theorem sc_Report_greatest : FnScope N_Report_greatest ["self"] (defScope (inClass (top 31) 8)) := ⟨rfl, rfl, rfl, by decide +kernel, rfl, by decide +kernel, by decide +kernel⟩
theorem ok_Report_greatest (h : Hyp K mg) : Prp P w K mg base 0 "greatest" 1 m_Report_greatest := by
  obtain ⟨C, p, g, fd, hm, cl, pr, F⟩ := h.d_Report_greatest
  refine ⟨C, p, g, fd, ["self"], hm, cl, pr, (FunD.bindsN F (fun _ _ _ _ _ _ us hl => match us, hl with | [_], _ => rfl)), ?_⟩
  have sc := sc_Report_greatest
  refine fn_m F sc (fun cdv A outer s H E hr => ?_)
  have tk : Takes (cxOf (L2.CX P w) P w K mg base N_Report_greatest "Report.greatest" (defScope (inClass (top 31) 8)) g cdv A outer s H E) (fun c d _ H' => E c d H') := takes_of rfl rfl rfl rfl
  exact (bm_one (sm_ret (em_sub i_seq (em_fld 0 2 rfl (by decide +kernel) h.n_0_2 (em_var (pv 0))) em_int (fun _ _ => rfl))))
def N_Report_middle : List Str := ["self"]
theorem sc_Report_middle : FnScope N_Report_middle ["self"] (defScope (inClass (top 31) 9)) := ⟨rfl, rfl, rfl, by decide +kernel, rfl, by decide +kernel, by decide +kernel⟩
theorem ok_Report_middle (h : Hyp K mg) : Prp P w K mg base 0 "middle" 1 m_Report_middle := by
  obtain ⟨C, p, g, fd, hm, cl, pr, F⟩ := h.d_Report_middle
  refine ⟨C, p, g, fd, ["self"], hm, cl, pr, (FunD.bindsN F (fun _ _ _ _ _ _ us hl => match us, hl with | [_], _ => rfl)), ?_⟩
  have sc := sc_Report_middle
  refine fn_m F sc (fun cdv A outer s H E hr => ?_)
  have tk : Takes (cxOf (L2.CX P w) P w K mg base N_Report_middle "Report.middle" (defScope (inClass (top 31) 9)) g cdv A outer s H E) (fun c d _ H' => E c d H') := takes_of rfl rfl rfl rfl
  exact (bm_one (sm_ret (em_sub i_seq (em_fld 0 2 rfl (by decide +kernel) h.n_0_2 (em_var (pv 0))) em_int (fun _ _ => rfl))))
def N_Filler_report : List Str := ["self"]
theorem sc_Filler_report : FnScope N_Filler_report ["self"] (defScope (inClass (top 47) 1)) := ⟨rfl, rfl, rfl, by decide +kernel, rfl, by decide +kernel, by decide +kernel⟩
theorem ok_Filler_report (h : Hyp K mg) : Prp P w K mg base 1 "report" 1 m_Filler_report := by
  obtain ⟨C, p, g, fd, hm, cl, pr, F⟩ := h.d_Filler_report
  refine ⟨C, p, g, fd, ["self"], hm, cl, pr, (FunD.bindsN F (fun _ _ _ _ _ _ us hl => match us, hl with | [_], _ => rfl)), ?_⟩
  have sc := sc_Filler_report
  refine fn_m F sc (fun cdv A outer s H E hr => ?_)
  have tk : Takes (cxOf (L2.CX P w) P w K mg base N_Filler_report "Filler.report" (defScope (inClass (top 47) 1)) g cdv A outer s H E) (fun c d _ H' => E c d H') := takes_of rfl rfl rfl rfl
  exact (bm_one (sm_ret (em_fld 1 0 rfl (by decide +kernel) h.n_1_0 (em_var (pv 0)))))
end
end Sm

namespace Sm
open PySem PySem.Spec PyProof.Rows L2
def df_is_integer : Df := ⟨fun K => He.ga K "is_integer", "is_integer", "is_integer", defArgs (top 15), defBody (top 15), defScope (top 15), []⟩
def df_is_from : Df := ⟨fun K => He.ga K "is_from", "is_from", "is_from", defArgs (top 16), defBody (top 16), defScope (top 16), []⟩
def df_are_figures : Df := ⟨fun K => He.ga K "are_figures", "are_figures", "are_figures", defArgs (top 17), defBody (top 17), defScope (top 17), []⟩
def df_is_print : Df := ⟨fun K => He.ga K "is_print", "is_print", "is_print", defArgs (top 18), defBody (top 18), defScope (top 18), []⟩
def df_ten_to : Df := ⟨fun K => He.ga K "ten_to", "ten_to", "ten_to", defArgs (top 19), defBody (top 19), defScope (top 19), []⟩
def df_digits_of : Df := ⟨fun K => He.ga K "digits_of", "digits_of", "digits_of", defArgs (top 20), defBody (top 20), defScope (top 20), []⟩
def df_units_of : Df := ⟨fun K => He.ga K "units_of", "units_of", "units_of", defArgs (top 21), defBody (top 21), defScope (top 21), []⟩
def df_is_printed : Df := ⟨fun K => He.ga K "is_printed", "is_printed", "is_printed", defArgs (top 22), defBody (top 22), defScope (top 22), []⟩
def df_check_scale : Df := ⟨fun K => He.ga K "check_scale", "check_scale", "check_scale", defArgs (top 28), defBody (top 28), defScope (top 28), []⟩
def df_check_prints : Df := ⟨fun K => He.ga K "check_prints", "check_prints", "check_prints", defArgs (top 29), defBody (top 29), defScope (top 29), []⟩
def df_check_ends : Df := ⟨fun K => He.ga K "check_ends", "check_ends", "check_ends", defArgs (top 30), defBody (top 30), defScope (top 30), []⟩
def df_ends_of : Df := ⟨fun K => He.ga K "ends_of", "ends_of", "ends_of", defArgs (top 32), defBody (top 32), defScope (top 32), []⟩
def df_scale_sums : Df := ⟨fun K => He.ga K "scale_sums", "scale_sums", "scale_sums", defArgs (top 34), defBody (top 34), defScope (top 34), []⟩
def df_range_of : Df := ⟨fun K => He.ga K "range_of", "range_of", "range_of", defArgs (top 35), defBody (top 35), defScope (top 35), []⟩
def df_is_spread : Df := ⟨fun K => He.ga K "is_spread", "is_spread", "is_spread", defArgs (top 37), defBody (top 37), defScope (top 37), []⟩
def df_does_fit : Df := ⟨fun K => He.ga K "does_fit", "does_fit", "does_fit", defArgs (top 40), defBody (top 40), defScope (top 40), []⟩
def df_how_many : Df := ⟨fun K => He.ga K "how_many", "how_many", "how_many", defArgs (top 41), defBody (top 41), defScope (top 41), []⟩
def df_check_listed : Df := ⟨fun K => He.ga K "check_listed", "check_listed", "check_listed", defArgs (top 42), defBody (top 42), defScope (top 42), []⟩
def df_rows_of : Df := ⟨fun K => He.ga K "rows_of", "rows_of", "rows_of", defArgs (top 43), defBody (top 43), defScope (top 43), []⟩
def df_lists_by : Df := ⟨fun K => He.ga K "lists_by", "lists_by", "lists_by", defArgs (top 44), defBody (top 44), defScope (top 44), []⟩
def df_has_all : Df := ⟨fun K => He.ga K "has_all", "has_all", "has_all", defArgs (top 46), defBody (top 46), defScope (top 46), []⟩
def df__law_random : Df := ⟨fun K => He.ga K "_law_random", "_law_random", "_law_random", defArgs (top 49), defBody (top 49), defScope (top 49), []⟩
def df__law_below : Df := ⟨fun K => He.ga K "_law_below", "_law_below", "_law_below", defArgs (top 50), defBody (top 50), defScope (top 50), []⟩
def df__law_pick : Df := ⟨fun K => He.ga K "_law_pick", "_law_pick", "_law_pick", defArgs (top 51), defBody (top 51), defScope (top 51), []⟩
def df__law_equal : Df := ⟨fun K => He.ga K "_law_equal", "_law_equal", "_law_equal", defArgs (top 52), defBody (top 52), defScope (top 52), []⟩
def df__law_told : Df := ⟨fun K => He.ga K "_law_told", "_law_told", "_law_told", defArgs (top 53), defBody (top 53), defScope (top 53), []⟩
def df__law_made : Df := ⟨fun K => He.ga K "_law_made", "_law_made", "_law_made", defArgs (top 54), defBody (top 54), defScope (top 54), []⟩
def df_law : Df := ⟨fun K => He.ga K "law", "law", "law", defArgs (top 55), defBody (top 55), defScope (top 55), []⟩
def df_Report___init__ : Df := ⟨fun K => He.ma K (He.ga K "Report") "__init__", "__init__", "Report.__init__", defArgs (inClass (top 31) 0), defBody (inClass (top 31) 0), defScope (inClass (top 31) 0), [.non, (.str "sample"), .non, .non, .non]⟩
def df_Filler___init__ : Df := ⟨fun K => He.ma K (He.ga K "Filler") "__init__", "__init__", "Filler.__init__", defArgs (inClass (top 47) 0), defBody (inClass (top 47) 0), defScope (inClass (top 47) 0), []⟩
def df_Report_low : Df := ⟨fun K => ptAd K "Report" "low", "low", "Report.low", defArgs (inClass (top 31) 1), defBody (inClass (top 31) 1), defScope (inClass (top 31) 1), []⟩
def df_Report_high : Df := ⟨fun K => ptAd K "Report" "high", "high", "Report.high", defArgs (inClass (top 31) 2), defBody (inClass (top 31) 2), defScope (inClass (top 31) 2), []⟩
def df_Report_size : Df := ⟨fun K => ptAd K "Report" "size", "size", "Report.size", defArgs (inClass (top 31) 3), defBody (inClass (top 31) 3), defScope (inClass (top 31) 3), []⟩
def df_Report_mean : Df := ⟨fun K => ptAd K "Report" "mean", "mean", "Report.mean", defArgs (inClass (top 31) 4), defBody (inClass (top 31) 4), defScope (inClass (top 31) 4), []⟩
def df_Report_spread : Df := ⟨fun K => ptAd K "Report" "spread", "spread", "Report.spread", defArgs (inClass (top 31) 5), defBody (inClass (top 31) 5), defScope (inClass (top 31) 5), []⟩
def df_Report_kind : Df := ⟨fun K => ptAd K "Report" "kind", "kind", "Report.kind", defArgs (inClass (top 31) 6), defBody (inClass (top 31) 6), defScope (inClass (top 31) 6), []⟩
def df_Report_least : Df := ⟨fun K => ptAd K "Report" "least", "least", "Report.least", defArgs (inClass (top 31) 7), defBody (inClass (top 31) 7), defScope (inClass (top 31) 7), []⟩
def df_Report_greatest : Df := ⟨fun K => ptAd K "Report" "greatest", "greatest", "Report.greatest", defArgs (inClass (top 31) 8), defBody (inClass (top 31) 8), defScope (inClass (top 31) 8), []⟩
def df_Report_middle : Df := ⟨fun K => ptAd K "Report" "middle", "middle", "Report.middle", defArgs (inClass (top 31) 9), defBody (inClass (top 31) 9), defScope (inClass (top 31) 9), []⟩
def df_Filler_report : Df := ⟨fun K => ptAd K "Filler" "report", "report", "Filler.report", defArgs (inClass (top 47) 1), defBody (inClass (top 47) 1), defScope (inClass (top 47) 1), []⟩
def df_Filler_marks : Df := ⟨fun K => ptAd K "Filler" "marks", "marks", "Filler.marks", defArgs (inClass (top 47) 2), defBody (inClass (top 47) 2), defScope (inClass (top 47) 2), []⟩
def df_Filler___len__ : Df := ⟨fun K => He.ma K (He.ga K "Filler") "__len__", "__len__", "Filler.__len__", defArgs (inClass (top 47) 3), defBody (inClass (top 47) 3), defScope (inClass (top 47) 3), []⟩
def df_Filler_left : Df := ⟨fun K => He.ma K (He.ga K "Filler") "left", "left", "Filler.left", defArgs (inClass (top 47) 4), defBody (inClass (top 47) 4), defScope (inClass (top 47) 4), []⟩
def df_Filler_add : Df := ⟨fun K => He.ma K (He.ga K "Filler") "add", "add", "Filler.add", defArgs (inClass (top 47) 6), defBody (inClass (top 47) 6), defScope (inClass (top 47) 6), []⟩
def df_Filler_undo : Df := ⟨fun K => He.ma K (He.ga K "Filler") "undo", "undo", "Filler.undo", defArgs (inClass (top 47) 7), defBody (inClass (top 47) 7), defScope (inClass (top 47) 7), []⟩
def df_Filler_redo : Df := ⟨fun K => He.ma K (He.ga K "Filler") "redo", "redo", "Filler.redo", defArgs (inClass (top 47) 8), defBody (inClass (top 47) 8), defScope (inClass (top 47) 8), []⟩
def fx : List Fx := ([.fa (.glo "is_integer"), .fa (.glo "is_from"), .fa (.glo "are_figures"), .fa (.glo "is_print"), .fa (.glo "ten_to"), .fa (.glo "digits_of"), .fa (.glo "units_of"), .fa (.glo "is_printed"), .fa (.glo "check_scale"), .fa (.glo "check_prints"), .fa (.glo "check_ends"), .fa (.glo "ends_of"), .fa (.glo "scale_sums"), .fa (.glo "range_of"), .fa (.glo "is_spread"), .fa (.glo "does_fit"), .fa (.glo "how_many"), .fa (.glo "check_listed"), .fa (.glo "rows_of"), .fa (.glo "lists_by"), .fa (.glo "has_all"), .fa (.glo "_law_random"), .fa (.glo "_law_below"), .fa (.glo "_law_pick"), .fa (.glo "_law_equal"), .fa (.glo "_law_told"), .fa (.glo "_law_made"), .fa (.glo "law"), .fa (.glo "Report"), .fa (.mkr "Report")] : List Fx) ++ ([.fa (.glo "Filler"), .fa (.mkr "Filler"), .fa (.cls "Report"), .prop "Report" "low", .prop "Report" "high", .prop "Report" "size", .prop "Report" "mean", .prop "Report" "spread", .prop "Report" "kind", .prop "Report" "least", .prop "Report" "greatest", .prop "Report" "middle", .fa (.cls "Filler"), .prop "Filler" "report", .prop "Filler" "marks", .fa (.meth "Filler" "__len__"), .fa (.meth "Filler" "left"), .fa (.meth "Filler" "add"), .fa (.meth "Filler" "undo"), .fa (.meth "Filler" "redo"), .fa (.free "abs"), .fa (.free "all"), .fa (.free "any"), .fa (.free "bool"), .fa (.free "dict"), .fa (.free "int"), .fa (.free "isinstance"), .fa (.free "len"), .fa (.free "list"), .fa (.free "max")] : List Fx) ++ ([.fa (.free "min"), .fa (.free "range"), .fa (.free "sorted"), .fa (.free "str"), .fa (.free "sum"), .fa (.free "tuple"), .fa (.str "FIGURES" "0123456789"), .tup "KINDS" [(.str "sample"), (.str "whole")], .fa (.int "MOST_DIGITS" (4)), .fa (.int "MOST_LISTS" (20000)), .fa (.int "MOST_MARK" (50)), .fa (.int "MOST_SIZE" (1000000)), .fa (.int "MOST_WHOLE" (4)), .fa (.int "MOST_WIDTH" (11)), .fa (.glo "BadScale"), .fa (.exc "BadScale"), .fa (.glo "BadSize"), .fa (.exc "BadSize"), .fa (.glo "BadKind"), .fa (.exc "BadKind"), .fa (.glo "BadMark"), .fa (.exc "BadMark"), .fa (.glo "TooMany"), .fa (.exc "TooMany"), .fa (.glo "Full"), .fa (.exc "Full"), .exm 6, .exm 11, .exm 13, .fa (.noat "Report" "scale")] : List Fx) ++ ([.fa (.noat "Report" "many"), .fa (.noat "Report" "facts"), .fa (.noat "Filler" "paper"), .fa (.noat "Filler" "every"), .fa (.noat "Filler" "now"), .fa (.noat "Filler" "past"), .fa (.noat "Filler" "future"), .nol] : List Fx)
def fn : List Df := ([df_is_integer, df_is_from, df_are_figures, df_is_print, df_ten_to, df_digits_of, df_units_of, df_is_printed, df_check_scale, df_check_prints, df_check_ends, df_ends_of, df_scale_sums, df_range_of, df_is_spread, df_does_fit, df_how_many, df_check_listed, df_rows_of, df_lists_by, df_has_all, df__law_random, df__law_below, df__law_pick, df__law_equal, df__law_told, df__law_made, df_law, df_Report___init__, df_Filler___init__] : List Df) ++ ([df_Report_low, df_Report_high, df_Report_size, df_Report_mean, df_Report_spread, df_Report_kind, df_Report_least, df_Report_greatest, df_Report_middle, df_Filler_report, df_Filler_marks, df_Filler___len__, df_Filler_left, df_Filler_add, df_Filler_undo, df_Filler_redo] : List Df)
theorem hyp_of {K : PySem.W.Frag} {h : Heap} {mg : Str → Option Value} (X : K.In h) (G : h.Ns mainGlobals mg) (c : SaysF fx fn K) : Hyp K mg where
  d_is_integer := by
    obtain ⟨fd, F⟩ := (c.def_ 0 (d := df_is_integer))
    exact ⟨_, fd, (He.glo_ok X G (c.fact 0 (f := .fa (.glo "is_integer")))), F⟩
  d_is_from := by
    obtain ⟨fd, F⟩ := (c.def_ 1 (d := df_is_from))
    exact ⟨_, fd, (He.glo_ok X G (c.fact 1 (f := .fa (.glo "is_from")))), F⟩
  d_are_figures := by
    obtain ⟨fd, F⟩ := (c.def_ 2 (d := df_are_figures))
    exact ⟨_, fd, (He.glo_ok X G (c.fact 2 (f := .fa (.glo "are_figures")))), F⟩
  d_is_print := by
    obtain ⟨fd, F⟩ := (c.def_ 3 (d := df_is_print))
    exact ⟨_, fd, (He.glo_ok X G (c.fact 3 (f := .fa (.glo "is_print")))), F⟩
  d_ten_to := by
    obtain ⟨fd, F⟩ := (c.def_ 4 (d := df_ten_to))
    exact ⟨_, fd, (He.glo_ok X G (c.fact 4 (f := .fa (.glo "ten_to")))), F⟩
  d_digits_of := by
    obtain ⟨fd, F⟩ := (c.def_ 5 (d := df_digits_of))
    exact ⟨_, fd, (He.glo_ok X G (c.fact 5 (f := .fa (.glo "digits_of")))), F⟩
  d_units_of := by
    obtain ⟨fd, F⟩ := (c.def_ 6 (d := df_units_of))
    exact ⟨_, fd, (He.glo_ok X G (c.fact 6 (f := .fa (.glo "units_of")))), F⟩
  d_is_printed := by
    obtain ⟨fd, F⟩ := (c.def_ 7 (d := df_is_printed))
    exact ⟨_, fd, (He.glo_ok X G (c.fact 7 (f := .fa (.glo "is_printed")))), F⟩
  d_check_scale := by
    obtain ⟨fd, F⟩ := (c.def_ 8 (d := df_check_scale))
    exact ⟨_, fd, (He.glo_ok X G (c.fact 8 (f := .fa (.glo "check_scale")))), F⟩
  d_check_prints := by
    obtain ⟨fd, F⟩ := (c.def_ 9 (d := df_check_prints))
    exact ⟨_, fd, (He.glo_ok X G (c.fact 9 (f := .fa (.glo "check_prints")))), F⟩
  d_check_ends := by
    obtain ⟨fd, F⟩ := (c.def_ 10 (d := df_check_ends))
    exact ⟨_, fd, (He.glo_ok X G (c.fact 10 (f := .fa (.glo "check_ends")))), F⟩
  d_ends_of := by
    obtain ⟨fd, F⟩ := (c.def_ 11 (d := df_ends_of))
    exact ⟨_, fd, (He.glo_ok X G (c.fact 11 (f := .fa (.glo "ends_of")))), F⟩
  d_scale_sums := by
    obtain ⟨fd, F⟩ := (c.def_ 12 (d := df_scale_sums))
    exact ⟨_, fd, (He.glo_ok X G (c.fact 12 (f := .fa (.glo "scale_sums")))), F⟩
  d_range_of := by
    obtain ⟨fd, F⟩ := (c.def_ 13 (d := df_range_of))
    exact ⟨_, fd, (He.glo_ok X G (c.fact 13 (f := .fa (.glo "range_of")))), F⟩
  d_is_spread := by
    obtain ⟨fd, F⟩ := (c.def_ 14 (d := df_is_spread))
    exact ⟨_, fd, (He.glo_ok X G (c.fact 14 (f := .fa (.glo "is_spread")))), F⟩
  d_does_fit := by
    obtain ⟨fd, F⟩ := (c.def_ 15 (d := df_does_fit))
    exact ⟨_, fd, (He.glo_ok X G (c.fact 15 (f := .fa (.glo "does_fit")))), F⟩
  d_how_many := by
    obtain ⟨fd, F⟩ := (c.def_ 16 (d := df_how_many))
    exact ⟨_, fd, (He.glo_ok X G (c.fact 16 (f := .fa (.glo "how_many")))), F⟩
  d_check_listed := by
    obtain ⟨fd, F⟩ := (c.def_ 17 (d := df_check_listed))
    exact ⟨_, fd, (He.glo_ok X G (c.fact 17 (f := .fa (.glo "check_listed")))), F⟩
  d_rows_of := by
    obtain ⟨fd, F⟩ := (c.def_ 18 (d := df_rows_of))
    exact ⟨_, fd, (He.glo_ok X G (c.fact 18 (f := .fa (.glo "rows_of")))), F⟩
  d_lists_by := by
    obtain ⟨fd, F⟩ := (c.def_ 19 (d := df_lists_by))
    exact ⟨_, fd, (He.glo_ok X G (c.fact 19 (f := .fa (.glo "lists_by")))), F⟩
  d_has_all := by
    obtain ⟨fd, F⟩ := (c.def_ 20 (d := df_has_all))
    exact ⟨_, fd, (He.glo_ok X G (c.fact 20 (f := .fa (.glo "has_all")))), F⟩
  d__law_random := by
    obtain ⟨fd, F⟩ := (c.def_ 21 (d := df__law_random))
    exact ⟨_, fd, (He.glo_ok X G (c.fact 21 (f := .fa (.glo "_law_random")))), F⟩
  d__law_below := by
    obtain ⟨fd, F⟩ := (c.def_ 22 (d := df__law_below))
    exact ⟨_, fd, (He.glo_ok X G (c.fact 22 (f := .fa (.glo "_law_below")))), F⟩
  d__law_pick := by
    obtain ⟨fd, F⟩ := (c.def_ 23 (d := df__law_pick))
    exact ⟨_, fd, (He.glo_ok X G (c.fact 23 (f := .fa (.glo "_law_pick")))), F⟩
  d__law_equal := by
    obtain ⟨fd, F⟩ := (c.def_ 24 (d := df__law_equal))
    exact ⟨_, fd, (He.glo_ok X G (c.fact 24 (f := .fa (.glo "_law_equal")))), F⟩
  d__law_told := by
    obtain ⟨fd, F⟩ := (c.def_ 25 (d := df__law_told))
    exact ⟨_, fd, (He.glo_ok X G (c.fact 25 (f := .fa (.glo "_law_told")))), F⟩
  d__law_made := by
    obtain ⟨fd, F⟩ := (c.def_ 26 (d := df__law_made))
    exact ⟨_, fd, (He.glo_ok X G (c.fact 26 (f := .fa (.glo "_law_made")))), F⟩
  d_law := by
    obtain ⟨fd, F⟩ := (c.def_ 27 (d := df_law))
    exact ⟨_, fd, (He.glo_ok X G (c.fact 27 (f := .fa (.glo "law")))), F⟩
  d_Report___init__ := by
    obtain ⟨fd, F⟩ := (c.def_ 28 (d := df_Report___init__))
    exact ⟨_, _, fd, (He.glo_ok X G (c.fact 28 (f := .fa (.glo "Report")))), He.mkr_ok (c.fact 29 (f := .fa (.mkr "Report"))), F⟩
  d_Filler___init__ := by
    obtain ⟨fd, F⟩ := (c.def_ 29 (d := df_Filler___init__))
    exact ⟨_, _, fd, (He.glo_ok X G (c.fact 30 (f := .fa (.glo "Filler")))), He.mkr_ok (c.fact 31 (f := .fa (.mkr "Filler"))), F⟩
  d_Report_low := by
    obtain ⟨fd, F⟩ := (c.def_ 30 (d := df_Report_low))
    exact ⟨_, _, _, fd, (He.glo_ok X G (c.fact 28 (f := .fa (.glo "Report")))), He.cls_ok (c.fact 32 (f := .fa (.cls "Report"))), prop_ok (c.fact 33 (f := .prop "Report" "low")), F⟩
  d_Report_high := by
    obtain ⟨fd, F⟩ := (c.def_ 31 (d := df_Report_high))
    exact ⟨_, _, _, fd, (He.glo_ok X G (c.fact 28 (f := .fa (.glo "Report")))), He.cls_ok (c.fact 32 (f := .fa (.cls "Report"))), prop_ok (c.fact 34 (f := .prop "Report" "high")), F⟩
  d_Report_size := by
    obtain ⟨fd, F⟩ := (c.def_ 32 (d := df_Report_size))
    exact ⟨_, _, _, fd, (He.glo_ok X G (c.fact 28 (f := .fa (.glo "Report")))), He.cls_ok (c.fact 32 (f := .fa (.cls "Report"))), prop_ok (c.fact 35 (f := .prop "Report" "size")), F⟩
  d_Report_mean := by
    obtain ⟨fd, F⟩ := (c.def_ 33 (d := df_Report_mean))
    exact ⟨_, _, _, fd, (He.glo_ok X G (c.fact 28 (f := .fa (.glo "Report")))), He.cls_ok (c.fact 32 (f := .fa (.cls "Report"))), prop_ok (c.fact 36 (f := .prop "Report" "mean")), F⟩
  d_Report_spread := by
    obtain ⟨fd, F⟩ := (c.def_ 34 (d := df_Report_spread))
    exact ⟨_, _, _, fd, (He.glo_ok X G (c.fact 28 (f := .fa (.glo "Report")))), He.cls_ok (c.fact 32 (f := .fa (.cls "Report"))), prop_ok (c.fact 37 (f := .prop "Report" "spread")), F⟩
  d_Report_kind := by
    obtain ⟨fd, F⟩ := (c.def_ 35 (d := df_Report_kind))
    exact ⟨_, _, _, fd, (He.glo_ok X G (c.fact 28 (f := .fa (.glo "Report")))), He.cls_ok (c.fact 32 (f := .fa (.cls "Report"))), prop_ok (c.fact 38 (f := .prop "Report" "kind")), F⟩
  d_Report_least := by
    obtain ⟨fd, F⟩ := (c.def_ 36 (d := df_Report_least))
    exact ⟨_, _, _, fd, (He.glo_ok X G (c.fact 28 (f := .fa (.glo "Report")))), He.cls_ok (c.fact 32 (f := .fa (.cls "Report"))), prop_ok (c.fact 39 (f := .prop "Report" "least")), F⟩
  d_Report_greatest := by
    obtain ⟨fd, F⟩ := (c.def_ 37 (d := df_Report_greatest))
    exact ⟨_, _, _, fd, (He.glo_ok X G (c.fact 28 (f := .fa (.glo "Report")))), He.cls_ok (c.fact 32 (f := .fa (.cls "Report"))), prop_ok (c.fact 40 (f := .prop "Report" "greatest")), F⟩
  d_Report_middle := by
    obtain ⟨fd, F⟩ := (c.def_ 38 (d := df_Report_middle))
    exact ⟨_, _, _, fd, (He.glo_ok X G (c.fact 28 (f := .fa (.glo "Report")))), He.cls_ok (c.fact 32 (f := .fa (.cls "Report"))), prop_ok (c.fact 41 (f := .prop "Report" "middle")), F⟩
  d_Filler_report := by
    obtain ⟨fd, F⟩ := (c.def_ 39 (d := df_Filler_report))
    exact ⟨_, _, _, fd, (He.glo_ok X G (c.fact 30 (f := .fa (.glo "Filler")))), He.cls_ok (c.fact 42 (f := .fa (.cls "Filler"))), prop_ok (c.fact 43 (f := .prop "Filler" "report")), F⟩
  d_Filler_marks := by
    obtain ⟨fd, F⟩ := (c.def_ 40 (d := df_Filler_marks))
    exact ⟨_, _, _, fd, (He.glo_ok X G (c.fact 30 (f := .fa (.glo "Filler")))), He.cls_ok (c.fact 42 (f := .fa (.cls "Filler"))), prop_ok (c.fact 44 (f := .prop "Filler" "marks")), F⟩
  d_Filler___len__ := by
    obtain ⟨fd, F⟩ := (c.def_ 41 (d := df_Filler___len__))
    exact ⟨_, _, fd, (He.glo_ok X G (c.fact 30 (f := .fa (.glo "Filler")))), He.cls_ok (c.fact 42 (f := .fa (.cls "Filler"))), He.meth_ok (c.fact 45 (f := .fa (.meth "Filler" "__len__"))), F⟩
  d_Filler_left := by
    obtain ⟨fd, F⟩ := (c.def_ 42 (d := df_Filler_left))
    exact ⟨_, _, fd, (He.glo_ok X G (c.fact 30 (f := .fa (.glo "Filler")))), He.cls_ok (c.fact 42 (f := .fa (.cls "Filler"))), He.meth_ok (c.fact 46 (f := .fa (.meth "Filler" "left"))), F⟩
  d_Filler_add := by
    obtain ⟨fd, F⟩ := (c.def_ 43 (d := df_Filler_add))
    exact ⟨_, _, fd, (He.glo_ok X G (c.fact 30 (f := .fa (.glo "Filler")))), He.cls_ok (c.fact 42 (f := .fa (.cls "Filler"))), He.meth_ok (c.fact 47 (f := .fa (.meth "Filler" "add"))), F⟩
  d_Filler_undo := by
    obtain ⟨fd, F⟩ := (c.def_ 44 (d := df_Filler_undo))
    exact ⟨_, _, fd, (He.glo_ok X G (c.fact 30 (f := .fa (.glo "Filler")))), He.cls_ok (c.fact 42 (f := .fa (.cls "Filler"))), He.meth_ok (c.fact 48 (f := .fa (.meth "Filler" "undo"))), F⟩
  d_Filler_redo := by
    obtain ⟨fd, F⟩ := (c.def_ 45 (d := df_Filler_redo))
    exact ⟨_, _, fd, (He.glo_ok X G (c.fact 30 (f := .fa (.glo "Filler")))), He.cls_ok (c.fact 42 (f := .fa (.cls "Filler"))), He.meth_ok (c.fact 49 (f := .fa (.meth "Filler" "redo"))), F⟩
  b_abs := He.free_ok X G (c.fact 50 (f := .fa (.free "abs")))
  b_all := He.free_ok X G (c.fact 51 (f := .fa (.free "all")))
  b_any := He.free_ok X G (c.fact 52 (f := .fa (.free "any")))
  b_bool := He.free_ok X G (c.fact 53 (f := .fa (.free "bool")))
  b_dict := He.free_ok X G (c.fact 54 (f := .fa (.free "dict")))
  b_int := He.free_ok X G (c.fact 55 (f := .fa (.free "int")))
  b_isinstance := He.free_ok X G (c.fact 56 (f := .fa (.free "isinstance")))
  b_len := He.free_ok X G (c.fact 57 (f := .fa (.free "len")))
  b_list := He.free_ok X G (c.fact 58 (f := .fa (.free "list")))
  b_max := He.free_ok X G (c.fact 59 (f := .fa (.free "max")))
  b_min := He.free_ok X G (c.fact 60 (f := .fa (.free "min")))
  b_range := He.free_ok X G (c.fact 61 (f := .fa (.free "range")))
  b_sorted := He.free_ok X G (c.fact 62 (f := .fa (.free "sorted")))
  b_str := He.free_ok X G (c.fact 63 (f := .fa (.free "str")))
  b_sum := He.free_ok X G (c.fact 64 (f := .fa (.free "sum")))
  b_tuple := He.free_ok X G (c.fact 65 (f := .fa (.free "tuple")))
  g_FIGURES := gc_str X G (by decide +kernel) (c.fact 66 (f := .fa (.str "FIGURES" "0123456789")))
  g_KINDS := gc_tup X G (fun _ _ => (.cons (rv_strC (by decide +kernel)) (.cons (rv_strC (by decide +kernel)) .nil))) (c.fact 67 (f := .tup "KINDS" [(.str "sample"), (.str "whole")]))
  g_MOST_DIGITS := gc_int X G (c.fact 68 (f := .fa (.int "MOST_DIGITS" (4))))
  g_MOST_LISTS := gc_int X G (c.fact 69 (f := .fa (.int "MOST_LISTS" (20000))))
  g_MOST_MARK := gc_int X G (c.fact 70 (f := .fa (.int "MOST_MARK" (50))))
  g_MOST_SIZE := gc_int X G (c.fact 71 (f := .fa (.int "MOST_SIZE" (1000000))))
  g_MOST_WHOLE := gc_int X G (c.fact 72 (f := .fa (.int "MOST_WHOLE" (4))))
  g_MOST_WIDTH := gc_int X G (c.fact 73 (f := .fa (.int "MOST_WIDTH" (11))))
  x_0 := excF_of (c := 0) X G (c.fact 74 (f := .fa (.glo "BadScale"))) (c.fact 75 (f := .fa (.exc "BadScale")))
  x_1 := excF_of (c := 1) X G (c.fact 76 (f := .fa (.glo "BadSize"))) (c.fact 77 (f := .fa (.exc "BadSize")))
  x_3 := excF_of (c := 3) X G (c.fact 78 (f := .fa (.glo "BadKind"))) (c.fact 79 (f := .fa (.exc "BadKind")))
  x_6 := excF_of (c := 6) X G (c.fact 80 (f := .fa (.glo "BadMark"))) (c.fact 81 (f := .fa (.exc "BadMark")))
  x_11 := excF_of (c := 11) X G (c.fact 82 (f := .fa (.glo "TooMany"))) (c.fact 83 (f := .fa (.exc "TooMany")))
  x_13 := excF_of (c := 13) X G (c.fact 84 (f := .fa (.glo "Full"))) (c.fact 85 (f := .fa (.exc "Full")))
  xm_6 := exmF_of X G (c.fact 86 (f := .exm 6))
  xm_11 := exmF_of X G (c.fact 87 (f := .exm 11))
  xm_13 := exmF_of X G (c.fact 88 (f := .exm 13))
  n_0_0 := fun C e => by
    cases e.symm.trans (He.glo_ok X G (c.fact 28 (f := .fa (.glo "Report"))))
    exact ⟨He.cls_ok (c.fact 32 (f := .fa (.cls "Report"))), He.noat_ok (c.fact 89 (f := .fa (.noat "Report" "scale")))⟩
  n_0_1 := fun C e => by
    cases e.symm.trans (He.glo_ok X G (c.fact 28 (f := .fa (.glo "Report"))))
    exact ⟨He.cls_ok (c.fact 32 (f := .fa (.cls "Report"))), He.noat_ok (c.fact 90 (f := .fa (.noat "Report" "many")))⟩
  n_0_2 := fun C e => by
    cases e.symm.trans (He.glo_ok X G (c.fact 28 (f := .fa (.glo "Report"))))
    exact ⟨He.cls_ok (c.fact 32 (f := .fa (.cls "Report"))), He.noat_ok (c.fact 91 (f := .fa (.noat "Report" "facts")))⟩
  n_1_0 := fun C e => by
    cases e.symm.trans (He.glo_ok X G (c.fact 30 (f := .fa (.glo "Filler"))))
    exact ⟨He.cls_ok (c.fact 42 (f := .fa (.cls "Filler"))), He.noat_ok (c.fact 92 (f := .fa (.noat "Filler" "paper")))⟩
  n_1_1 := fun C e => by
    cases e.symm.trans (He.glo_ok X G (c.fact 30 (f := .fa (.glo "Filler"))))
    exact ⟨He.cls_ok (c.fact 42 (f := .fa (.cls "Filler"))), He.noat_ok (c.fact 93 (f := .fa (.noat "Filler" "every")))⟩
  n_1_2 := fun C e => by
    cases e.symm.trans (He.glo_ok X G (c.fact 30 (f := .fa (.glo "Filler"))))
    exact ⟨He.cls_ok (c.fact 42 (f := .fa (.cls "Filler"))), He.noat_ok (c.fact 94 (f := .fa (.noat "Filler" "now")))⟩
  n_1_3 := fun C e => by
    cases e.symm.trans (He.glo_ok X G (c.fact 30 (f := .fa (.glo "Filler"))))
    exact ⟨He.cls_ok (c.fact 42 (f := .fa (.cls "Filler"))), He.noat_ok (c.fact 95 (f := .fa (.noat "Filler" "past")))⟩
  n_1_4 := fun C e => by
    cases e.symm.trans (He.glo_ok X G (c.fact 30 (f := .fa (.glo "Filler"))))
    exact ⟨He.cls_ok (c.fact 42 (f := .fa (.cls "Filler"))), He.noat_ok (c.fact 96 (f := .fa (.noat "Filler" "future")))⟩
theorem nol_of {K : PySem.W.Frag} (c : SaysF fx fn K) : Fx.nol.ok K = true := (c.fact 97 (f := .nol))
abbrev ROW : PySem.W.OpenRow := PySem.W.OpenLaw.row PySem.Challenge.rw_meansinprint_k16_fillers_refused
abbrev hk : PySem.W.Hook := hookF 5 fx fn
def ob (s : PySem.W.SharedT) : He.AlD := obFG 5 fx fn (HandSHeadRun.getT s)
theorem ob_eq (s : PySem.W.SharedT) : ob s = hk.obs s.abs := obFG_eq (HandSHeadRun.getT_eq s)
def loose : List Str := (["_wall", "ReportError", "BadScale", "BadSize", "BadPrint", "BadKind", "BadEnd", "BadMark", "TooMany", "Full", "FIGURES", "MOST_WHOLE", "MOST_DIGITS", "is_integer", "is_from", "are_figures", "is_print", "ten_to", "digits_of", "units_of", "is_printed", "MOST_MARK", "MOST_WIDTH", "MOST_SIZE", "KINDS", "check_scale", "check_prints", "check_ends", "Report", "ends_of"] : List Str) ++ (["scale_sums", "range_of", "is_spread", "MOST_LISTS", "does_fit", "how_many", "check_listed", "rows_of", "lists_by", "has_all", "Filler", "_law_random", "_law_below", "_law_pick", "_law_equal", "_law_told", "_law_made"] : List Str)
theorem run (w : World) : HandSHeadRun.RunEq ROW (PySem.W.view ROW.prog [55]) hk ob 6000 loose w := by
  intro os
  kernel_rfl
end Sm
open PySem PySem.W PySem.Calls PyProof.Rows
/-- the law, once its plain function answers True -/
theorem holds_of (law : ∀ ns : List Int, ns.length ≤ 63 → ∃ hp, Sm.m_law [.scr (ns.map .int)] [] = .ok (.bl true) hp) : PySem.Challenge.rw_meansinprint_k16_fillers_refused.Holds := by
  w_on; o_law
  refine HandSHeadRun.head_any (r := OpenLaw.row PySem.Challenge.rw_meansinprint_k16_fillers_refused) (q := view (OpenLaw.row PySem.Challenge.rw_meansinprint_k16_fillers_refused).prog [55]) (H := Sm.hk) (ob := Sm.ob) (M := 6000) (loose := Sm.loose) (d := HandSHeadRun.topDef (OpenLaw.row PySem.Challenge.rw_meansinprint_k16_fillers_refused).prog 55) (kwd := []) Sm.ob_eq
    (by kernel_rfl) (fun s => by kernel_rfl) Sm.run (by kernel_rfl) (by kernel_rfl) (by kernel_rfl) (by rfl) (by first | assumption | decide +kernel) (by decide +kernel) ⟨rfl, rfl, rfl, rfl, rfl, by decide +kernel⟩ ?hw ?hc
  case hw => w_witness2
  case hc =>
    refine Sm.walk_ofW (l := PySem.Challenge.rw_meansinprint_k16_fillers_refused) (n := 63) (k := 18) (x := "_law_script") rfl (by decide) (by kernel_rfl) ⟨rfl, by decide, by decide⟩ ?F
    intro w mg fa h Y G hmg0
    obtain ⟨K, KX, c⟩ := Y
    have hmg : mg ("law" : PySem.Str) = some (.ref fa) := by
      have e : (HandSHeadRun.topDef (OpenLaw.row PySem.Challenge.rw_meansinprint_k16_fillers_refused).prog 55).name = ("law" : PySem.Str) := by kernel_rfl
      rw [← e]
      exact hmg0
    have hy := Sm.hyp_of KX G c
    obtain ⟨f, fd, hm, F⟩ := hy.d_law
    cases hmg.symm.trans hm
    have b := L2.FunD.bindsA (ps := ["_law_script"]) F fun _ _ _ _ _ _ us hl => match us, hl with | [_], _ => rfl
    exact ⟨K, fd, _, KX, fun s v => b s [v] rfl, fun H a ns hl hO hS => Sm.sp_law (Sm.nol_of c) law H a ns hl hO hS, fun base _ _ => Sm.run_law hy F⟩

theorem PySem.Challenge.cw_meansinprint_k16_fillers_refused_holds : PySem.Challenge.rw_meansinprint_k16_fillers_refused.Holds := by
  exact holds_of Sm.law_true
