import PyProof.Rows.All
import Wide.All
import OpenK.AllK
import Wide.FinOn
import PySem.Challenge.RW_statusbytes_k05_lines_refused
import HandS.ForMost
import KE.DataEq
import KE.KSortTupG
import HandS.SortRule
import PyProof.P3Statements
import KE.IntText
import HandS.Text
import HandS.StrMore
import PySem.Syntax
import PySem.Eval
import KE.KStateDown
import HandS.Exc
import HandS.ExcOwn
import HandS.Star
import HandS.Style
import HandS.Flow
import HandS.TupAny
import HandS.TupMul
import HandS.IsInst
import HandS.Property
import HandS.TryMany
import HandS.NoneIn
import HandS.DictComp
import KE.KDictKeyed
import HandS.WordsExc
import HandS.ForExc
import HandS.ExcIs
import HandS.ExcField
import HandS.ExcSuper
import HandS.ExcInit
import HandS.OwnEq
import HandS.AnyAll
import HandS.Sort
import HandS.SortKw
import HandS.StrSplit
import HandS.Zip
import HandS.ForDict
import HandS.Comp
import HandS.Lambda
import HandS.ExcValue
import HandS.Head3
import HandS.RaiseMore
import HandS.Conv
import KE.GoesEnum
import KE.GoesMore
import KE.KDictList
import KE.KExcSuper
import KE.KSuper
import HandS.FStr
import HandS.Nested
import HandS.HeadWalk
import HandS.HeadHook1
import HandS.HeadHook2
import HandS.HeadEnd
import HandS.Head2
import HandS.Codes
set_option Elab.async false
set_option linter.all false
set_option autoImplicit false
set_option maxRecDepth 100000
set_option maxHeartbeats 0
section
/-! == of a list and a dict: never. -/
namespace Mini
open PySem L2 PySem.Spec PyProof.Rows PySem.SeqAt PySem.MeetsSeq
theorem list_eq_declines_dict (l b : Addr) (items : Array Value) (n : Nat) (dd dd2 : Option Addr) (sl sl2 : Array (Option Value)) (es : Array DictEntry) (ep : Nat) :
    Meets (Builtin.«list.__eq__» ⟨[.ref l, .ref b], []⟩) (fun _ R s => s.heap.get? l = some { cls := .type "list", dict := dd, data := .seq items n, slots := sl } ∧ s.heap.get? b = some { cls := .type "dict", dict := dd2, data := .dict es ep, slots := sl2 } ∧ R (.ok (.ret .notImplemented)) s) :=
  .of_wp fun prog w A R s h => by obtain ⟨hp, g, d, tk, os⟩ := s; obtain ⟨hl, hb, h⟩ := h; have f1 := PySem.F.sub_dict_list; wp_walk using wpAny_loadPart' hl, wpAny_loadPart' hb; exact ⟨_, rfl, h⟩
theorem list_ne_declines_dict (l b : Addr) (items : Array Value) (n : Nat) (dd dd2 : Option Addr) (sl sl2 : Array (Option Value)) (es : Array DictEntry) (ep : Nat) :
    Meets (Builtin.«list.__ne__» ⟨[.ref l, .ref b], []⟩) (fun _ R s => s.heap.get? l = some { cls := .type "list", dict := dd, data := .seq items n, slots := sl } ∧ s.heap.get? b = some { cls := .type "dict", dict := dd2, data := .dict es ep, slots := sl2 } ∧ R (.ok (.ret .notImplemented)) s) :=
  .of_wp fun prog w A R s h => by obtain ⟨hp, g, d, tk, os⟩ := s; obtain ⟨hl, hb, h⟩ := h; have f1 := PySem.F.sub_dict_list; wp_walk using wpAny_loadPart' hl, wpAny_loadPart' hb; exact ⟨_, rfl, h⟩
theorem dict_eq_declines_list (l b : Addr) (items : Array Value) (n : Nat) (dd dd2 : Option Addr) (sl sl2 : Array (Option Value)) (es : Array DictEntry) (ep : Nat) :
    Meets (Builtin.«dict.__eq__» ⟨[.ref b, .ref l], []⟩) (fun _ R s => s.heap.get? l = some { cls := .type "list", dict := dd, data := .seq items n, slots := sl } ∧ s.heap.get? b = some { cls := .type "dict", dict := dd2, data := .dict es ep, slots := sl2 } ∧ R (.ok (.ret .notImplemented)) s) :=
  .of_wp fun prog w A R s h => by obtain ⟨hp, g, d, tk, os⟩ := s; obtain ⟨hl, hb, h⟩ := h; have f1 := PySem.F.sub_list_dict; wp_walk using wpAny_loadPart' hl, wpAny_loadPart' hb; exact ⟨_, rfl, h⟩
theorem dict_ne_declines_list (l b : Addr) (items : Array Value) (n : Nat) (dd dd2 : Option Addr) (sl sl2 : Array (Option Value)) (es : Array DictEntry) (ep : Nat) :
    Meets (Builtin.«dict.__ne__» ⟨[.ref b, .ref l], []⟩) (fun _ R s => s.heap.get? l = some { cls := .type "list", dict := dd, data := .seq items n, slots := sl } ∧ s.heap.get? b = some { cls := .type "dict", dict := dd2, data := .dict es ep, slots := sl2 } ∧ R (.ok (.ret .notImplemented)) s) :=
  .of_wp fun prog w A R s h => by obtain ⟨hp, g, d, tk, os⟩ := s; obtain ⟨hl, hb, h⟩ := h; have f1 := PySem.F.sub_list_dict; wp_walk using wpAny_loadPart' hl, wpAny_loadPart' hb; exact ⟨_, rfl, h⟩
section
variable {prog : Program} {w : World} {A : Around} {E : Value → Shared → Prop} {s : Shared} {l b : Addr} {ol ob : Obj} {items : Array Value} {n : Nat} {es : Array DictEntry} {ep : Nat} {Q : Value → Shared → Prop}
theorem ld_ne0 (ho : s.heap.get? l = some ol) (hc : ol.cls = .type "list") (ho2 : s.heap.get? b = some ob) (hc2 : ob.cls = .type "dict") : l ≠ b := fun e => by
  subst e
  rw [ho] at ho2
  cases ho2
  rw [hc] at hc2
  exact absurd hc2 (by simp)
theorem ld_eq (ho : s.heap.get? l = some ol) (hc : ol.cls = .type "list") (hd : ol.data = .seq items n) (ho2 : s.heap.get? b = some ob) (hc2 : ob.cls = .type "dict") (hd2 : ob.data = .dict es ep) (hu : A.units < cLine) (h : Q (.bool false) s) : wpAny (model prog w) A (compareOp .Eq (.ref l) (.ref b)) Q E s := by
  have hne := ld_ne0 ho hc ho2 hc2
  obtain ⟨cls, dd, data, sl⟩ := ol
  obtain ⟨cls2, dd2, data2, sl2⟩ := ob
  simp only at hc hd hc2 hd2
  subst hc hd hc2 hd2
  exact rc_eq_decline_or (k := false) (s := s) ⟨_, ho, rfl⟩ ⟨_, ho2, rfl⟩ (by decide) PySem.F.sub_dict_list PySem.F.slot_list_eq PySem.F.slot_dict_eq_refl
    (fun _ hq => call_meets PySem.F.slot_list_eq ⟨_, ho, rfl⟩ PySem.F.entry_list_eq (PySem.F.args_list_eq_2 _ _) (list_eq_declines_dict l b items n dd dd2 sl sl2 es ep) ⟨ho, ho2, hq⟩)
    (fun _ hq => call_meets PySem.F.slot_dict_eq_refl ⟨_, ho2, rfl⟩ PySem.F.entry_dict_eq (PySem.F.args_dict_eq_2 _ _) (dict_eq_declines_list l b items n dd dd2 sl sl2 es ep) ⟨ho, ho2, hq⟩)
    (fun _ hq => wpAny_isSame_ref_other hne ho ho2 (by simp) hq) (.inr hu) h
theorem ld_ne (ho : s.heap.get? l = some ol) (hc : ol.cls = .type "list") (hd : ol.data = .seq items n) (ho2 : s.heap.get? b = some ob) (hc2 : ob.cls = .type "dict") (hd2 : ob.data = .dict es ep) (hu : A.units < cLine) (h : Q (.bool true) s) : wpAny (model prog w) A (compareOp .NotEq (.ref l) (.ref b)) Q E s := by
  have hne := ld_ne0 ho hc ho2 hc2
  obtain ⟨cls, dd, data, sl⟩ := ol
  obtain ⟨cls2, dd2, data2, sl2⟩ := ob
  simp only at hc hd hc2 hd2
  subst hc hd hc2 hd2
  exact rc_ne_decline_or (k := false) (s := s) ⟨_, ho, rfl⟩ ⟨_, ho2, rfl⟩ (by decide) PySem.F.sub_dict_list PySem.F.slot_list_ne PySem.F.slot_dict_ne_refl
    (fun _ hq => call_meets PySem.F.slot_list_ne ⟨_, ho, rfl⟩ PySem.F.entry_list_ne (PySem.F.args_list_ne_2 _ _) (list_ne_declines_dict l b items n dd dd2 sl sl2 es ep) ⟨ho, ho2, hq⟩)
    (fun _ hq => call_meets PySem.F.slot_dict_ne_refl ⟨_, ho2, rfl⟩ PySem.F.entry_dict_ne (PySem.F.args_dict_ne_2 _ _) (dict_ne_declines_list l b items n dd dd2 sl sl2 es ep) ⟨ho, ho2, hq⟩)
    (fun _ hq => wpAny_isSame_ref_other hne ho ho2 (by simp) hq) (.inr hu) h
end
/-- a list and a dict -/
def rLD (K : PySem.W.Frag) (neg : Bool) : R2 := fun x y H Q => ∃ (a b : Addr) (xs : List V) (kvs : List (Key × V)), x = .ref a ∧ y = .ref b ∧ SqL K H a xs ∧ H b = some (.dK kvs) ∧ Q (.bl neg) H
section
variable {X : Cx}
theorem op_ldE (hu : X.A.units + 66 < cLine) : OpR X (compareOp .Eq) (rLD X.K false) := by
  intro pins s σ H x y v u Q I rx ry h
  obtain ⟨a, b, xs, kvs, rfl, rfl, ha, hb, q⟩ := h
  cases rx
  cases ry
  obtain ⟨its, r, ⟨ol, n, ho, hc, _, hd⟩, _⟩ := I.list ha
  obtain ⟨_, sb, vb, rb, ob, es, ep, ho2, hx, hd2, _⟩ := dk_of I.hok hb
  exact ld_eq ho hc hd ho2 hx.1 hd2 (by omega) ⟨.bl _, H, I, rfl, q⟩
theorem op_ldN (hu : X.A.units + 66 < cLine) : OpR X (compareOp .NotEq) (rLD X.K true) := by
  intro pins s σ H x y v u Q I rx ry h
  obtain ⟨a, b, xs, kvs, rfl, rfl, ha, hb, q⟩ := h
  cases rx
  cases ry
  obtain ⟨its, r, ⟨ol, n, ho, hc, _, hd⟩, _⟩ := I.list ha
  obtain ⟨_, sb, vb, rb, ob, es, ep, ho2, hx, hd2, _⟩ := dk_of I.hok hb
  exact ld_ne ho hc hd ho2 hx.1 hd2 (by omega) ⟨.bl _, H, I, rfl, q⟩
end
end Mini
end
section
/-! sorted of what is ascending already: tuples of texts and whole numbers. -/
namespace Mini
open PySem L2 PySem.Spec PyProof.Rows PyProof.Rows.G
section uniq
variable {α : Type} {lt : α → α → Bool}
theorem asc_perm : ∀ {l m : List α}, l.Pairwise (fun x y => lt x y = true) → m.Pairwise (fun x y => lt y x = false) → l.Perm m → l = m
  | [], m, _, _, h => (List.Perm.eq_nil h.symm).symm
  | x :: l, [], _, _, h => absurd h.length_eq (by simp)
  | x :: l, y :: m, hl, hm, h => by
    have e : x = y := by
      rcases List.mem_cons.mp (h.mem_iff.mp (List.mem_cons_self (a := x) (l := l))) with e | hx
      · exact e
      · rcases List.mem_cons.mp (h.mem_iff.mpr (List.mem_cons_self (a := y) (l := m))) with e | hy
        · exact e.symm
        · have h1 := (List.pairwise_cons.mp hl).1 y hy
          have h2 := (List.pairwise_cons.mp hm).1 x hx
          rw [h1] at h2; cases h2
    subst e
    rw [asc_perm (List.pairwise_cons.mp hl).2 (List.pairwise_cons.mp hm).2 h.cons_inv]
end uniq
/-- texts but at the second place, where there is a whole number -/
def shp (i : Nat) : Bool := !(i == 1)
def keyV (h : Heap) (v : Value) : List (Int ⊕ List Nat) := (tupKeyC h shp v).getD []
theorem asc_out {h : Heap} {vs : List Value} {arr : Array Keyed} (hp : arr.Perm (pairsOf vs)) (hs : SortedToK (tupKindC h shp) arr (pairsOf vs).size) (ha : vs.Pairwise fun u v => lexLt itemOrd (keyV h u) (keyV h v) = true) : arr.map (·.2) = vs.toArray := by
  have hl : arr.toList.Perm (vs.zip vs) := by
    have e := Array.perm_iff_toList_perm.mp hp
    rwa [pairsOf_toList] at e
  have hz : vs.zip vs = vs.map fun v => (v, v) := by
    clear hp hs ha hl
    induction vs with
    | nil => rfl
    | cons v r ih => rw [List.zip_cons_cons, ih]; rfl
  rw [hz] at hl
  have h1 : (vs.map fun v => ((v, v) : Keyed)).Pairwise fun p q => lexLt itemOrd (keyV h p.1) (keyV h q.1) = true := List.pairwise_map.mpr ha
  have h2 : arr.toList.Pairwise fun p q => lexLt itemOrd (keyV h q.1) (keyV h p.1) = false := by
    rw [List.pairwise_iff_getElem]
    intro i j hi hj hij
    have hsz : (pairsOf vs).size = arr.size := by
      rw [pairsOf_size, ← Array.length_toList, hl.length_eq, List.length_map]
    have hj' : j < arr.size := by simpa using hj
    have hi' : i < arr.size := by omega
    have e := hs i j (by omega) (by omega)
    have ei : arr[i]? = some arr[i] := Array.getElem?_eq_getElem hi'
    have ej : arr[j]? = some arr[j] := Array.getElem?_eq_getElem hj'
    have k1 : KK (tupKindC h shp) arr i = keyV h (arr[i]).1 := by unfold KK; rw [ei]; rfl
    have k2 : KK (tupKindC h shp) arr j = keyV h (arr[j]).1 := by unfold KK; rw [ej]; rfl
    rw [k1, k2] at e
    exact e
  have h3 := asc_perm (lt := fun p q : Keyed => lexLt itemOrd (keyV h p.1) (keyV h q.1)) h1 h2 hl.symm
  apply Array.ext'
  rw [Array.toList_map, ← h3, List.map_map]
  exact List.map_id vs
/-! ### on the layer's values -/
def itV : Int ⊕ Str → V
  | .inl i => .int i
  | .inr x => .str x
def itK : Int ⊕ Str → Int ⊕ List Nat
  | .inl i => .inl i
  | .inr x => .inr x.cps.toList
def fits : Nat → List (Int ⊕ Str) → Bool
  | _, [] => true
  | i, .inl _ :: r => !shp i && fits (i + 1) r
  | i, .inr _ :: r => shp i && fits (i + 1) r
theorem tup_items : ∀ {l : List (Int ⊕ Str)} {us : List Value} {i : Nat}, Vals (l.map itV) us → fits i l = true → tupItems shp i us = some (l.map itK)
  | [], us, i, h, _ => by cases h; rfl
  | x :: r, us, i, h, hf => by
    cases h with | cons hv ht =>
    rename_i u us'
    cases x with
    | inl n =>
      simp only [fits, Bool.and_eq_true, Bool.not_eq_true'] at hf
      obtain ⟨t, rfl⟩ : ∃ t, u = Value.int n t := hv
      have := tup_items ht hf.2
      show (if shp i = true then none else (tupItems shp (i + 1) us').map _) = _
      rw [hf.1, this]; rfl
    | inr n =>
      simp only [fits, Bool.and_eq_true] at hf
      obtain ⟨t, rfl⟩ : ∃ t, u = Value.str n t := hv
      have := tup_items ht hf.2
      show (if shp i = true then (tupItems shp (i + 1) us').map _ else none) = _
      rw [hf.1, this]; rfl
/-- sorted(xs), xs a list of such tuples, ascending already: a new list of the same -/
def rSortedA (K : PySem.W.Frag) : List V → Hp → VK → Prop := fun vs H Q => ∃ (a : Addr) (l : List (Addr × List (Int ⊕ Str))), vs = [V.ref a] ∧ SqL K H a (l.map fun p => V.ref p.1) ∧
  (∀ p ∈ l, SqT K H p.1 (p.2.map itV) ∧ fits 0 p.2 = true ∧ p.2 ≠ []) ∧ l.Pairwise (fun p q => lexLt itemOrd (p.2.map itK) (q.2.map itK) = true) ∧
  ∀ b, H b = none → Q (.ref b) (upd H b (.lst (l.map fun p => V.ref p.1)))
theorem cr_sortedA {X : Cx} : CallR X (.builtin "sorted") (rSortedA X.K) := by
  intro pins s σ H vs us Q I r h
  obtain ⟨a, l, rfl, hs, hx, hp, q⟩ := h
  obtain ⟨its, rv, hl, hz⟩ := I.list hs
  obtain ⟨u, rfl, ru⟩ := vals1 r
  obtain rfl : u = Value.ref a := ru
  have hits : its = l.map fun p => Value.ref p.1 := by
    clear hl hz hs hx hp q
    induction l generalizing its with
    | nil => cases rv; rfl
    | cons p r ih =>
      cases rv with | cons hv ht =>
      rw [ih _ ht]
      obtain rfl : _ = Value.ref p.1 := hv
      rfl
  subst hits
  have keys : ∀ p ∈ l, tupKeyC s.heap shp (.ref p.1) = some (p.2.map itK) ∧ ∃ f, TupOf s.heap shp (.ref p.1) f := by
    intro p hm
    obtain ⟨ht, hf, hne⟩ := hx p hm
    obtain ⟨its2, r2, ⟨o, ho, hc, n, hd⟩, _⟩ := I.tuple ht
    have hi := tup_items r2 hf
    have e1 : isTupObj s.heap (.ref p.1) = true := by simp [isTupObj, ho, hc]
    refine ⟨?_, ?_⟩
    · unfold tupKeyC
      rw [if_pos e1]
      simp only [tupKey, ho, hd]
      exact hi
    · cases hp2 : p.2 with
      | nil => exact absurd hp2 hne
      | cons x t =>
        rw [hp2] at r2 hf
        cases r2 with | cons hv hu =>
        rename_i u us'
        cases x with
        | inl i => simp [fits, shp] at hf
        | inr x =>
          obtain ⟨tk, rfl⟩ : ∃ t, u = Value.str x t := hv
          exact ⟨_, p.1, o, _, n, rfl, ho, hc, hd, by simp, (fun h => by simp [shp] at h), fun _ => ⟨x, tk, rfl⟩⟩
  have hT : ∃ fs, TupsOf s.heap shp (l.map fun p => Value.ref p.1) fs := by
    clear hp q rv hl hz hs hx
    induction l with
    | nil => exact ⟨[], .nil⟩
    | cons p r ih =>
      obtain ⟨fs, h⟩ := ih fun p hm => keys p (List.mem_cons_of_mem _ hm)
      obtain ⟨_, f, hf⟩ := keys p List.mem_cons_self
      exact ⟨f :: fs, .cons hf h⟩
  obtain ⟨fs, hT⟩ := hT
  refine sorted_tups (vs := l.map fun p => Value.ref p.1) hl.isList hT (fun v hv => ?_) (by rw [← rv.length]; exact hz) fun st' h1 h2 _ => ?_
  · obtain ⟨p, hm, rfl⟩ := List.mem_map.mp hv
    exact ⟨_, (keys p hm).1⟩
  · have he := asc_out h1 h2 (by
      rw [List.pairwise_map]
      refine hp.imp_of_mem fun {p q} m1 m2 hlt => ?_
      unfold keyV
      rw [(keys p m1).1, (keys q m2).1]
      exact hlt)
    rw [he]
    obtain ⟨ep, he'⟩ := PyProof.Rows.sortedAll_at s.heap (l.map fun p => Value.ref p.1) (l.map fun p => Value.ref p.1).toArray
    exact ⟨.ref _, upd H (s.heap.objs.size + 1) (.lst (l.map fun p => V.ref p.1)), I.laid (t' := s.toks) (fun _ _ => PyProof.Rows.sortedAll_old) (Nat.le_succ _) ⟨hz, (l.map fun p => Value.ref p.1), ep, rv, he'⟩, rfl, q _ (I.hok.fresh (Nat.le_succ _))⟩
end Mini
end
section
/-! Mini: a small language with values as trees and a store for what is changed; its meaning as predicate transformers. -/
namespace Mini
open PySem

inductive D where
  | non
  | bl (b : Bool)
  | int (i : Int)
  | str (x : Str)
  | tup (xs : List D)
  | lst (xs : List D)
  | dct (ks xs : List D)
  | ins (C : Str) (fs : List Str) (xs : List D)
  | exc (C : Str) (fs : List Str) (xs : List D)
  | ref (n : Nat)
  | scr (ns : List Int)
  deriving Inhabited

inductive SO where
  | lst (xs : List D)
  | dct (ks xs : List D)
  | ins (C : Str) (fs : List Str) (xs : List D)

abbrev Sto := List SO
abbrev Env := List (Option D)
abbrev XP := Str → List Str → List D → Sto → Prop
abbrev QD := D → Sto → Prop
abbrev Spec := List D → Sto → QD → XP → Prop

/-- the longest sequence -/
def line : Nat := 2 ^ 24
def noX : XP := fun _ _ _ _ => False

/-! ### reading values -/
def asL (st : Sto) : D → Option (List D)
  | .lst xs => some xs
  | .ref k => match st[k]? with
    | some (.lst xs) => some xs
    | _ => none
  | _ => none
def asT : D → Option (List D)
  | .tup xs => some xs
  | _ => none
def asS (st : Sto) : D → Option (List D)
  | .tup xs => some xs
  | d => asL st d
def asC (st : Sto) : D → Option (List D × List D)
  | .dct ks xs => some (ks, xs)
  | .ref k => match st[k]? with
    | some (.dct ks xs) => some (ks, xs)
    | _ => none
  | _ => none
def asI (st : Sto) : D → Option (Str × List Str × List D)
  | .ins C fs xs => some (C, fs, xs)
  | .ref k => match st[k]? with
    | some (.ins C fs xs) => some (C, fs, xs)
    | _ => none
  | _ => none

mutual
def toPD : D → Option PyData
  | .non => some .none
  | .bl b => some (.bool b)
  | .int i => some (.int i)
  | .str x => some (.str x)
  | .tup xs => match toPDs xs with
    | some ys => some (.tuple ys)
    | none => none
  | .lst xs => match toPDs xs with
    | some ys => some (.list ys)
    | none => none
  | _ => none
def toPDs : List D → Option (List PyData)
  | [] => some []
  | x :: xs => match toPD x, toPDs xs with
    | some y, some ys => some (y :: ys)
    | _, _ => none
end
/-- the value with its own list read -/
def drf (st : Sto) (d : D) : D := match d with
  | .ref k => match st[k]? with
    | some (.lst xs) => .lst xs
    | _ => d
  | _ => d
/-- not deep -/
def shal (p : PyData) : Bool := decide (p.depth ≤ 64)
def eqP (st : Sto) (x y : D) : Option Bool :=
  match toPD (drf st x), toPD (drf st y) with
  | some a, some b => if shal a && shal b then some (PyData.eqv a b) else none
  | _, _ => none
/-- dicts by their keys -/
def keyB (a b : D) : Bool := match toPD a, toPD b with
  | some x, some y => PyData.eqv x y
  | _, _ => false
def lookD : List D → List D → D → Option D
  | k :: ks, x :: xs, j => if keyB k j then some x else lookD ks xs j
  | _, _, _ => none
def putD (ks xs : List D) (j v : D) : List D × List D :=
  if ks.any fun k => keyB k j then (ks, List.zipWith (fun k x => if keyB k j then v else x) ks xs) else (ks ++ [j], xs ++ [v])
def lookF : List Str → List D → Str → Option D
  | f :: fs, x :: xs, g => if f = g then some x else lookF fs xs g
  | _, _, _ => none
def putF : List Str → List D → Str → D → List Str × List D
  | f :: fs, x :: xs, g, v => if f = g then (f :: fs, v :: xs) else ((f :: (putF fs xs g v).1), (x :: (putF fs xs g v).2))
  | _, _, g, v => ([g], [v])
/-- what may be a key: a text or an int; or tuples -/
def leafK : D → Bool
  | .int _ => true
  | .str _ => true
  | _ => false
mutual
def nestK : D → Bool
  | .non => true
  | .bl _ => true
  | .int _ => true
  | .str _ => true
  | .tup xs => nestKs xs
  | _ => false
def nestKs : List D → Bool
  | [] => true
  | x :: xs => nestK x && nestKs xs
end
def tupK : D → Bool
  | .tup xs => nestKs xs && (match toPD (.tup xs) with
    | some p => decide (p.depth ≤ 7)
    | none => false)
  | _ => false
/-- what stands behind a star: a dict by its keys -/
def asSK (st : Sto) (d : D) : Option (List D) := match asS st d with
  | some xs => some xs
  | none => match asC st d with
    | some (ks, _) => if ks.all leafK then some ks else none
    | none => none
/-- the key fits the dict's keys -/
def keyOk (ks : List D) (k : D) : Bool := leafK k && ks.all leafK

/-- a place of any sign -/
def plc (n : Nat) (i : Int) : Option Nat := if 0 ≤ i then (if i < n then some i.toNat else none) else if -(n : Int) ≤ i then some (i + n).toNat else none
def atD (xs : List D) (i : Int) : Option D := match plc xs.length i with
  | some j => xs[j]?
  | none => none
/-- a slice's bound -/
def bnd (n d : Nat) : Option Int → Nat
  | none => d
  | some v => if v < 0 then (v + (n : Int)).toNat else min v.toNat n
def cut (xs : List D) (lo hi : Option Int) : List D := (xs.drop (bnd xs.length 0 lo)).take (bnd xs.length xs.length hi - bnd xs.length 0 lo)

/-! ### operators -/
inductive BOp where
  | add | sub | mul | mod | fdiv | pow
inductive COp where
  | eq | ne | lt | le | gt | ge | is_ | isn | in_ | nin
def small (i : Int) : Bool := decide (-(2 ^ 64) < i) && decide (i < 2 ^ 64)
def binD (st : Sto) (op : BOp) (x y : D) : Option D :=
  match op, x, y with
  | .add, .int i, .int j => some (.int (i + j))
  | .sub, .int i, .int j => some (.int (i - j))
  | .mul, .int i, .int j => if small i || small j then some (.int (i * j)) else none
  | .mod, .int i, .int j => if 0 < j then some (.int (i % j)) else none
  | .fdiv, .int i, .int j => if 0 < j ∧ j < 1073741824 then some (.int (i / j)) else none
  | .pow, .int i, .int j => if 0 ≤ j ∧ j ≤ 1000 ∧ i.natAbs < 2 ^ 64 then some (.int (i ^ j.toNat)) else none
  | .add, .str a, .str b => if a.length + b.length ≤ line then some (.str (a ++ b)) else none
  | .add, .tup xs, .tup ys => if xs.length + ys.length ≤ line then some (.tup (xs ++ ys)) else none
  | .mul, .tup xs, .int k => if xs ≠ [] ∧ 2 ≤ k ∧ k ≤ 1000 ∧ xs.length ≤ 1000 then some (.tup (List.replicate k.toNat xs).flatten) else none
  | .add, x, y => match asL st x, asL st y with
    | some xs, some ys => if xs.length + ys.length ≤ line then some (.lst (xs ++ ys)) else none
    | _, _ => none
  | .mul, x, .int k => match asL st x with
    | some xs => if -(2 ^ 63) ≤ k ∧ k < 2 ^ 63 ∧ xs.length * k.toNat ≤ line then some (.lst (List.replicate k.toNat xs).flatten) else none
    | none => none
  | _, _, _ => none
def inP (xs : List D) (x : D) : Option Bool :=
  match toPDs xs, toPD x with
  | some ds, some d => if shal (.list ds) && shal d then some (ds.any fun z => PyData.eqv z d) else none
  | _, _ => none
def isInt : D → Bool
  | .int _ => true
  | _ => false
def eqInt : D → D → Bool
  | .int i, .int j => i == j
  | _, _ => false
/-- each of the one's pairs stands in the other -/
def eqKD (ks' xs' : List D) : List D → List D → Bool
  | k :: ks, x :: xs => (match lookD ks' xs' k with
    | none => false
    | some y => keyB x y && eqKD ks' xs' ks xs)
  | _, _ => true
/-- data, not deep -/
def datB (d : D) : Bool := match toPD d with
  | some p => shal p
  | none => false
/-- == of any two values; of dicts with data alone; a list is no dict -/
def eqD (st : Sto) (x y : D) : Option Bool := match asC st x, asC st y with
  | some (ks, xs), some (ks', xs') => if ks.all leafK && ks'.all leafK && xs.all datB && xs'.all datB then some (ks.length == ks'.length && eqKD ks' xs' ks xs) else none
  | none, some (ks, _) => if (asL st x).isSome && ks.all leafK then some false else eqP st x y
  | _, _ => eqP st x y
def isNone : D → Bool
  | .non => true
  | _ => false
def cmpD (st : Sto) (op : COp) (x y : D) : Option Bool :=
  match op with
  | .eq => eqD st x y
  | .ne => (eqD st x y).map (!·)
  | .lt => match x, y with
    | .int i, .int j => some (decide (i < j))
    | _, _ => none
  | .le => match x, y with
    | .int i, .int j => some (decide (i ≤ j))
    | _, _ => none
  | .gt => match x, y with
    | .int i, .int j => some (decide (j < i))
    | _, _ => none
  | .ge => match x, y with
    | .int i, .int j => some (decide (j ≤ i))
    | _, _ => none
  | .is_ => match y with
    | .non => some (isNone x)
    | _ => none
  | .isn => match y with
    | .non => some (!isNone x)
    | _ => none
  | .in_ => match asS st y, asC st y with
    | some xs, _ => inP xs (drf st x)
    | none, some (ks, vs) => if keyOk ks x then some (lookD ks vs x).isSome else none
    | none, none => none
  | .nin => match asS st y, asC st y with
    | some xs, _ => (inP xs (drf st x)).map (!·)
    | none, some (ks, vs) => if keyOk ks x then some (!(lookD ks vs x).isSome) else none
    | none, none => none
def idxD (st : Sto) (o i : D) : Option D :=
  match asS st o, asC st o, i with
  | some xs, _, .int k => atD xs k
  | none, some (ks, vs), k => if keyOk ks k then lookD ks vs k else none
  | _, _, _ => none
def slcD (st : Sto) (o : D) (lo hi : Option Int) : Option D :=
  match o with
  | .tup xs => some (.tup (cut xs lo hi))
  | o => (asL st o).map fun xs => .lst (cut xs lo hi)
def revD (st : Sto) (o : D) : Option D := (asL st o).map fun xs => .lst xs.reverse
def fldD (st : Sto) (o : D) (f : Str) : Option D := match asI st o with
  | some (_, fs, xs) => lookF fs xs f
  | none => none

/-! ### builtins -/
inductive BI where
  | len | list | tuple | int | str | all | any | min | max | dict | sorted | vals
def bools : List D → Option (List Bool)
  | [] => some []
  | .bl b :: r => match bools r with
    | some bs => some (b :: bs)
    | none => none
  | _ :: _ => none
def strsD : List D → Option (List Str)
  | [] => some []
  | .str b :: r => match strsD r with
    | some bs => some (b :: bs)
    | none => none
  | _ :: _ => none
/-- what is ascending already -/
def itOf : D → Option (Int ⊕ Str)
  | .int i => some (.inl i)
  | .str x => some (.inr x)
  | _ => none
def itsOf : List D → Option (List (Int ⊕ Str))
  | [] => some []
  | x :: xs => match itOf x, itsOf xs with
    | some y, some ys => some (y :: ys)
    | _, _ => none
def tksOf : List D → Option (List (List (Int ⊕ Str)))
  | [] => some []
  | .tup xs :: r => match itsOf xs, tksOf r with
    | some y, some ys => some (y :: ys)
    | _, _ => none
  | _ :: _ => none
def ascB : List (List (Int ⊕ Str)) → Bool
  | [] => true
  | x :: r => r.all (fun y => PyProof.Rows.lexLt PyProof.Rows.itemOrd (x.map itK) (y.map itK)) && ascB r
def tupS (xs : List D) : Bool := match tksOf xs with
  | some ks => ks.all (fun k => fits 0 k && !k.isEmpty) && ascB ks
  | none => false
def ascS : List Str → Bool
  | [] => true
  | x :: r => r.all (fun y => !PySem.Spec.ltCps y.cps.toList x.cps.toList) && ascS r
def strS (xs : List D) : Bool := match strsD xs with
  | some ss => decide (ss.length < 64) && ascS ss
  | none => false
def biD (st : Sto) (b : BI) (ds : List D) : Option D :=
  match b, ds with
  | .len, [d] => match asS st d, asC st d with
    | some xs, _ => some (.int xs.length)
    | none, some (ks, _) => if ks.all leafK then some (.int ks.length) else none
    | none, none => none
  | .list, [d] => match asS st d, asC st d with
    | some xs, _ => some (.lst xs)
    | none, some (ks, _) => if ks.all leafK then some (.lst ks) else none
    | none, none => match d with
      | .scr ns => some (.lst (ns.map .int))
      | _ => none
  | .tuple, [d] => (asS st d).map .tup
  | .int, [.int i] => some (.int i)
  | .int, [.bl b] => some (.int (if b then 1 else 0))
  | .int, [.str x] => if x.length ≤ 640 then (PySem.intText? x).map .int else none
  | .str, [.str x] => some (.str x)
  | .str, [.int i] => if i.natAbs.log2 < 1920 then some (.str (toString i)) else none
  | .all, [d] => match asL st d with
    | some xs => (bools xs).map fun bs => .bl (bs.all id)
    | none => none
  | .any, [d] => match asL st d with
    | some xs => (bools xs).map fun bs => .bl (bs.any id)
    | none => none
  | .min, [.int i, .int j] => some (.int (if j < i then j else i))
  | .max, [.int i, .int j] => some (.int (if j > i then j else i))
  | .dict, [d] => match asC st d with
    | some (ks, xs) => if ks.all leafK then some (.dct ks xs) else none
    | none => none
  | .vals, [d] => match asC st d with
    | some (ks, xs) => if ks.all leafK then some (.tup xs) else none
    | none => none
  | .sorted, [d] => match asL st d with
    | some xs => if tupS xs || strS xs then some (.lst xs) else none
    | none => none
  | _, _ => none

/-! ### isinstance -/
inductive Ty where
  | int | str | bool | tuple | list | own (C : Str)
inductive Kd where
  | non | bl | int | str | tup | lst | dct | ins (C : Str)
def kdOf (st : Sto) (d : D) : Option Kd :=
  match d with
  | .non => some .non
  | .bl _ => some .bl
  | .int _ => some .int
  | .str _ => some .str
  | .tup _ => some .tup
  | .lst _ => some .lst
  | .dct ks _ => if ks.all leafK then some .dct else none
  | .ins C _ _ => some (.ins C)
  | .exc _ _ _ => none
  | .scr _ => none
  | .ref k => match st[k]? with
    | some (.lst _) => some .lst
    | some (.dct ks _) => if ks.all leafK then some .dct else none
    | some (.ins C _ _) => some (.ins C)
    | none => none
def isK (sub : Str → Str → Bool) (t : Ty) (k : Kd) : Bool :=
  match t, k with
  | .own C, .ins E => sub E C
  | .int, .int => true
  | .int, .bl => true
  | .bool, .bl => true
  | .str, .str => true
  | .tuple, .tup => true
  | .list, .lst => true
  | _, _ => false
def isI (sub : Str → Str → Bool) (st : Sto) (t : Ty) (d : D) : Option Bool := (kdOf st d).map (isK sub t)

/-! ### methods of built-in types -/
inductive MT where
  | append | extend | pop | reverse | index | get | setd | split | join | strip
def isFlat : D → Bool
  | .non => true
  | .bl _ => true
  | .int _ => true
  | .str _ => true
  | _ => false
/-- == of flat values -/
def eqF : D → D → Bool
  | .non, .non => true
  | .bl a, .bl b => a == b
  | .bl a, .int b => (if a then 1 else 0) == b
  | .int a, .bl b => a == (if b then 1 else 0)
  | .int a, .int b => a == b
  | .str a, .str b => a == b
  | _, _ => false
/-- the receiver's kind -/
def tyM (b : MT) (o : D) (st : Sto) : Bool := match b with
  | .get => (match asC st o with
    | some (ks, _) => ks.all leafK
    | none => false)
  | .setd => (match asC st o with
    | some (ks, _) => ks.all leafK
    | none => false)
  | .split => (match o with | .str _ => true | _ => false)
  | .join => (match o with | .str _ => true | _ => false)
  | .strip => (match o with | .str _ => true | _ => false)
  | _ => (asL st o).isSome
def sets (st : Sto) (k : Nat) (o : SO) : Sto := st.set k o

/-! ### the language -/
mutual
inductive CE where
  | var (i : Nat)
  | cst (d : D)
  | glb (x : Str) (d : D)
  | bin (m : Bool) (op : BOp) (a b : CE)
  | neg (a : CE)
  | cmp (cls : List Str) (op : COp) (a b : CE)
  | chn (o1 o2 : COp) (a b c : CE)
  | and_ (a b : CE)
  | or_ (a b : CE)
  | not_ (a : CE)
  | ite (c a b : CE)
  | tup (es : CEs)
  | lst (m : Bool) (es : CEs)
  | dct (m : Bool) (es : CEs)
  | idx (a b : CE)
  | slc (m : Bool) (a lo hi : CE)
  | rev (m : Bool) (a : CE)
  | fld (a : CE) (f : Str)
  | prp (q : Str) (a : CE)
  | call (f : Str) (es : CEs)
  | callk (f : Str) (es : CEs) (k : Str) (e : CE)
  | make (C : Str) (es : CEs)
  | bi (m : Bool) (b : BI) (es : CEs)
  | isi (a : CE) (ts : List Ty)
  | mt (b : MT) (a : CE) (es : CEs)
  | mc (C m q : Str) (a : CE) (es : CEs)
  | comp (m : Bool) (own : List Nat) (tg : CG) (it : CI) (t : CE) (el : CE)
  | comp2 (m : Bool) (own own1 : List Nat) (tg : CG) (it : CI) (tg1 : CG) (it1 : CI) (el : CE)
  | dcomp (m : Bool) (own : List Nat) (tg : CG) (it : CI) (k v : CE)
  | exf (i : Nat) (f : Str)
  | exi (i : Nat) (C : Str)
  | noe
inductive CEs where
  | nil
  | cons (e : CE) (es : CEs)
  | star (e : CE) (es : CEs)
inductive CI where
  | val (a : CE)
  | rng (a b : CE)
  | enm (a : CE)
  | zip (a b : CE)
  | itm (a : CE)
inductive CG where
  | name (i : Nat)
  | tup (gs : CGs)
  | fld (a : CE) (f : Str)
  | sub (a b : CE)
inductive CGs where
  | nil
  | cons (g : CG) (gs : CGs)
end

mutual
inductive CS where
  | asg (g : CG) (e : CE)
  | aug (i : Nat) (op : BOp) (e : CE)
  | augf (a : CE) (f : Str) (op : BOp) (e : CE)
  | exp (e : CE)
  | iff (c : CE) (a b : CSs)
  | forr (g : CG) (it : CI) (b : CSs)
  | whl (c : CE) (b : CSs)
  | ret (e : CE)
  | retn
  | raise (C : Str) (es : CEs)
  | tr (b : CSs) (hs : CHs)
  | pass
  | gh
  | nev
inductive CSs where
  | nil
  | cons (s : CS) (ss : CSs)
inductive CHs where
  | nil
  | cons (C : Str) (i : Nat) (b : CSs) (r : CHs)
end
end Mini
end
section
namespace Mini
open PySem

structure Sg where
  Gm : Str → Spec
  sub : Str → Str → Bool
  efs : Str → List Str

/-- a spec, closed under weaker wishes -/
def Clo (S : Spec) : Spec := fun ds st Q X => ∃ Q0 X0, S ds st Q0 X0 ∧ (∀ d s, Q0 d s → Q d s) ∧ (∀ C fs xs s, X0 C fs xs s → X C fs xs s)
theorem Clo.mk {S : Spec} {ds st Q X} (h : S ds st Q X) : Clo S ds st Q X := ⟨Q, X, h, fun _ _ h => h, fun _ _ _ _ h => h⟩
theorem Clo.mono {S : Spec} {ds : List D} {st : Sto} {Q Q' : QD} {X X' : XP} (h : Clo S ds st Q X) (hq : ∀ d s, Q d s → Q' d s) (hx : ∀ C fs xs s, X C fs xs s → X' C fs xs s) : Clo S ds st Q' X' := by
  obtain ⟨Q0, X0, h, a, b⟩ := h
  exact ⟨Q0, X0, h, fun d s q => hq d s (a d s q), fun C fs xs s q => hx C fs xs s (b C fs xs s q)⟩

def retM (m : Bool) (d : D) (st : Sto) (Q : QD) : Prop :=
  match m, d with
  | true, .lst xs => Q (.ref st.length) (st ++ [.lst xs])
  | true, .dct ks xs => Q (.ref st.length) (st ++ [.dct ks xs])
  | _, d => Q d st
def fldOk : D → Bool
  | .non => true
  | .int i => decide (-(10 ^ 9) < i) && decide (i < 10 ^ 9)
  | _ => false
def excOk (ds : List D) : Bool := ds.all fldOk && true
def optI : D → Option (Option Int)
  | .non => some none
  | .int i => some (some i)
  | _ => none
def depL (d : D) (xs : List D) : Sto → Prop := match d with
  | .ref k => fun s => s[k]? = some (.lst xs)
  | _ => fun _ => True
def rngD (i j : Int) : List D := (List.range (j - i).toNat).map fun (k : Nat) => D.int (i + (k : Int))
def enmD (k : Nat) : List D → List D
  | [] => []
  | x :: xs => .tup [.int (k : Int), x] :: enmD (k + 1) xs
def zipD : List D → List D → List D
  | x :: xs, y :: ys => .tup [x, y] :: zipD xs ys
  | _, _ => []
/-- a comprehension's turns -/
def loopA (dep : Sto → Prop) (body : D → List D → Sto → (List D → Sto → Prop) → Prop) : List D → List D → Sto → (List D → Sto → Prop) → Prop
  | [], acc, st, Q => dep st ∧ Q acc st
  | x :: r, acc, st, Q => dep st ∧ body x acc st fun acc' st' => loopA dep body r acc' st' Q
def keysOf : List D → List D
  | .tup [a, _] :: r => a :: keysOf r
  | _ => []
def valsOf : List D → List D
  | .tup [_, b] :: r => b :: valsOf r
  | _ => []
def wipeE (env : Env) (own : List Nat) : Env := own.foldr (fun i e => e.set i none) env

def lenGs : CGs → Nat
  | .nil => 0
  | .cons _ r => lenGs r + 1
def evens : List D → List D
  | a :: _ :: r => a :: evens r
  | _ => []
def odds : List D → List D
  | _ :: b :: r => b :: odds r
  | _ => []
section
variable (G : Sg)
def wpC (cls : List Str) (op : COp) (x y : D) (st : Sto) (Q : QD) (X : XP) : Prop :=
  match op with
  | .eq => (match asI st x with
    | some (C, _, _) => C ∈ cls ∧ (kdOf st y).isSome = true ∧ Clo (G.Gm (C ++ ".__eq__")) [x, y] st (fun d s => ∃ b, d = .bl b ∧ Q (.bl b) s) noX
    | none => ∃ b, cmpD st .eq x y = some b ∧ Q (.bl b) st)
  | .ne => (match asI st x with
    | some (C, _, _) => C ∈ cls ∧ (kdOf st y).isSome = true ∧ Clo (G.Gm (C ++ ".__eq__")) [x, y] st (fun d s => ∃ b, d = .bl b ∧ Q (.bl (!b)) s) noX
    | none => ∃ b, cmpD st .ne x y = some b ∧ Q (.bl b) st)
  | op => ∃ b, cmpD st op x y = some b ∧ Q (.bl b) st
/-- a method of a built-in type -/
def wpM (b : MT) (o : D) (ds : List D) (st : Sto) (Q : QD) : Prop :=
  match b, ds with
  | .append, [v] => ∃ k xs, o = .ref k ∧ st[k]? = some (.lst xs) ∧ xs.length < line ∧ Q .non (st.set k (.lst (xs ++ [v])))
  | .extend, [v] => ∃ k xs zs, o = .ref k ∧ st[k]? = some (.lst xs) ∧ asL st v = some zs ∧ xs.length + zs.length ≤ line ∧ Q .non (st.set k (.lst (xs ++ zs)))
  | .pop, [] => ∃ k xs y, o = .ref k ∧ st[k]? = some (.lst xs) ∧ xs.getLast? = some y ∧ Q y (st.set k (.lst xs.dropLast))
  | .reverse, [] => ∃ k xs, o = .ref k ∧ st[k]? = some (.lst xs) ∧ Q .non (st.set k (.lst xs.reverse))
  | .index, [v] => ∃ xs j, asL st o = some xs ∧ isFlat v = true ∧ xs.all isFlat = true ∧ xs.findIdx? (fun z => eqF z v) = some j ∧ Q (.int ((j : Nat) : Int)) st
  | .get, [k, d] => ∃ ks xs, asC st o = some (ks, xs) ∧ keyOk ks k = true ∧ Q ((lookD ks xs k).getD d) st
  | .split, [v] => ∃ a b : Str, o = .str a ∧ v = .str b ∧ (b.length == 0) = false ∧ a.length + 2 ≤ 16777216 ∧ Q (.lst ((Txt.split a b).map .str)) st
  | .join, [v] => ∃ (a : Str) (xs : List D) (ss : List Str), o = .str a ∧ asS st v = some xs ∧ strsD xs = some ss ∧ (ss.map (·.length)).sum + ss.length * a.length ≤ 16777216 ∧ Q (.str (Txt.join a ss)) st
  | .strip, [v] => ∃ a b : Str, o = .str a ∧ v = .str b ∧ a.length ≤ 16777216 ∧ Q (.str (Txt.stripChars a b)) st
  | _, _ => False
def setF (o : D) (f : Str) (v : D) (st : Sto) (Q : Sto → Prop) : Prop :=
  ∃ k C fs xs, o = .ref k ∧ st[k]? = some (.ins C fs xs) ∧ fs.length < 900 ∧ Q (st.set k (.ins C (putF fs xs f v).1 (putF fs xs f v).2))
def setI (o i v : D) (st : Sto) (Q : Sto → Prop) : Prop :=
  match o with
  | .ref k => (match st[k]?, i with
    | some (.lst xs), .int j => ∃ n, plc xs.length j = some n ∧ Q (st.set k (.lst (xs.set n v)))
    | some (.dct ks xs), i => keyOk ks i = true ∧ ks.length < line ∧ Q (st.set k (.dct (putD ks xs i v).1 (putD ks xs i v).2))
    | _, _ => False)
  | _ => False

mutual
def wpE : CE → Env → Sto → QD → XP → Prop
  | .var i, env, st, Q, _ => ∃ d, env[i]? = some (some d) ∧ Q d st
  | .cst d, _, st, Q, _ => Q d st
  | .glb _ d, _, st, Q, _ => Q d st
  | .bin m op a b, env, st, Q, X => wpE a env st (fun x s1 => wpE b env s1 (fun y s2 => ∃ d, binD s2 op x y = some d ∧ retM m d s2 Q) X) X
  | .neg a, env, st, Q, X => wpE a env st (fun x s1 => ∃ i, x = .int i ∧ Q (.int (-i)) s1) X
  | .cmp cls op a b, env, st, Q, X => wpE a env st (fun x s1 => wpE b env s1 (fun y s2 => wpC G cls op x y s2 Q X) X) X
  | .chn o1 o2 a b c, env, st, Q, X => wpE a env st (fun x s1 => wpE b env s1 (fun y s2 => ∃ k, cmpD s2 o1 x y = some k ∧
      if k then wpE c env s2 (fun z s3 => ∃ k2, cmpD s3 o2 y z = some k2 ∧ Q (.bl k2) s3) X else Q (.bl false) s2) X) X
  | .and_ a b, env, st, Q, X => wpE a env st (fun x s1 => ∃ k, x = .bl k ∧ if k then wpE b env s1 Q X else Q (.bl false) s1) X
  | .or_ a b, env, st, Q, X => wpE a env st (fun x s1 => ∃ k, x = .bl k ∧ if k then Q (.bl true) s1 else wpE b env s1 Q X) X
  | .not_ a, env, st, Q, X => wpE a env st (fun x s1 => ∃ k, x = .bl k ∧ Q (.bl (!k)) s1) X
  | .ite c a b, env, st, Q, X => wpE c env st (fun x s1 => ∃ k, x = .bl k ∧ if k then wpE a env s1 Q X else wpE b env s1 Q X) X
  | .tup es, env, st, Q, X => wpEs es env st (fun ds s1 => ds.length ≤ line ∧ Q (.tup ds) s1) X
  | .lst m es, env, st, Q, X => wpEs es env st (fun ds s1 => ds.length ≤ line ∧ retM m (.lst ds) s1 Q) X
  | .dct m .nil, _, st, Q, _ => retM m (.dct [] []) st Q
  | .dct m es, env, st, Q, X => m = true ∧ wpEs es env (st ++ [.dct [] []]) (fun ds s => s[st.length]? = some (.dct [] []) ∧ (evens ds).length ≤ 15 ∧ (evens ds).all leafK = true ∧ (evens ds).Pairwise (fun a b => keyB a b = false) ∧
      Q (.ref st.length) (s.set st.length (.dct (evens ds) (odds ds)))) X
  | .idx a b, env, st, Q, X => wpE a env st (fun x s1 => wpE b env s1 (fun y s2 => ∃ d, idxD s2 x y = some d ∧ Q d s2) X) X
  | .slc m a lo hi, env, st, Q, X => wpE a env st (fun x s1 => wpE lo env s1 (fun l s2 => ∃ l', optI l = some l' ∧ wpE hi env s2 (fun h s3 => ∃ h' d, optI h = some h' ∧ slcD s3 x l' h' = some d ∧ retM m d s3 Q) X) X) X
  | .rev m a, env, st, Q, X => wpE a env st (fun x s1 => ∃ d, revD s1 x = some d ∧ retM m d s1 Q) X
  | .fld a f, env, st, Q, X => wpE a env st (fun x s1 => ∃ d, fldD s1 x f = some d ∧ Q d s1) X
  | .prp q a, env, st, Q, X => wpE a env st (fun x s1 => Clo (G.Gm q) [x] s1 Q noX) X
  | .call f es, env, st, Q, X => wpEs es env st (fun ds s1 => Clo (G.Gm f) ds s1 Q X) X
  | .callk f es k e, env, st, Q, X => wpEs es env st (fun ds s1 => wpE e env s1 (fun d s2 => Clo (G.Gm f) (ds ++ [d]) s2 Q X) X) X
  | .make C es, env, st, Q, X => wpEs es env st (fun ds s1 => Clo (G.Gm C) ds s1 Q X) X
  | .bi m b es, env, st, Q, X => wpEs es env st (fun ds s1 => ∃ d, biD s1 b ds = some d ∧ retM m d s1 Q) X
  | .isi a ts, env, st, Q, X => wpE a env st (fun x s1 => ∃ k, kdOf s1 x = some k ∧ Q (.bl (ts.any fun t => isK G.sub t k)) s1) X
  | .mt b a es, env, st, Q, X => wpE a env st (fun x s1 => tyM b x s1 = true ∧ wpEs es env s1 (fun ds s2 => wpM b x ds s2 Q) X) X
  | .mc C m q a es, env, st, Q, X => wpE a env st (fun x s1 => (∃ fs xs, asI s1 x = some (C, fs, xs) ∧ m ∉ fs) ∧ wpEs es env s1 (fun ds s2 => Clo (G.Gm q) (x :: ds) s2 Q X) X) X
  | .comp m own tg it t el, env, st, Q, X => wpI it env st (fun xs dep s1 =>
      loopA dep (fun x acc s k => wpG tg x (wipeE env own) s (fun e2 s2 => wpE t e2 s2 (fun b s3 => ∃ c, b = .bl c ∧
          if c then wpE el e2 s3 (fun y s4 => acc.length < line ∧ k (acc ++ [y]) s4) noX else k acc s3) noX) noX)
        xs [] s1 (fun ys s => retM m (.lst ys) s Q)) X
  | .comp2 m own own1 tg it tg1 it1 el, env, st, Q, X => wpI it env st (fun xs dep s1 =>
      loopA dep (fun x acc s k => wpG tg x (wipeE env own) s (fun e2 s2 => wpI it1 e2 s2 (fun xs1 dep1 s3 =>
        loopA dep1 (fun x1 acc1 s k1 => wpG tg1 x1 (wipeE e2 own1) s (fun e3 s4 => wpE el e3 s4 (fun y s5 => acc1.length < line ∧ k1 (acc1 ++ [y]) s5) noX) noX) xs1 acc s3 k) noX) noX)
        xs [] s1 (fun ys s => retM m (.lst ys) s Q)) X
  | .dcomp m own tg it ke ve, env, st, Q, X => wpI it env st (fun xs dep s1 =>
      loopA dep (fun x acc s k => wpG tg x (wipeE env own) s (fun e2 s2 => wpE ke e2 s2 (fun a s3 => wpE ve e2 s3 (fun b s4 =>
          keyOk (keysOf acc) a = true ∧ (keysOf acc).all (fun j => !keyB j a) = true ∧ acc.length < line ∧ k (acc ++ [.tup [a, b]]) s4) noX) noX) noX)
        xs [] s1 (fun ys s => retM m (.dct (keysOf ys) (valsOf ys)) s Q)) X
  | .exf i f, env, st, Q, _ => ∃ C fs xs d, env[i]? = some (some (.exc C fs xs)) ∧ lookF fs xs f = some d ∧ Q d st
  | .exi i D', env, st, Q, _ => ∃ C fs xs, env[i]? = some (some (.exc C fs xs)) ∧ Q (.bl (G.sub C D')) st
  | .noe, _, st, Q, _ => Q .non st
def wpEs : CEs → Env → Sto → (List D → Sto → Prop) → XP → Prop
  | .nil, _, st, Q, _ => Q [] st
  | .cons e es, env, st, Q, X => wpE e env st (fun d s1 => wpEs es env s1 (fun ds s2 => Q (d :: ds) s2) X) X
  | .star e es, env, st, Q, X => wpE e env st (fun d s1 => ∃ xs, asSK s1 d = some xs ∧ wpEs es env s1 (fun ds s2 => Q (xs ++ ds) s2) X) X
def wpI : CI → Env → Sto → (List D → (Sto → Prop) → Sto → Prop) → XP → Prop
  | .val a, env, st, Q, X => wpE a env st (fun d s1 => ∃ xs, asS s1 d = some xs ∧ Q xs (depL d xs) s1) X
  | .rng a b, env, st, Q, X => wpE a env st (fun x s1 => wpE b env s1 (fun y s2 => ∃ i j, x = .int i ∧ y = .int j ∧ -(2 ^ 62) ≤ i ∧ i < 2 ^ 62 ∧ -(2 ^ 62) ≤ j ∧ j < 2 ^ 62 ∧ Q (rngD i j) (fun _ => True) s2) X) X
  | .enm a, env, st, Q, X => wpE a env st (fun d s1 => ∃ xs, asS s1 d = some xs ∧ Q (enmD 0 xs) (depL d xs) s1) X
  | .zip a b, env, st, Q, X => wpE a env st (fun d s1 => wpE b env s1 (fun c s2 => ∃ xs ys, asS s2 d = some xs ∧ asS s2 c = some ys ∧ Q (zipD xs ys) (fun s => depL d xs s ∧ depL c ys s) s2) X) X
  | .itm a, env, st, Q, X => wpE a env st (fun d s1 => ∃ ks xs, d = .dct ks xs ∧ Q (zipD ks xs) (fun _ => True) s1) X
def wpG : CG → D → Env → Sto → (Env → Sto → Prop) → XP → Prop
  | .name i, d, env, st, Q, _ => i < env.length ∧ Q (env.set i (some d)) st
  | .tup gs, d, env, st, Q, X => ∃ xs, asS st d = some xs ∧ xs.length = lenGs gs ∧ wpGs gs xs env st Q X
  | .fld a f, d, env, st, Q, X => wpE a env st (fun o s1 => setF o f d s1 (Q env)) X
  | .sub a b, d, env, st, Q, X => wpE a env st (fun o s1 => wpE b env s1 (fun i s2 => setI o i d s2 (Q env)) X) X
def wpGs : CGs → List D → Env → Sto → (Env → Sto → Prop) → XP → Prop
  | .nil, xs, env, st, Q, _ => xs = [] ∧ Q env st
  | .cons g gs, xs, env, st, Q, X => ∃ y r, xs = y :: r ∧ wpG g y env st (fun e s => wpGs gs r e s Q X) X
end

/-- what is wanted behind a statement -/
structure Kt where
  /-- how long the store was at the start: what is older stays -/
  n0 : Nat
  nx : Env → Sto → Prop
  rt : D → Sto → Prop
  bk : Env → Sto → Prop := fun _ _ => False
  ct : Env → Sto → Prop := fun _ _ => False
  xx : Env → XP
def loopF (dep : Sto → Prop) (body : D → Env → Sto → Kt → Prop) : List D → Env → Sto → Kt → Prop
  | [], env, st, K => dep st ∧ K.nx env st
  | x :: r, env, st, K => dep st ∧ body x env st { K with nx := fun e s => loopF dep body r e s K, ct := fun e s => loopF dep body r e s K, bk := K.nx }

/-! ### objects that are changed no more -/
mutual
/-- all references lie below n -/
def bd (n : Nat) : D → Bool
  | .tup xs => bds n xs
  | .lst xs => bds n xs
  | .dct ks xs => bds n ks && bds n xs
  | .ins _ _ xs => bds n xs
  | .exc _ _ xs => bds n xs
  | .ref k => decide (k < n)
  | _ => true
def bds (n : Nat) : List D → Bool
  | [] => true
  | x :: xs => bd n x && bds n xs
end
def bdS (n : Nat) : SO → Bool
  | .lst xs => bds n xs
  | .dct ks xs => bds n ks && bds n xs
  | .ins _ _ xs => bds n xs
def Clsd (st : Sto) : Prop := ∀ so ∈ st, bdS st.length so = true
mutual
inductive Fz (n : Nat) (g : List SO) : D → D → Prop
  | lst {j : Nat} {xs ys : List D} : g[j]? = some (.lst xs) → Fzs n g xs ys → Fz n g (.ref (n + j)) (.lst ys)
  | dct {j : Nat} {ks xs ys : List D} : g[j]? = some (.dct ks xs) → bds n ks = true → Fzs n g xs ys → Fz n g (.ref (n + j)) (.dct ks ys)
  | ins {j : Nat} {C : Str} {fs : List Str} {xs ys : List D} : g[j]? = some (.ins C fs xs) → Fzs n g xs ys → Fz n g (.ref (n + j)) (.ins C fs ys)
  | old {d : D} : bd n d = true → Fz n g d d
  | tup {xs ys : List D} : Fzs n g xs ys → Fz n g (.tup xs) (.tup ys)
  | inl {xs ys : List D} : Fzs n g xs ys → Fz n g (.lst xs) (.lst ys)
inductive Fzs (n : Nat) (g : List SO) : List D → List D → Prop
  | nil : Fzs n g [] []
  | cons {x y : D} {xs ys : List D} : Fz n g x y → Fzs n g xs ys → Fzs n g (x :: xs) (y :: ys)
end
def RG (n : Nat) (d : D) (st : Sto) (P : QD) : Prop := P d st ∨ ∃ st0 g d', st = st0 ++ g ∧ n ≤ st0.length ∧ Clsd st0 ∧ Fz st0.length g d d' ∧ P d' st0
inductive EFz (n : Nat) (g : List SO) : Env → Env → Prop
  | nil : EFz n g [] []
  | drop {o : Option D} {e e' : Env} : EFz n g e e' → EFz n g (o :: e) (none :: e')
  | keep {d d' : D} {e e' : Env} : Fz n g d d' → EFz n g e e' → EFz n g (some d :: e) (some d' :: e')
def GH (n : Nat) (env : Env) (st : Sto) (P : Env → Sto → Prop) : Prop := P env st ∨ ∃ st0 g env', st = st0 ++ g ∧ n ≤ st0.length ∧ Clsd st0 ∧ EFz st0.length g env env' ∧ P env' st0

mutual
def wpS : CS → Env → Sto → Kt → Prop
  | .asg g e, env, st, K => wpE G e env st (fun d s1 => wpG G g d env s1 K.nx noX) (K.xx env)
  | .aug i op e, env, st, K => ∃ x, env[i]? = some (some x) ∧ wpE G e env st (fun y s1 => ∃ d, binD s1 op x y = some d ∧ (∃ i j, x = .int i ∧ y = .int j) ∧ K.nx (env.set i (some d)) s1) (K.xx env)
  | .augf a f op e, env, st, K => wpE G a env st (fun o s1 => ∃ x, fldD s1 o f = some x ∧ wpE G e env s1 (fun y s2 => ∃ d, binD s2 op x y = some d ∧ (∃ i j, x = .int i ∧ y = .int j) ∧ setF o f d s2 (K.nx env)) (K.xx env)) (K.xx env)
  | .exp e, env, st, K => wpE G e env st (fun _ s1 => K.nx env s1) (K.xx env)
  | .iff c a b, env, st, K => wpE G c env st (fun x s1 => ∃ k, x = .bl k ∧ if k then wpSs a env s1 K else wpSs b env s1 K) (K.xx env)
  | .forr g it b, env, st, K => wpI G it env st (fun xs dep s1 => loopF dep (fun x e s K' => wpG G g x e s (fun e2 s2 => wpSs b e2 s2 K') noX) xs env s1 { K with n0 := s1.length }) (K.xx env)
  | .whl c b, env, st, K => ∃ W : Nat → Env → Sto → Prop, (∃ m, W m env st) ∧ ∀ m e s, W m e s → wpE G c e s (fun x s1 => ∃ k, x = .bl k ∧
      if k then wpSs b e s1 { K with nx := fun e' s' => ∃ m', m' < m ∧ W m' e' s', ct := fun e' s' => ∃ m', m' < m ∧ W m' e' s', bk := K.nx } else K.nx e s1) (K.xx e)
  | .ret e, env, st, K => wpE G e env st K.rt (K.xx env)
  | .retn, _, st, K => K.rt .non st
  | .raise C es, env, st, K => wpEs G es env st (fun ds s1 => excOk ds = true ∧ ds.length = (G.efs C).length ∧ K.xx env C (G.efs C) ds s1) (K.xx env)
  | .tr b hs, env, st, K => wpSs b env st { K with xx := fun e C fs xs s => wpHs hs C fs xs e s K }
  | .pass, env, st, K => K.nx env st
  | .gh, env, st, K => GH K.n0 env st K.nx
  | .nev, _, _, _ => False
def wpSs : CSs → Env → Sto → Kt → Prop
  | .nil, env, st, K => K.nx env st
  | .cons s ss, env, st, K => wpS s env st { K with nx := fun e s' => wpSs ss e s' K }
def wpHs : CHs → Str → List Str → List D → Env → Sto → Kt → Prop
  | .nil, C, fs, xs, env, st, K => K.xx env C fs xs st
  | .cons C' i b r, C, fs, xs, env, st, K => if G.sub C C' then i < env.length ∧ wpSs b (env.set i (some (.exc C fs xs))) st { K with nx := fun e s => K.nx (e.set i none) s, bk := fun _ _ => False, ct := fun _ _ => False, xx := fun _ => noX }
    else wpHs r C fs xs env st K
end
end
end Mini
end
section
namespace Mini
open PySem
section
variable {G : Sg}
theorem retM_mono {m : Bool} {d : D} {st : Sto} {Q Q' : QD} (hq : ∀ d s, Q d s → Q' d s) (h : retM m d st Q) : retM m d st Q' := by
  unfold retM at h ⊢
  cases m with
  | false => exact hq _ _ h
  | true => cases d <;> exact hq _ _ h
theorem loopA_mono {dep : Sto → Prop} {b b' : D → List D → Sto → (List D → Sto → Prop) → Prop} (hb : ∀ x acc st (k k' : List D → Sto → Prop), (∀ o s, k o s → k' o s) → b x acc st k → b' x acc st k') :
    ∀ (xs acc : List D) (st : Sto) {Q Q' : List D → Sto → Prop}, (∀ o s, Q o s → Q' o s) → loopA dep b xs acc st Q → loopA dep b' xs acc st Q'
  | [], _, _, _, _, hq, h => ⟨h.1, hq _ _ h.2⟩
  | x :: r, acc, st, _, _, hq, h => ⟨h.1, hb _ _ _ _ _ (fun o s => loopA_mono hb r o s hq) h.2⟩
theorem wpC_mono {cls : List Str} {op : COp} {x y : D} {st : Sto} {Q Q' : QD} {X X' : XP} (hq : ∀ d s, Q d s → Q' d s) (hx : ∀ C f x s, X C f x s → X' C f x s) (h : wpC G cls op x y st Q X) : wpC G cls op x y st Q' X' := by
  unfold wpC at h ⊢
  cases op
  case eq =>
    dsimp only at h ⊢
    cases e : asI st x with
    | none => rw [e] at h; dsimp only at h ⊢; obtain ⟨b, h1, h2⟩ := h; exact ⟨b, h1, hq _ _ h2⟩
    | some p => rw [e] at h; dsimp only at h ⊢; exact ⟨h.1, h.2.1, h.2.2.mono (fun d s ⟨b, e, q⟩ => ⟨b, e, hq _ _ q⟩) fun _ _ _ _ z => z⟩
  case ne =>
    dsimp only at h ⊢
    cases e : asI st x with
    | none => rw [e] at h; dsimp only at h ⊢; obtain ⟨b, h1, h2⟩ := h; exact ⟨b, h1, hq _ _ h2⟩
    | some p => rw [e] at h; dsimp only at h ⊢; exact ⟨h.1, h.2.1, h.2.2.mono (fun d s ⟨b, e, q⟩ => ⟨b, e, hq _ _ q⟩) fun _ _ _ _ z => z⟩
  all_goals
    dsimp only at h ⊢
    obtain ⟨b, h1, h2⟩ := h
    exact ⟨b, h1, hq _ _ h2⟩
theorem wpM_mono {b : MT} {o : D} {ds : List D} {st : Sto} {Q Q' : QD} (hq : ∀ d s, Q d s → Q' d s) (h : wpM b o ds st Q) : wpM b o ds st Q' := by
  unfold wpM at h ⊢
  split at h
  · obtain ⟨k, xs, a, b, c, d⟩ := h; exact ⟨k, xs, a, b, c, hq _ _ d⟩
  · obtain ⟨k, xs, zs, a, b, c, e, d⟩ := h; exact ⟨k, xs, zs, a, b, c, e, hq _ _ d⟩
  · obtain ⟨k, xs, y, a, b, c, d⟩ := h; exact ⟨k, xs, y, a, b, c, hq _ _ d⟩
  · obtain ⟨k, xs, a, b, d⟩ := h; exact ⟨k, xs, a, b, hq _ _ d⟩
  · obtain ⟨xs, j, a, b, c, e, q⟩ := h; exact ⟨xs, j, a, b, c, e, hq _ _ q⟩
  · obtain ⟨ks, xs, a, b, q⟩ := h; exact ⟨ks, xs, a, b, hq _ _ q⟩
  · obtain ⟨ks, xs, a, b, c, d, q⟩ := h; exact ⟨ks, xs, a, b, c, d, hq _ _ q⟩
  · obtain ⟨ks, xs, ss, a, b, c, d, q⟩ := h; exact ⟨ks, xs, ss, a, b, c, d, hq _ _ q⟩
  · obtain ⟨ks, xs, a, b, c, q⟩ := h; exact ⟨ks, xs, a, b, c, hq _ _ q⟩
  · exact h.elim
theorem setF_mono {o : D} {f : Str} {v : D} {st : Sto} {Q Q' : Sto → Prop} (hq : ∀ s, Q s → Q' s) (h : setF o f v st Q) : setF o f v st Q' := by
  obtain ⟨k, C, fs, xs, a, b, c, d⟩ := h
  exact ⟨k, C, fs, xs, a, b, c, hq _ d⟩
theorem setI_mono {o i v : D} {st : Sto} {Q Q' : Sto → Prop} (hq : ∀ s, Q s → Q' s) (h : setI o i v st Q) : setI o i v st Q' := by
  unfold setI at h ⊢
  split at h
  · split at h
    · obtain ⟨n, a, b⟩ := h; exact ⟨n, a, hq _ b⟩
    · obtain ⟨a, b, c⟩ := h; exact ⟨a, b, hq _ c⟩
    · exact h.elim
  · exact h.elim

mutual
theorem wpE_mono : ∀ (c : CE) (env : Env) (st : Sto) {Q Q' : QD} {X X' : XP}, (∀ d s, Q d s → Q' d s) → (∀ C f x s, X C f x s → X' C f x s) → wpE G c env st Q X → wpE G c env st Q' X'
  | .var i, env, st, _, _, _, _, hq, hx, h => by unfold wpE at h ⊢; obtain ⟨d, a, b⟩ := h; exact ⟨d, a, hq _ _ b⟩
  | .cst d, env, st, _, _, _, _, hq, hx, h => by unfold wpE at h ⊢; exact hq _ _ h
  | .glb _ d, env, st, _, _, _, _, hq, hx, h => by unfold wpE at h ⊢; exact hq _ _ h
  | .bin m op a b, env, st, _, _, _, _, hq, hx, h => by
    unfold wpE at h ⊢
    exact wpE_mono a env st (fun x s => wpE_mono b env s (fun y s ⟨d, e, q⟩ => ⟨d, e, retM_mono hq q⟩) hx) hx h
  | .neg a, env, st, _, _, _, _, hq, hx, h => by
    unfold wpE at h ⊢
    exact wpE_mono a env st (fun x s ⟨d, e, q⟩ => ⟨d, e, hq _ _ q⟩) hx h
  | .cmp cls op a b, env, st, _, _, _, _, hq, hx, h => by
    unfold wpE at h ⊢
    exact wpE_mono a env st (fun x s => wpE_mono b env s (fun y s q => wpC_mono hq hx q) hx) hx h
  | .chn o1 o2 a b c, env, st, _, _, _, _, hq, hx, h => by
    unfold wpE at h ⊢
    refine wpE_mono a env st (fun x s => wpE_mono b env s (fun y s ⟨k, e, q⟩ => ⟨k, e, ?_⟩) hx) hx h
    cases k with
    | true => exact wpE_mono c env s (fun z s ⟨k2, e, q⟩ => ⟨k2, e, hq _ _ q⟩) hx q
    | false => exact hq _ _ q
  | .and_ a b, env, st, _, _, _, _, hq, hx, h => by
    unfold wpE at h ⊢
    refine wpE_mono a env st (fun x s ⟨k, e, q⟩ => ⟨k, e, ?_⟩) hx h
    cases k with
    | true => exact wpE_mono b env s hq hx q
    | false => exact hq _ _ q
  | .or_ a b, env, st, _, _, _, _, hq, hx, h => by
    unfold wpE at h ⊢
    refine wpE_mono a env st (fun x s ⟨k, e, q⟩ => ⟨k, e, ?_⟩) hx h
    cases k with
    | false => exact wpE_mono b env s hq hx q
    | true => exact hq _ _ q
  | .not_ a, env, st, _, _, _, _, hq, hx, h => by
    unfold wpE at h ⊢
    exact wpE_mono a env st (fun x s ⟨k, e, q⟩ => ⟨k, e, hq _ _ q⟩) hx h
  | .ite c a b, env, st, _, _, _, _, hq, hx, h => by
    unfold wpE at h ⊢
    refine wpE_mono c env st (fun x s ⟨k, e, q⟩ => ⟨k, e, ?_⟩) hx h
    cases k with
    | false => exact wpE_mono b env s hq hx q
    | true => exact wpE_mono a env s hq hx q
  | .tup es, env, st, _, _, _, _, hq, hx, h => by
    unfold wpE at h ⊢
    exact wpEs_mono es env st (fun ds s ⟨l, q⟩ => ⟨l, hq _ _ q⟩) hx h
  | .lst m es, env, st, _, _, _, _, hq, hx, h => by
    unfold wpE at h ⊢
    exact wpEs_mono es env st (fun ds s ⟨l, q⟩ => ⟨l, retM_mono hq q⟩) hx h
  | .dct m .nil, env, st, _, _, _, _, hq, hx, h => by
    unfold wpE at h ⊢
    exact retM_mono hq h
  | .dct m (.cons e es), env, st, _, _, _, _, hq, hx, h => by
    unfold wpE at h ⊢
    exact ⟨h.1, wpEs_mono (.cons e es) env _ (fun ds s ⟨a, a2, b, c, q⟩ => ⟨a, a2, b, c, hq _ _ q⟩) hx h.2⟩
  | .dct m (.star e es), env, st, _, _, _, _, hq, hx, h => by
    unfold wpE at h ⊢
    exact ⟨h.1, wpEs_mono (.star e es) env _ (fun ds s ⟨a, a2, b, c, q⟩ => ⟨a, a2, b, c, hq _ _ q⟩) hx h.2⟩
  | .idx a b, env, st, _, _, _, _, hq, hx, h => by
    unfold wpE at h ⊢
    exact wpE_mono a env st (fun x s => wpE_mono b env s (fun y s ⟨d, e, q⟩ => ⟨d, e, hq _ _ q⟩) hx) hx h
  | .slc m a lo hi, env, st, _, _, _, _, hq, hx, h => by
    unfold wpE at h ⊢
    exact wpE_mono a env st (fun x s => wpE_mono lo env s (fun l s ⟨l', e1, q⟩ => ⟨l', e1, wpE_mono hi env s (fun u s ⟨h', d, e2, e3, q⟩ => ⟨h', d, e2, e3, retM_mono hq q⟩) hx q⟩) hx) hx h
  | .rev m a, env, st, _, _, _, _, hq, hx, h => by
    unfold wpE at h ⊢
    exact wpE_mono a env st (fun x s ⟨d, e, q⟩ => ⟨d, e, retM_mono hq q⟩) hx h
  | .fld a f, env, st, _, _, _, _, hq, hx, h => by
    unfold wpE at h ⊢
    exact wpE_mono a env st (fun x s ⟨d, e, q⟩ => ⟨d, e, hq _ _ q⟩) hx h
  | .prp q a, env, st, _, _, _, _, hq, hx, h => by
    unfold wpE at h ⊢
    exact wpE_mono a env st (fun x s q => q.mono hq fun _ _ _ _ z => z) hx h
  | .call f es, env, st, _, _, _, _, hq, hx, h => by
    unfold wpE at h ⊢
    exact wpEs_mono es env st (fun x s q => q.mono hq hx) hx h
  | .callk f es k e, env, st, _, _, _, _, hq, hx, h => by
    unfold wpE at h ⊢
    exact wpEs_mono es env st (fun x s => wpE_mono e env s (fun _ _ q => q.mono hq hx) hx) hx h
  | .make C es, env, st, _, _, _, _, hq, hx, h => by
    unfold wpE at h ⊢
    exact wpEs_mono es env st (fun x s q => q.mono hq hx) hx h
  | .bi m b es, env, st, _, _, _, _, hq, hx, h => by
    unfold wpE at h ⊢
    exact wpEs_mono es env st (fun x s ⟨d, e, q⟩ => ⟨d, e, retM_mono hq q⟩) hx h
  | .isi a ts, env, st, _, _, _, _, hq, hx, h => by
    unfold wpE at h ⊢
    exact wpE_mono a env st (fun x s ⟨d, e, q⟩ => ⟨d, e, hq _ _ q⟩) hx h
  | .mt b a es, env, st, _, _, _, _, hq, hx, h => by
    unfold wpE at h ⊢
    exact wpE_mono a env st (fun x s ⟨ht, q⟩ => ⟨ht, wpEs_mono es env s (fun _ _ q => wpM_mono hq q) hx q⟩) hx h
  | .mc C m q a es, env, st, _, _, _, _, hq, hx, h => by
    unfold wpE at h ⊢
    exact wpE_mono a env st (fun x s ⟨ht, q⟩ => ⟨ht, wpEs_mono es env s (fun _ _ q => q.mono hq hx) hx q⟩) hx h
  | .comp m own tg it t el, env, st, _, _, _, _, hq, hx, h => by
    unfold wpE at h ⊢
    refine wpI_mono it env st (fun xs dep s => loopA_mono (fun x acc st k k' hk => wpG_mono tg x _ st (fun e2 s2 => wpE_mono t e2 s2 (fun b s3 ⟨c, e, q⟩ => ⟨c, e, ?_⟩) fun _ _ _ _ z => z) fun _ _ _ _ z => z) xs [] s fun o s => retM_mono hq) hx h
    cases c with
    | true => exact wpE_mono el e2 s3 (fun y s ⟨l, q⟩ => ⟨l, hk _ _ q⟩) (fun _ _ _ _ z => z) q
    | false => exact hk _ _ q
  | .comp2 m own own1 tg it tg1 it1 el, env, st, _, _, _, _, hq, hx, h => by
    unfold wpE at h ⊢
    refine wpI_mono it env st (fun xs dep s => loopA_mono (fun x acc st k k' hk => wpG_mono tg x _ st (fun e2 s2 => wpI_mono it1 e2 s2 (fun xs1 dep1 s3 => ?_) fun _ _ _ _ z => z) fun _ _ _ _ z => z) xs [] s fun o s => retM_mono hq) hx h
    refine loopA_mono (fun x1 acc1 s k1 k1' hk1 => wpG_mono tg1 x1 _ s (fun e3 s4 => wpE_mono el e3 s4 (fun y s q => ?_) fun _ _ _ _ z => z) fun _ _ _ _ z => z) xs1 acc s3 hk
    exact ⟨q.1, hk1 _ _ q.2⟩
  | .dcomp m own tg it ke ve, env, st, _, _, _, _, hq, hx, h => by
    unfold wpE at h ⊢
    refine wpI_mono it env st (fun xs dep s => loopA_mono (fun x acc st k k' hk => wpG_mono tg x _ st (fun e2 s2 => wpE_mono ke e2 s2 (fun a s3 => wpE_mono ve e2 s3 (fun b s4 q => ?_) fun _ _ _ _ z => z) fun _ _ _ _ z => z) fun _ _ _ _ z => z) xs [] s fun o s => retM_mono hq) hx h
    exact ⟨q.1, q.2.1, q.2.2.1, hk _ _ q.2.2.2⟩
  | .exf i f, env, st, _, _, _, _, hq, hx, h => by unfold wpE at h ⊢; obtain ⟨C, fs, xs, d, a, b, c⟩ := h; exact ⟨C, fs, xs, d, a, b, hq _ _ c⟩
  | .exi i f, env, st, _, _, _, _, hq, hx, h => by unfold wpE at h ⊢; obtain ⟨C, fs, xs, a, c⟩ := h; exact ⟨C, fs, xs, a, hq _ _ c⟩
  | .noe, env, st, _, _, _, _, hq, hx, h => by unfold wpE at h ⊢; exact hq _ _ h
theorem wpEs_mono : ∀ (c : CEs) (env : Env) (st : Sto) {Q Q' : List D → Sto → Prop} {X X' : XP}, (∀ d s, Q d s → Q' d s) → (∀ C f x s, X C f x s → X' C f x s) → wpEs G c env st Q X → wpEs G c env st Q' X'
  | .nil, env, st, _, _, _, _, hq, hx, h => by unfold wpEs at h ⊢; exact hq _ _ h
  | .cons e es, env, st, _, _, _, _, hq, hx, h => by
    unfold wpEs at h ⊢
    exact wpE_mono e env st (fun x s => wpEs_mono es env s (fun _ _ q => hq _ _ q) hx) hx h
  | .star e es, env, st, _, _, _, _, hq, hx, h => by
    unfold wpEs at h ⊢
    exact wpE_mono e env st (fun x s ⟨xs, e, q⟩ => ⟨xs, e, wpEs_mono es env s (fun _ _ q => hq _ _ q) hx q⟩) hx h
theorem wpI_mono : ∀ (c : CI) (env : Env) (st : Sto) {Q Q' : List D → (Sto → Prop) → Sto → Prop} {X X' : XP}, (∀ d p s, Q d p s → Q' d p s) → (∀ C f x s, X C f x s → X' C f x s) → wpI G c env st Q X → wpI G c env st Q' X'
  | .val a, env, st, _, _, _, _, hq, hx, h => by
    unfold wpI at h ⊢
    exact wpE_mono a env st (fun x s ⟨xs, e, q⟩ => ⟨xs, e, hq _ _ _ q⟩) hx h
  | .rng a b, env, st, _, _, _, _, hq, hx, h => by
    unfold wpI at h ⊢
    exact wpE_mono a env st (fun x s => wpE_mono b env s (fun y s ⟨i, j, e1, e2, b1, b2, b3, b4, q⟩ => ⟨i, j, e1, e2, b1, b2, b3, b4, hq _ _ _ q⟩) hx) hx h
  | .enm a, env, st, _, _, _, _, hq, hx, h => by
    unfold wpI at h ⊢
    exact wpE_mono a env st (fun x s ⟨xs, e, q⟩ => ⟨xs, e, hq _ _ _ q⟩) hx h
  | .zip a b, env, st, _, _, _, _, hq, hx, h => by
    unfold wpI at h ⊢
    exact wpE_mono a env st (fun x s => wpE_mono b env s (fun y s ⟨xs, ys, e1, e2, q⟩ => ⟨xs, ys, e1, e2, hq _ _ _ q⟩) hx) hx h
  | .itm a, env, st, _, _, _, _, hq, hx, h => by
    unfold wpI at h ⊢
    exact wpE_mono a env st (fun x s ⟨ks, xs, e, q⟩ => ⟨ks, xs, e, hq _ _ _ q⟩) hx h
theorem wpG_mono : ∀ (g : CG) (d : D) (env : Env) (st : Sto) {Q Q' : Env → Sto → Prop} {X X' : XP}, (∀ e s, Q e s → Q' e s) → (∀ C f x s, X C f x s → X' C f x s) → wpG G g d env st Q X → wpG G g d env st Q' X'
  | .name i, d, env, st, _, _, _, _, hq, hx, h => by unfold wpG at h ⊢; exact ⟨h.1, hq _ _ h.2⟩
  | .tup gs, d, env, st, _, _, _, _, hq, hx, h => by
    unfold wpG at h ⊢
    obtain ⟨xs, e, l, q⟩ := h
    exact ⟨xs, e, l, wpGs_mono gs xs env st hq hx q⟩
  | .fld a f, d, env, st, _, _, _, _, hq, hx, h => by
    unfold wpG at h ⊢
    exact wpE_mono a env st (fun x s q => setF_mono (fun s => hq env s) q) hx h
  | .sub a b, d, env, st, _, _, _, _, hq, hx, h => by
    unfold wpG at h ⊢
    exact wpE_mono a env st (fun x s => wpE_mono b env s (fun y s q => setI_mono (fun s => hq env s) q) hx) hx h
theorem wpGs_mono : ∀ (gs : CGs) (xs : List D) (env : Env) (st : Sto) {Q Q' : Env → Sto → Prop} {X X' : XP}, (∀ e s, Q e s → Q' e s) → (∀ C f x s, X C f x s → X' C f x s) → wpGs G gs xs env st Q X → wpGs G gs xs env st Q' X'
  | .nil, xs, env, st, _, _, _, _, hq, hx, h => by unfold wpGs at h ⊢; exact ⟨h.1, hq _ _ h.2⟩
  | .cons g gs, xs, env, st, _, _, _, _, hq, hx, h => by
    unfold wpGs at h ⊢
    obtain ⟨y, r, e, q⟩ := h
    exact ⟨y, r, e, wpG_mono g y env st (fun e s q => wpGs_mono gs r e s hq hx q) hx q⟩
end

/-- weaker ends -/
structure Kt.Le (K K' : Kt) : Prop where
  n0 : K'.n0 ≤ K.n0
  nx : ∀ e s, K.nx e s → K'.nx e s
  rt : ∀ d s, K.rt d s → K'.rt d s
  bk : ∀ e s, K.bk e s → K'.bk e s
  ct : ∀ e s, K.ct e s → K'.ct e s
  xx : ∀ e C f x s, K.xx e C f x s → K'.xx e C f x s
theorem loopF_mono {dep : Sto → Prop} {b b' : D → Env → Sto → Kt → Prop} (hb : ∀ x e s (K K' : Kt), K.Le K' → b x e s K → b' x e s K') :
    ∀ (xs : List D) (env : Env) (st : Sto) {K K' : Kt}, K.Le K' → loopF dep b xs env st K → loopF dep b' xs env st K'
  | [], _, _, _, _, hk, h => ⟨h.1, hk.nx _ _ h.2⟩
  | x :: r, env, st, K, K', hk, h => by
    refine ⟨h.1, hb _ _ _ _ _ ?_ h.2⟩
    exact ⟨hk.n0, fun e s => loopF_mono hb r e s hk, hk.rt, hk.nx, fun e s => loopF_mono hb r e s hk, hk.xx⟩
mutual
theorem wpS_mono : ∀ (c : CS) (env : Env) (st : Sto) {K K' : Kt}, K.Le K' → wpS G c env st K → wpS G c env st K'
  | .asg g e, env, st, K, K', hk, h => by
    unfold wpS at h ⊢
    exact wpE_mono e env st (fun d s q => wpG_mono g d env s hk.nx (fun _ _ _ _ z => z) q) (hk.xx env) h
  | .aug i op e, env, st, K, K', hk, h => by
    unfold wpS at h ⊢
    obtain ⟨x, e1, h⟩ := h
    exact ⟨x, e1, wpE_mono e env st (fun d s ⟨d', e, i, q⟩ => ⟨d', e, i, hk.nx _ _ q⟩) (hk.xx env) h⟩
  | .augf a f op e, env, st, K, K', hk, h => by
    unfold wpS at h ⊢
    exact wpE_mono a env st (fun o s ⟨x, e1, q⟩ => ⟨x, e1, wpE_mono e env s (fun d s ⟨d', e, i, q⟩ => ⟨d', e, i, setF_mono (fun s => hk.nx _ s) q⟩) (hk.xx env) q⟩) (hk.xx env) h
  | .exp e, env, st, K, K', hk, h => by
    unfold wpS at h ⊢
    exact wpE_mono e env st (fun d s q => hk.nx _ _ q) (hk.xx env) h
  | .iff c a b, env, st, K, K', hk, h => by
    unfold wpS at h ⊢
    refine wpE_mono c env st (fun d s ⟨k, e, q⟩ => ⟨k, e, ?_⟩) (hk.xx env) h
    cases k with
    | true => exact wpSs_mono a env s hk q
    | false => exact wpSs_mono b env s hk q
  | .forr g it b, env, st, K, K', hk, h => by
    unfold wpS at h ⊢
    refine wpI_mono it env st (fun xs dep s h => ?_) (hk.xx env) h
    refine loopF_mono (K := { K with n0 := s.length }) (K' := { K' with n0 := s.length }) (fun x e s K K' hk => wpG_mono g x e s (fun e s => wpSs_mono b e s hk) (fun _ _ _ _ z => z)) xs env s ?_ h
    exact ⟨Nat.le_refl _, hk.nx, hk.rt, hk.bk, hk.ct, hk.xx⟩
  | .whl c b, env, st, K, K', hk, h => by
    unfold wpS at h ⊢
    obtain ⟨W, h0, h⟩ := h
    refine ⟨W, h0, fun m e s hw => wpE_mono c e s (fun d s ⟨k, e', q⟩ => ⟨k, e', ?_⟩) (hk.xx e) (h m e s hw)⟩
    cases k with
    | true =>
      refine wpSs_mono b e s ?_ q
      exact ⟨hk.n0, fun _ _ z => z, hk.rt, hk.nx, fun _ _ z => z, hk.xx⟩
    | false => exact hk.nx _ _ q
  | .ret e, env, st, K, K', hk, h => by
    unfold wpS at h ⊢
    exact wpE_mono e env st hk.rt (hk.xx env) h
  | .retn, env, st, K, K', hk, h => by unfold wpS at h ⊢; exact hk.rt _ _ h
  | .raise C es, env, st, K, K', hk, h => by
    unfold wpS at h ⊢
    exact wpEs_mono es env st (fun ds s ⟨a, b, q⟩ => ⟨a, b, hk.xx _ _ _ _ _ q⟩) (hk.xx env) h
  | .tr b hs, env, st, K, K', hk, h => by
    unfold wpS at h ⊢
    refine wpSs_mono b env st ?_ h
    exact ⟨hk.n0, hk.nx, hk.rt, hk.bk, hk.ct, fun e C f x s => wpHs_mono hs C f x e s hk⟩
  | .pass, env, st, K, K', hk, h => by unfold wpS at h ⊢; exact hk.nx _ _ h
  | .gh, env, st, K, K', hk, h => by
    unfold wpS GH at h ⊢
    rcases h with h | ⟨a, b, c, d, z, e, f, q⟩
    · exact .inl (hk.nx _ _ h)
    · exact .inr ⟨a, b, c, d, Nat.le_trans hk.n0 z, e, f, hk.nx _ _ q⟩
  | .nev, env, st, K, K', hk, h => by unfold wpS at h; exact h.elim
theorem wpSs_mono : ∀ (c : CSs) (env : Env) (st : Sto) {K K' : Kt}, K.Le K' → wpSs G c env st K → wpSs G c env st K'
  | .nil, env, st, K, K', hk, h => by unfold wpSs at h ⊢; exact hk.nx _ _ h
  | .cons c cs, env, st, K, K', hk, h => by
    unfold wpSs at h ⊢
    refine wpS_mono c env st ?_ h
    exact ⟨hk.n0, fun e s => wpSs_mono cs e s hk, hk.rt, hk.bk, hk.ct, hk.xx⟩
theorem wpHs_mono : ∀ (hs : CHs) (C : Str) (fs : List Str) (xs : List D) (env : Env) (st : Sto) {K K' : Kt}, K.Le K' → wpHs G hs C fs xs env st K → wpHs G hs C fs xs env st K'
  | .nil, C, fs, xs, env, st, K, K', hk, h => by unfold wpHs at h ⊢; exact hk.xx _ _ _ _ _ h
  | .cons C' i b r, C, fs, xs, env, st, K, K', hk, h => by
    unfold wpHs at h ⊢
    split at h
    · rename_i c
      rw [if_pos c]
      refine ⟨h.1, wpSs_mono b _ st ?_ h.2⟩
      exact ⟨hk.n0, fun e s => hk.nx _ s, hk.rt, fun _ _ z => z, fun _ _ z => z, fun _ _ _ _ _ z => z⟩
    · rename_i c
      rw [if_neg c]
      exact wpHs_mono r C fs xs env st hk h
end
end
end Mini
end
section
/-! From the text to the small language. -/
namespace Mini
open PySem

structure FI where
  lvl : Nat
  np : Nat
  kw : Option (Str × D) := none
structure PInfo where
  consts : List (Str × D)
  funs : List (Str × FI)
  makes : List (Str × FI)
  props : List (Str × Str × Nat)
  meths : List (Str × Str × Str × FI)
  excs : List (Str × Nat)
  clss : List Str
  eqs : List (Str × Nat)
  flds : List Str
  xflds : List Str
structure CTX where
  N : List Str
  sc : Scope
  fnl : List (Str × NameKind)
  blk : Bool
  lvl : Nat
  calm : Bool
  muts : List Str
  retm : Bool
  sui : Option (Str × Nat)

def ifB {α : Type} (c : Bool) (x : Option α) : Option α := match c with
  | true => x
  | false => none
theorem ifB_some {α : Type} {c : Bool} {x : Option α} {y : α} : ifB c x = some y ↔ c = true ∧ x = some y := by
  cases c <;> simp [ifB]

def CTX.slot (cx : CTX) (x : Str) : Option Nat :=
  match cx.sc.names.lookup x with
  | some .local => ifB (!(x == ("__debug__" : Str)) && !(x == ("__classdict__" : Str))) (cx.N.idxOf? x)
  | some .cell => ifB (!(x == ("__debug__" : Str)) && !(x == ("__classdict__" : Str))) (cx.N.idxOf? x)
  | some .free => ifB (!(x == ("__debug__" : Str)) && !(x == ("__classdict__" : Str))) (cx.N.idxOf? x)
  | _ => none
def CTX.glob (cx : CTX) (x : Str) : Bool := decide (cx.sc.names.lookup x = some .globalImplicit) && !(x == ("__debug__" : Str))
/-- a name that may be stored -/
def CTX.tgt (cx : CTX) (x : Str) : Option Nat :=
  match cx.sc.names.lookup x with
  | some .local => cx.N.idxOf? x
  | some .cell => ifB (!cx.blk || decide (cx.fnl.lookup x = some .cell)) (cx.N.idxOf? x)
  | _ => none
def CTX.mu (cx : CTX) (x : Str) : Bool := cx.muts.contains x

/-- the comprehension's scope as it runs -/
def blkScope (scope sc : Scope) : Scope :=
  { scope with names := scope.names.map fun (n, k) => if (k == .free && sc.kind == .function && sc.names.lookup n == some .cell) then (n, .cell) else (n, k) }
/-- the block's own names, with their slots -/
def ownOf (N : List Str) : List (Str × NameKind) → List (Str × Nat)
  | [] => []
  | (x, k) :: r => match k with
    | .local => (match N.idxOf? x with
      | some i => (x, i) :: ownOf N r
      | none => ownOf N r)
    | .cell => (match N.idxOf? x with
      | some i => (x, i) :: ownOf N r
      | none => ownOf N r)
    | _ => ownOf N r
def blkB (N : List Str) (sc scope : Scope) (own : List (Str × Nat)) : Bool :=
  (match scope.kind with | .function => true | _ => false) && (scope.names.all fun y => decide (scope.names.lookup y.1 = some y.2)) && (own.all fun p => decide (N[p.2]? = some p.1)) &&
    (scope.names.all fun y => match y.2 with
      | .free => (match sc.names.lookup y.1 with | some .cell => true | some .free => true | _ => false)
      | .local => decide (y.1 ∈ own.map (·.1)) || decide (y.1 ∉ N)
      | .cell => decide (y.1 ∈ own.map (·.1)) || decide (y.1 ∉ N)
      | _ => true)
def CTX.inner (cx : CTX) (scope : Scope) : CTX := { cx with sc := blkScope scope cx.sc, fnl := scope.names, blk := true, muts := [], retm := false }

def tyOf (P : PInfo) (cx : CTX) : Expr → Option Ty
  | .Name x _ => ifB (cx.glob x)
    (if x = "int" then some .int else if x = "str" then some .str else if x = "bool" then some .bool else if x = "tuple" then some .tuple else if x = "list" then some .list
      else ifB (P.clss.contains x) (some (.own x)))
  | _ => none
def tysOf (P : PInfo) (cx : CTX) : List Expr → Option (List Ty)
  | [] => some []
  | e :: es => match tyOf P cx e, tysOf P cx es with
    | some t, some ts => some (t :: ts)
    | _, _ => none
def biOf (x : Str) : Option BI :=
  if x = "len" then some .len else if x = "list" then some .list else if x = "tuple" then some .tuple else if x = "int" then some .int
  else if x = "str" then some .str else if x = "all" then some .all else if x = "any" then some .any else if x = "min" then some .min
  else if x = "max" then some .max else if x = "dict" then some .dict else if x = "sorted" then some .sorted else none
/-- what asks for no exception in hand -/
def biCalm : BI → Bool
  | .int => false
  | .len => false
  | .str => false
  | _ => true
def biArity : BI → Nat
  | .min => 2
  | .max => 2
  | _ => 1
def mtOf (x : Str) : Option (MT × Nat) :=
  if x = "append" then some (.append, 1) else if x = "extend" then some (.extend, 1) else if x = "pop" then some (.pop, 0) else if x = "reverse" then some (.reverse, 0)
  else if x = "index" then some (.index, 1) else if x = "get" then some (.get, 2) else if x = "split" then some (.split, 1) else if x = "join" then some (.join, 1) else if x = "strip" then some (.strip, 1) else none
def bopOf : Operator → Option BOp
  | .Add => some .add
  | .Sub => some .sub
  | .Mult => some .mul
  | .Mod => some .mod
  | .FloorDiv => some .fdiv
  | .Pow => some .pow
  | _ => none
def copOf : CmpOp → COp
  | .Eq => .eq
  | .NotEq => .ne
  | .Lt => .lt
  | .LtE => .le
  | .Gt => .gt
  | .GtE => .ge
  | .Is => .is_
  | .IsNot => .isn
  | .In => .in_
  | .NotIn => .nin
def cstOf : Const → Option D
  | .none => some .non
  | .bool b => some (.bl b)
  | .int i => some (.int i)
  | .str x => some (.str x)
  | _ => none
def isStar : Expr → Bool
  | .Starred _ _ => true
  | _ => false
/-- no slice as an index -/
def plainIx : Expr → Bool
  | .Slice _ _ _ _ => false
  | _ => true
def isSuper : Expr → Bool
  | .Call (.Name x _) [] [] _ => x == ("super" : Str)
  | _ => false
/-- what stands behind a star -/
def starE (f : Expr → Option CE) : Expr → Option CE
  | .Call (.Attribute v vf apos) [] [] cpos => if vf = "values" then ifB (!isSuper v && (apos.endLine == cpos.line)) ((f v).map fun c => .bi false .vals (.cons c .nil)) else f (.Call (.Attribute v vf apos) [] [] cpos)
  | e => f e
def compEsW (f : Expr → Option CE) : List Expr → Option CEs
  | [] => some .nil
  | .Starred e _ :: r => match starE f e, compEsW f r with
    | some c, some cs => some (.star c cs)
    | _, _ => none
  | e :: r => match f e, compEsW f r with
    | some c, some cs => some (.cons c cs)
    | _, _ => none
/-- without stars -/
def compAsW (f : Expr → Option CE) : List Expr → Option CEs
  | [] => some .nil
  | e :: r => ifB (!isStar e) (match f e, compAsW f r with
    | some c, some cs => some (.cons c cs)
    | _, _ => none)
def compFlags (f : Bool → Expr → Option CE) : List (Bool × Expr) → Option CEs
  | [] => some .nil
  | (m, e) :: r => ifB (!isStar e) (match f m e, compFlags f r with
    | some c, some cs => some (.cons c cs)
    | _, _ => none)
/-- a display's keys and values, in turn -/
def pairsW (f : Expr → Option CE) : List (Option Expr) → List Expr → Option CEs
  | [], [] => some .nil
  | some k :: ks, v :: vs => match f k, f v, pairsW f ks vs with
    | some a, some b, some r => some (.cons a (.cons b r))
    | _, _, _ => none
  | _, _ => none
mutual
def slotsG : CG → List Nat
  | .name i => [i]
  | .tup gs => slotsGs gs
  | _ => []
def slotsGs : CGs → List Nat
  | .nil => []
  | .cons g gs => slotsG g ++ slotsGs gs
end

/-- the exception in hand -/
def excAt (cx : CTX) : Expr → Option Nat
  | .Name x _ => match cx.sui with
    | some (y, i) => if x = y then some i else none
    | none => none
  | _ => none
def isTupE : Expr → Bool
  | .Tuple _ _ _ => true
  | _ => false
def ordO : CmpOp → Bool
  | .Lt => true
  | .LtE => true
  | .Gt => true
  | .GtE => true
  | _ => false

def chnO (o1 o2 : CmpOp) (a b c : CE) : Option CE := ifB (ordO o1 && ordO o2) (some (.chn (copOf o1) (copOf o2) a b c))
/-- the classes whose own == may be called -/
def eqC (P : PInfo) (cx : CTX) : List Str := (P.eqs.filter fun p => decide (p.2 ≤ cx.lvl) && cx.calm).map (·.1)
mutual
/-- values -/
def compE (P : PInfo) : Nat → CTX → Bool → Expr → Option CE
  | 0, _, _, _ => none
  | n + 1, cx, m, e => match e with
    | .Name x _ => (match cx.slot x with
      | some i => ifB (match cx.sui with | some (y, _) => decide (x ≠ y) | none => true) (some (.var i))
      | none => ifB (cx.glob x) ((P.consts.lookup x).map fun d => .glb x d))
    | .Constant c _ _ => (cstOf c).map .cst
    | .BinOp a op b _ => (bopOf op).bind fun o => (compE P n cx false a).bind fun a' => (compE P n cx false b).map fun b' => .bin m o a' b'
    | .UnaryOp .USub a _ => (compE P n cx false a).map .neg
    | .UnaryOp .Not a _ => (compE P n cx false a).map .not_
    | .BoolOp op vs pos => (match vs with
      | [] => none
      | [a] => compE P n cx false a
      | a :: b :: r => (compE P n cx false a).bind fun a' => (compE P n cx false (.BoolOp op (b :: r) pos)).map fun b' => match op with
        | .And => .and_ a' b'
        | .Or => .or_ a' b')
    | .IfExp c a b _ => (compT P n cx c).bind fun c' => (compE P n cx m a).bind fun a' => (compE P n cx m b).map fun b' => .ite c' a' b'
    | .Compare a ops cs _ => (match ops, cs with
      | [op], [b] => (compE P n cx false a).bind fun a' => (compE P n cx false b).map fun b' => .cmp (eqC P cx) (copOf op) a' b'
      | [o1, o2], [b, c] => (compE P n cx false a).bind fun a' => (compE P n cx false b).bind fun b' => (compE P n cx false c).bind fun c' => chnO o1 o2 a' b' c'
      | _, _ => none)
    | .Tuple es _ _ => ifB (cx.calm || !(es.any isStar)) ((compEsW (compE P n cx false) es).map .tup)
    | .List es _ => ifB (cx.calm || !(es.any isStar)) ((compEsW (compE P n cx false) es).map (.lst m))
    | .Dict ks vs _ => (pairsW (compE P n cx false) ks vs).bind fun es => ifB (decide (ks.length ≤ 15)) (some (.dct m es))
    | .Subscript v ix _ => (match ix with
      | .Slice none none (some (.UnaryOp .USub (.Constant (.int 1) _ _) _)) _ => (compE P n cx false v).map (.rev m)
      | .Slice lo hi none _ => (compE P n cx false v).bind fun v' => (compO P n cx lo).bind fun l' => (compO P n cx hi).map fun h' => .slc m v' l' h'
      | .Slice _ _ _ _ => none
      | i => (compE P n cx false v).bind fun v' => (compE P n cx false i).map fun i' => .idx v' i')
    | .Attribute v f _ => (match excAt cx v with
      | some i => ifB (P.xflds.contains f) (some (.exf i f))
      | none => ifB (!isSuper v) ((compE P n cx false v).bind fun v' => match P.props.lookup f with
        | some (q, l) => ifB (decide (l ≤ cx.lvl) && cx.calm) (some (.prp q v'))
        | none => ifB (P.flds.contains f) (some (.fld v' f))))
    | .Call (.Name f _) args kws _ => ifB (cx.glob f) (match P.funs.lookup f with
      | some fi => ifB (decide (fi.lvl ≤ cx.lvl) && cx.calm) ((compAsW (compE P n cx false) args).bind fun as' => (match kws, fi.kw with
        | [], none => ifB (decide (args.length = fi.np)) (some (.call f as'))
        | [], some (_, d) => ifB (decide (args.length = fi.np)) (some (.callk f as' Str.empty (.cst d)))
        | [⟨some k, e, _⟩], some (k0, _) => ifB (decide (args.length = fi.np) && decide (k = k0) && !args.isEmpty) ((compE P n cx false e).map fun e' => .callk f as' k e')
        | _, _ => none))
      | none => (match P.makes.lookup f with
        | some fi => ifB (decide (fi.lvl ≤ cx.lvl) && cx.calm && kws.isEmpty && decide (args.length = fi.np)) ((compAsW (compE P n cx false) args).map fun as' => .make f as')
        | none => ifB kws.isEmpty (if f = "isinstance" then (match args with
            | [a, .Tuple ts _ _] => (match excAt cx a with
              | some _ => none
              | none => ifB (decide (ts.length ≤ 5) && !isStar a) ((compE P n cx false a).bind fun a' => (tysOf P cx ts).map fun ts' => .isi a' ts'))
            | [a, t] => (match excAt cx a, t with
              | some i, .Name C _ => ifB (cx.glob C && ((P.excs.map (·.1)).contains C || C == ("ValueError" : Str))) (some (.exi i C))
              | some _, _ => none
              | none, t => ifB (!isStar a) ((compE P n cx false a).bind fun a' => (tyOf P cx t).map fun t' => .isi a' [t']))
            | _ => none)
          else if f = "tuple" then (match args with
            | [.Call (.Attribute v vf apos) [] [] cpos] => ifB (cx.calm && vf == ("values" : Str) && !isSuper v && (apos.endLine == cpos.line)) ((compE P n cx false v).map fun v' => .bi false .vals (.cons v' .nil))
            | args => ifB (cx.calm && decide (args.length = 1)) ((compAsW (compE P n cx false) args).map fun as' => .bi m .tuple as'))
          else match biOf f with
            | some b => ifB (decide (args.length = biArity b) && (cx.calm || !biCalm b)) ((compAsW (compE P n cx false) args).map fun as' => .bi m b as')
            | none => none)))
    | .Call (.Attribute v f apos) args [] cpos => ifB (!isSuper v && (apos.endLine == cpos.line) && decide (args.length < 20)) (match P.meths.lookup f with
      | some (C, q, fi) => ifB (decide (fi.lvl ≤ cx.lvl) && cx.calm && decide (args.length = fi.np)) ((compE P n cx false v).bind fun v' => (compAsW (compE P n cx false) args).map fun as' => .mc C f q v' as')
      | none => (match mtOf f with
        | some (b, k) => ifB (decide (args.length = k)) ((compE P n cx false v).bind fun v' => (compAsW (compE P n cx false) args).map fun as' => .mt b v' as')
        | none => none))
    | .ListComp el [⟨tg, it, ifs, 0⟩] scope _ => ifB (cx.calm && blkB cx.N cx.sc scope (ownOf cx.N scope.names)) ((compI P n cx tg it).bind fun it' => (compG P n (cx.inner scope) tg).bind fun tg' =>
        ((match ifs with
          | [] => some (CE.cst (.bl true))
          | [t] => compT P n (cx.inner scope) t
          | _ => none) : Option CE).bind fun t' => (compE P n (cx.inner scope) false el).bind fun el' =>
          ifB ((slotsG tg').all fun i => ((ownOf cx.N scope.names).map (·.2)).contains i) (some (.comp m ((ownOf cx.N scope.names).map (·.2)) tg' it' t' el')))
    | .ListComp el [⟨tg, it, [], 0⟩, ⟨tg1, it1, [], 0⟩] scope _ => ifB (cx.calm && blkB cx.N cx.sc scope (ownOf cx.N scope.names)) ((compI P n cx tg it).bind fun it' => (compG P n (cx.inner scope) tg).bind fun tg' =>
        (compI P n (cx.inner scope) tg1 it1).bind fun it1' => (compG P n (cx.inner scope) tg1).bind fun tg1' => (compE P n (cx.inner scope) false el).bind fun el' =>
          ifB (((slotsG tg').all fun i => ((ownOf cx.N scope.names).map (·.2)).contains i) && ((slotsG tg1').all fun i => ((ownOf cx.N scope.names).map (·.2)).contains i)) (some (.comp2 m ((ownOf cx.N scope.names).map (·.2)) (slotsG tg1') tg' it' tg1' it1' el')))
    | .DictComp ke ve [⟨tg, it, [], 0⟩] scope _ => ifB (cx.calm && blkB cx.N cx.sc scope (ownOf cx.N scope.names)) ((compI P n cx tg it).bind fun it' => (compG P n (cx.inner scope) tg).bind fun tg' =>
        (compE P n (cx.inner scope) false ke).bind fun k' => (compE P n (cx.inner scope) true ve).bind fun v' =>
          ifB ((slotsG tg').all fun i => ((ownOf cx.N scope.names).map (·.2)).contains i) (some (.dcomp m ((ownOf cx.N scope.names).map (·.2)) tg' it' k' v')))
    | _ => none
/-- tests -/
def compT (P : PInfo) : Nat → CTX → Expr → Option CE
  | 0, _, _ => none
  | n + 1, cx, e => match e with
    | .UnaryOp .Not a _ => (compT P n cx a).map .not_
    | .BoolOp op vs pos => (match vs with
      | [] => none
      | [a] => compT P n cx a
      | a :: b :: r => (compT P n cx a).bind fun a' => (compT P n cx (.BoolOp op (b :: r) pos)).map fun b' => match op with
        | .And => .and_ a' b'
        | .Or => .or_ a' b')
    | .IfExp _ _ _ _ => none
    | .Compare a ops cs _ => (match ops, cs with
      | [op], [b] => (compE P n cx false a).bind fun a' => (compE P n cx false b).map fun b' => .cmp (eqC P cx) (copOf op) a' b'
      | [o1, o2], [b, c] => (compE P n cx false a).bind fun a' => (compE P n cx false b).bind fun b' => (compE P n cx false c).bind fun c' => chnO o1 o2 a' b' c'
      | _, _ => none)
    | e => compE P n cx false e
/-- a slice's bound -/
def compO (P : PInfo) : Nat → CTX → Option Expr → Option CE
  | 0, _, _ => none
  | n + 1, cx, none => some .noe
  | n + 1, cx, some e => compE P n cx false e
/-- what is walked -/
def compI (P : PInfo) : Nat → CTX → Expr → Expr → Option CI
  | 0, _, _, _ => none
  | n + 1, cx, tg, e => match e with
    | .Set _ _ _ => none
    | .Call (.Name f _) args [] _ => ifB (cx.glob f || (cx.slot f).isSome) (if f = "range" then ifB (cx.glob f) (match args with
        | [a] => ifB (!isStar a) ((compE P n cx false a).map fun a' => .rng (.cst (.int 0)) a')
        | [a, b] => ifB (!isStar a && !isStar b) ((compE P n cx false a).bind fun a' => (compE P n cx false b).map fun b' => .rng a' b')
        | _ => none)
      else if f = "enumerate" then ifB (cx.glob f && isTupE tg) (match args with
        | [a] => ifB (!isStar a) ((compE P n cx false a).map .enm)
        | _ => none)
      else if f = "zip" then ifB (cx.glob f && isTupE tg) (match args with
        | [a, b] => ifB (!isStar a && !isStar b) ((compE P n cx false a).bind fun a' => (compE P n cx false b).map fun b' => .zip a' b')
        | _ => none)
      else (compE P n cx false e).map .val)
    | .Call (.Attribute v f apos) [] [] cpos => if f = "items" then none else (compE P n cx false e).map .val
    | e => (compE P n cx false e).map .val
/-- a target -/
def compG (P : PInfo) : Nat → CTX → Expr → Option CG
  | 0, _, _ => none
  | n + 1, cx, e => match e with
    | .Name x _ => (cx.tgt x).bind fun i => ifB (match cx.sui with | some (_, j) => i != j | none => true) (some (.name i))
    | .Tuple es _ _ => ifB cx.calm ((compGs P n cx es).map .tup)
    | .Attribute v f _ => ifB (!isSuper v && P.flds.contains f) ((compE P n cx false v).map fun v' => .fld v' f)
    | .Subscript v i _ => ifB (plainIx i) ((compE P n cx false v).bind fun v' => (compE P n cx false i).map fun i' => .sub v' i')
    | _ => none
def compGs (P : PInfo) : Nat → CTX → List Expr → Option CGs
  | 0, _, _ => none
  | n + 1, cx, [] => some .nil
  | n + 1, cx, e :: es => ifB (!isStar e) ((compG P n cx e).bind fun g => (compGs P n cx es).map fun gs => .cons g gs)
end

end Mini
end
section
/-! From the text to the small language: statements. -/
namespace Mini
open PySem
/-! ### statements -/
def tgtFlag (cx : CTX) : Expr → Bool
  | .Name x _ => cx.mu x
  | _ => false
def isComp : Expr → Bool
  | .ListComp _ _ _ _ => true
  | .DictComp _ _ _ _ _ => true
  | .SetComp _ _ _ _ => true
  | _ => false
def compNames : Expr → List (Str × NameKind)
  | .ListComp _ _ s _ => s.names
  | .DictComp _ _ _ s _ => s.names
  | _ => []
/-- a plain local -/
def isLoc (cx : CTX) (x : Str) : Bool := decide (cx.sc.names.lookup x = some .local)
/-- a name that is given a comprehension's value: stored by the comprehension itself (both ways are served) -/
def oneGen : Expr → Bool
  | .ListComp _ [_] _ _ => true
  | .DictComp _ _ [_] _ _ => true
  | _ => false
def okSwap (cx : CTX) (tg : Expr) (v : Expr) : Bool := match tg with
  | .Name x pos => !isComp v || !isLoc cx x || (oneGen v && (pos.line == v.pos.line) && !((compNames v).any fun (n, k) => n == x && (k == .local || k == .cell)))
  | _ => true
def locNames (cx : CTX) : List Expr → List Str
  | [] => []
  | .Name x _ :: r => if isLoc cx x then x :: locNames cx r else locNames cx r
  | _ :: r => locNames cx r
def lineOf : Expr → Nat := fun e => e.pos.line
def parNames (cx : CTX) (ts : List Expr) : List Str := ts.filterMap fun t => match t with
  | .Name x pos => if isLoc cx x && pos.line == (ts.head?.map (·.pos.line)).getD 0 then some x else none
  | _ => none
/-- how a, b = x, y is stored: true: from the right -/
def parKind (cx : CTX) (ts vs : List Expr) : Option Bool :=
  if (!(ts.length == 2 || ts.length == 3) || vs.length != ts.length) = true then some false
  else if vs.any isStar then some false
  else if ((parNames cx ts).length != ts.length || (parNames cx ts).eraseDups.length != (parNames cx ts).length) = true then some false
  else if vs.all (foldedForSure 8) then some false
  else if vs.all (constantsAlone 8) then none
  else some true
/-- a name is given a changed thing: ahead of it things may be given up -/
def ghB (cx : CTX) : Stmt → Bool
  | .Assign [.Name _ _] (.Name y _) _ => cx.mu y && cx.sui.isNone
  | _ => false
mutual
def compS (P : PInfo) : Nat → CTX → Stmt → Option CS
  | 0, _, _ => none
  | n + 1, cx, s => match s with
    | .Assign [tg] v _ => (match tg, v with
      | .Tuple ts _ _, .Tuple vs _ _ => ifB (cx.calm && decide (vs.length = ts.length)) ((parKind cx ts vs).bind fun pk => (compGs P n cx ts).bind fun gs => (compFlags (fun m e => compE P n cx m e) ((ts.map (tgtFlag cx)).zip vs)).map fun es =>
          .asg (.tup gs) (.tup es))
      | tg, v => ifB (okSwap cx tg v) ((compG P n cx tg).bind fun g => (compE P n cx (tgtFlag cx tg) v).map fun e => .asg g e))
    | .AugAssign tg op v _ => (match tg with
      | .Name x _ => (cx.tgt x).bind fun i => (bopOf op).bind fun o => ifB cx.sui.isNone <| ifB (match op with | .Add => true | .Sub => true | _ => false) ((compE P n cx false v).map fun e => .aug i o e)
      | _ => none)
    | .Expr v _ => ifB (!isComp v) (match v with
      | .Constant (.str _) _ _ => some .pass
      | v => (compE P n cx false v).map .exp)
    | .If c a b _ => (compT P n cx c).bind fun c' => (compSs P n cx a).bind fun a' => (compSs P n cx b).map fun b' => .iff c' a' b'
    | .For tg it b [] _ => ifB cx.calm ((compI P n cx tg it).bind fun it' => (compG P n cx tg).bind fun g => (compSs P n cx b).map fun b' => .forr g it' b')
    | .While c b [] _ => (compT P n cx c).bind fun c' => (compSs P n cx b).map fun b' => .whl c' b'
    | .Return (some e) _ => (compE P n cx cx.retm e).map .ret
    | .Return none _ => some .retn
    | .Raise (some (.Call (.Name C _) args [] _)) none _ => ifB (cx.calm && decide (2 ≤ cx.lvl) && cx.glob C && (match P.excs.lookup C with
        | some k => decide (args.length = k) && decide (k < 50)
        | none => false)) ((compAsW (compE P n cx false) args).map fun as' => .raise C as')
    | .Try b hs [] [] _ => ifB (cx.calm && !cx.blk && !hs.isEmpty) ((compSs P n cx b).bind fun b' => (compHs P n cx hs).map fun hs' => .tr b' hs')
    | .Pass _ => some .pass
    | _ => none
def compSs (P : PInfo) : Nat → CTX → List Stmt → Option CSs
  | 0, _, _ => none
  | n + 1, cx, [] => some .nil
  | n + 1, cx, s :: ss => match compS P n cx s with
    | some s' => (compSs P n cx ss).map fun ss' => if ghB cx s then .cons .gh (.cons s' ss') else .cons s' ss'
    | none => some (.cons .nev .nil)
def compHs (P : PInfo) : Nat → CTX → List ExceptHandler → Option CHs
  | 0, _, _ => none
  | n + 1, cx, [] => some .nil
  | n + 1, cx, .ExceptHandler (some (.Name C _)) (some x) (b0 :: b) _ :: r => ifB (cx.glob C && (P.excs.lookup C).isSome && isLoc cx x && !(x == ("__debug__" : Str)) && !(x == ("__classdict__" : Str))) ((cx.N.idxOf? x).bind fun i =>
      (compSs P n { cx with calm := false, sui := some (x, i) } (b0 :: b)).bind fun b' => (compHs P n cx r).map fun r' => .cons C i b' r')
  | _ + 1, _, _ => none
end
end Mini
end
section
/-! How the small language's values and store stand in the hand layer's heap. -/
namespace Mini
open PySem L2

structure Fx where
  K : PySem.W.Frag
  cad : Str → Addr
  clss : List Str
  excs : List Str
  prog : Program
  w : World
  /-- things that are being made: no value stands there -/
  priv : List Addr := []

def Out (F : Fx) (A : List Addr) (p : Addr) : Prop := p ∉ A ∧ p ∉ F.priv
/-- a tuple that stays: tracked, or of the written part -/
def TupAt (F : Fx) (A : List Addr) (H : Hp) (p : Addr) (vs : List V) : Prop := (H p = some (.tup vs) ∧ Out F A p) ∨
  ∃ (o : Obj) (its : Array Value) (n : Nat), F.K.lookup p = some o ∧ o.cls = .type "tuple" ∧ o.data = .seq its n ∧ its.size ≤ sizeLine ∧ Vals vs its.toList
def dKey : Key → D
  | .inl i => .int i
  | .inr x => .str x
/-- a dict with nested keys, by its own object -/
def RawT (F : Fx) (a : Addr) (xs : List (NestedKey × Addr × Value)) : HO :=
  .ext fun h => ∃ o es ep, h.get? a = some o ∧ o.ExactDict ∧ o.data = .dict es ep ∧ es.toList = xs.map (entryOfKey (nestedKind F.prog F.w)) ∧ (xs.map (·.1)).Nodup ∧ (a == sysModules) = false ∧ xs.length ≤ sizeLine
mutual
/-- a value's nested key -/
def nkOf : D → Option NestedKey
  | .non => some .none
  | .bl b => some (.num (if b then 1 else 0))
  | .int i => some (.num i)
  | .str x => some (.text x)
  | .tup xs => match nksOf xs with
    | some ks => some (.tup ks)
    | none => none
  | _ => none
def nksOf : List D → Option (List NestedKey)
  | [] => some []
  | x :: xs => match nkOf x, nksOf xs with
    | some k, some ks => some (k :: ks)
    | _, _ => none
end
/-- the script: a list that is never changed -/
inductive ScrAt (F : Fx) (A : List Addr) (H : Hp) (p : Addr) (vs : List V) : Prop
  | frz (o : Obj) : H p = some (.frz o (.lst vs)) → Out F A p → ScrAt F A H p vs
  | wr : (∀ H' : Hp, SqL F.K H' p vs) → ScrAt F A H p vs
mutual
inductive Rp (F : Fx) (A : List Addr) (H : Hp) : D → V → Prop
  | non : Rp F A H .non .non
  | bl (b : Bool) : Rp F A H (.bl b) (.bl b)
  | int (i : Int) : Rp F A H (.int i) (.int i)
  | str (x : Str) : Rp F A H (.str x) (.str x)
  | tup {p : Addr} {vs : List V} {xs : List D} : TupAt F A H p vs → Rps F A H xs vs → Rp F A H (.tup xs) (.ref p)
  | lst {p : Addr} {xs : List D} : Ob F A H (.lst xs) p → Out F A p → Rp F A H (.lst xs) (.ref p)
  | dct {p : Addr} {ks xs : List D} : Ob F A H (.dct ks xs) p → Out F A p → Rp F A H (.dct ks xs) (.ref p)
  | ins {p : Addr} {C : Str} {fs : List Str} {xs : List D} : Ob F A H (.ins C fs xs) p → Out F A p → Rp F A H (.ins C fs xs) (.ref p)
  | ref {n : Nat} {a : Addr} : A[n]? = some a → Rp F A H (.ref n) (.ref a)
  | scr {p : Addr} {ns : List Int} : ScrAt F A H p (ns.map V.int) → Rp F A H (.scr ns) (.ref p)
inductive Rps (F : Fx) (A : List Addr) (H : Hp) : List D → List V → Prop
  | nil : Rps F A H [] []
  | cons {d : D} {v : V} {ds : List D} {vs : List V} : Rp F A H d v → Rps F A H ds vs → Rps F A H (d :: ds) (v :: vs)
inductive Ob (F : Fx) (A : List Addr) (H : Hp) : SO → Addr → Prop
  | lst {p : Addr} {xs : List D} {vs : List V} : H p = some (.lst vs) → Rps F A H xs vs → Ob F A H (.lst xs) p
  | dctK {p : Addr} {ks xs : List D} {kvs : List (Key × V)} : H p = some (.dK kvs) → ks = kvs.map (fun q => dKey q.1) → Rps F A H xs (kvs.map (·.2)) → Ob F A H (.dct ks xs) p
  | dctT {p : Addr} {ks xs : List D} {es : List (NestedKey × Addr × Value)} {vs : List V} : H p = some (RawT F p es) → es ≠ [] → nksOf ks = some (es.map (·.1)) → ks.all tupK = true → Rps F A H ks (es.map fun e => V.ref e.2.1) →
      Vals vs (es.map (·.2.2)) → Rps F A H xs vs → Ob F A H (.dct ks xs) p
  | ins {p dx : Addr} {C : Str} {fs : List Str} {xs : List D} {fvs : List (Str × V)} : C ∈ F.clss → H p = some (.ins (F.cad C) dx fvs) → fs = fvs.map (·.1) → Rps F A H xs (fvs.map (·.2)) → Ob F A H (.ins C fs xs) p
end
def RelSt (F : Fx) (A : List Addr) (H : Hp) (st : Sto) : Prop :=
  A.length = st.length ∧ (A.Nodup ∧ ∀ b ∈ F.priv, b ∉ A ∧ ∃ o, H b = some o) ∧ ∀ (n : Nat) (so : SO), st[n]? = some so → ∃ a : Addr, A[n]? = some a ∧ Ob F A H so a
abbrev SuiT := Option (Nat × Addr × Value × Option Addr)
/-- the slot of an exception in hand -/
def SuiT.is : SuiT → Nat → Prop
  | none, _ => False
  | some p, i => p.1 = i
def EnvR (F : Fx) (u : SuiT) (A : List Addr) (H : Hp) (env : Env) (σ : St) : Prop :=
  env.length = σ.length ∧ ∀ (i : Nat) (d : D), env[i]? = some (some d) → u.is i ∨ ∃ v : V, σ[i]? = some (some v) ∧ Rp F A H d v
/-- steps: new things come, what is not in the store stays -/
structure Stp (A : List Addr) (H : Hp) (A' : List Addr) (H' : Hp) : Prop where
  ext : ∃ B, A' = A ++ B ∧ ∀ b ∈ B, H b = none
  keep : ∀ b o, b ∉ A → H b = some o → H' b = some o

section
variable {F : Fx} {A A' A'' : List Addr} {H H' H'' : Hp}
theorem Stp.refl : Stp A H A H := ⟨⟨[], by simp, by simp⟩, fun _ _ _ h => h⟩
theorem Stp.out (s : Stp A H A' H') {b : Addr} {o : HO} (hb : b ∉ A) (h : H b = some o) : b ∉ A' ∧ H' b = some o := by
  obtain ⟨B, e, hB⟩ := s.ext
  refine ⟨?_, s.keep b o hb h⟩
  rw [e]
  intro hm
  rcases List.mem_append.mp hm with hm | hm
  · exact hb hm
  · rw [hB b hm] at h; cases h
theorem Stp.at (s : Stp A H A' H') {n : Nat} {a : Addr} (h : A[n]? = some a) : A'[n]? = some a := by
  obtain ⟨B, e, _⟩ := s.ext
  rw [e, List.getElem?_append_left (List.getElem?_eq_some_iff.mp h).1]
  exact h
theorem Ob.there {so : SO} {p : Addr} (o : Ob F A H so p) : ∃ u, H p = some u := by
  cases o with
  | lst h _ => exact ⟨_, h⟩
  | dctK h _ _ => exact ⟨_, h⟩
  | dctT h _ _ _ _ _ _ => exact ⟨_, h⟩
  | ins _ h _ _ => exact ⟨_, h⟩
theorem RelSt.there {st : Sto} (r : RelSt F A H st) {b : Addr} (hb : b ∈ A) : ∃ o, H b = some o := by
  obtain ⟨n, hn⟩ := List.getElem?_of_mem hb
  have hl : n < st.length := by rw [← r.1]; exact (List.getElem?_eq_some_iff.mp hn).1
  obtain ⟨a, ha, ob⟩ := r.2.2 n _ (List.getElem?_eq_getElem hl)
  rw [hn] at ha; cases ha
  exact ob.there
theorem Stp.trans {st : Sto} (r : RelSt F A' H' st) (s : Stp A H A' H') (t : Stp A' H' A'' H'') : Stp A H A'' H'' := by
  obtain ⟨B, e, hB⟩ := s.ext
  obtain ⟨B', e', hB'⟩ := t.ext
  refine ⟨⟨B ++ B', by rw [e', e, List.append_assoc], fun b hb => ?_⟩, fun b o hb h => ?_⟩
  · rcases List.mem_append.mp hb with hb | hb
    · exact hB b hb
    · cases q : H b with
      | none => rfl
      | some o =>
        by_cases hA : b ∈ A
        · obtain ⟨o', z⟩ := r.there (b := b) (by rw [e]; exact List.mem_append_left _ hA)
          rw [hB' b hb] at z; cases z
        · have := s.keep b o hA q
          rw [hB' b hb] at this; cases this
  · exact (t.keep b o (s.out hb h).1 (s.out hb h).2)

theorem nodup_at {α : Type} {l : List α} (hN : l.Nodup) {i j : Nat} {x : α} (a : l[i]? = some x) (b : l[j]? = some x) : i = j := by
  obtain ⟨h1, e1⟩ := List.getElem?_eq_some_iff.mp a
  obtain ⟨h2, e2⟩ := List.getElem?_eq_some_iff.mp b
  exact (List.getElem_inj hN).mp (e1.trans e2.symm)
/-- what a value leans on stays -/
structure Mv (F : Fx) (A : List Addr) (H : Hp) (A' : List Addr) (H' : Hp) : Prop where
  at_ : ∀ (n : Nat) (a : Addr), A[n]? = some a → A'[n]? = some a
  out : ∀ b o, Out F A b → H b = some o → Out F A' b ∧ H' b = some o
theorem TupAt.mv (m : Mv F A H A' H') {p : Addr} {vs : List V} (t : TupAt F A H p vs) : TupAt F A' H' p vs := by
  rcases t with ⟨t, hp⟩ | t
  · exact .inl ⟨(m.out p _ hp t).2, (m.out p _ hp t).1⟩
  · exact .inr t
theorem TupAt.sq {p : Addr} {vs : List V} (t : TupAt F A H p vs) : SqT F.K H p vs := by
  rcases t with ⟨t, hp⟩ | t
  · exact .inl (.inl t)
  · exact .inr t
theorem ScrAt.mv (m : Mv F A H A' H') {p : Addr} {vs : List V} (t : ScrAt F A H p vs) : ScrAt F A' H' p vs := by
  cases t with
  | frz o t hp => exact .frz o (m.out p _ hp t).2 (m.out p _ hp t).1
  | wr t => exact .wr t
theorem ScrAt.sq {p : Addr} {vs : List V} (t : ScrAt F A H p vs) : SqL F.K H p vs := by
  cases t with
  | frz o t hp => exact .inl (.inr ⟨o, t⟩)
  | wr t => exact t H
mutual
theorem Rp.mv (m : Mv F A H A' H') : ∀ {d : D} {v : V}, Rp F A H d v → Rp F A' H' d v
  | _, _, .non => .non
  | _, _, .bl b => .bl b
  | _, _, .int i => .int i
  | _, _, .str x => .str x
  | _, _, .tup t r => .tup (t.mv m) (Rps.mv m r)
  | _, _, .lst o hp => by
    obtain ⟨u, hu⟩ := o.there
    exact .lst (Ob.mv m hp o) (m.out _ u hp hu).1
  | _, _, .dct o hp => by
    obtain ⟨u, hu⟩ := o.there
    exact .dct (Ob.mv m hp o) (m.out _ u hp hu).1
  | _, _, .ins o hp => by
    obtain ⟨u, hu⟩ := o.there
    exact .ins (Ob.mv m hp o) (m.out _ u hp hu).1
  | _, _, .ref h => .ref (m.at_ _ _ h)
  | _, _, .scr h => .scr (h.mv m)
theorem Rps.mv (m : Mv F A H A' H') : ∀ {ds : List D} {vs : List V}, Rps F A H ds vs → Rps F A' H' ds vs
  | _, _, .nil => .nil
  | _, _, .cons r t => .cons (Rp.mv m r) (Rps.mv m t)
theorem Ob.mv (m : Mv F A H A' H') : ∀ {so : SO} {p : Addr}, Out F A p → Ob F A H so p → Ob F A' H' so p
  | _, _, hp, .lst h r => .lst (m.out _ _ hp h).2 (Rps.mv m r)
  | _, _, hp, .dctK h e r => .dctK (m.out _ _ hp h).2 e (Rps.mv m r)
  | _, _, hp, .dctT h e0 e1 e2 r v r2 => .dctT (m.out _ _ hp h).2 e0 e1 e2 (Rps.mv m r) v (Rps.mv m r2)
  | _, _, hp, .ins c h e r => .ins c (m.out _ _ hp h).2 e (Rps.mv m r)
end
/-- an object that itself stays -/
theorem Ob.mv' (m : Mv F A H A' H') {so : SO} {p : Addr} (hs : H' p = H p) (o : Ob F A H so p) : Ob F A' H' so p := by
  cases o with
  | lst h r => exact .lst (by rw [hs]; exact h) (r.mv m)
  | dctK h e r => exact .dctK (by rw [hs]; exact h) e (r.mv m)
  | dctT h e0 e1 e2 r v r2 => exact .dctT (by rw [hs]; exact h) e0 e1 e2 (r.mv m) v (r2.mv m)
  | ins c h e r => exact .ins c (by rw [hs]; exact h) e (r.mv m)

theorem Stp.toMv (s : Stp A H A' H') : Mv F A H A' H' := ⟨fun _ _ h => s.at h, fun _ _ hb h => ⟨⟨(s.out hb.1 h).1, hb.2⟩, (s.out hb.1 h).2⟩⟩
theorem Rp.stp {d : D} {v : V} (r : Rp F A H d v) (s : Stp A H A' H') : Rp F A' H' d v := r.mv s.toMv
theorem Rps.stp {d : List D} {v : List V} (r : Rps F A H d v) (s : Stp A H A' H') : Rps F A' H' d v := r.mv s.toMv
theorem EnvR.stp {u : SuiT} {env : Env} {σ : St} (r : EnvR F u A H env σ) (s : Stp A H A' H') : EnvR F u A' H' env σ :=
  ⟨r.1, fun i d e => (r.2 i d e).elim .inl fun ⟨v, a, b⟩ => .inr ⟨v, a, b.stp s⟩⟩
theorem upd_other {p b : Addr} {o u : HO} (hp : H p = none) (h : H b = some u) : upd H p o b = some u := by
  rw [upd_ne]; exact h
  intro e; subst e; rw [hp] at h; cases h
/-- a new thing that is not of the store -/
theorem Stp.new {p : Addr} {o : HO} (hp : H p = none) : Stp A H A (upd H p o) := ⟨⟨[], by simp, by simp⟩, fun _ _ _ h => upd_other hp h⟩
theorem RelSt.out {st : Sto} (r : RelSt F A H st) {p : Addr} (hp : H p = none) : Out F A p := by
  refine ⟨fun h => ?_, fun h => ?_⟩
  · obtain ⟨o, e⟩ := r.there h
    rw [hp] at e; cases e
  · obtain ⟨_, o, e⟩ := r.2.1.2 p h
    rw [hp] at e; cases e
/-- all that is tracked stays -/
theorem RelSt.ext {st : Sto} (r : RelSt F A H st) (k : ∀ b o, H b = some o → H' b = some o) : RelSt F A H' st :=
  ⟨r.1, ⟨r.2.1.1, fun b hb => ⟨(r.2.1.2 b hb).1, let ⟨o, e⟩ := (r.2.1.2 b hb).2; ⟨o, k b o e⟩⟩⟩, fun n so e => by
    obtain ⟨a, ha, ob⟩ := r.2.2 n so e
    obtain ⟨u, hu⟩ := ob.there
    exact ⟨a, ha, ob.mv' ⟨fun _ _ h => h, fun b o hb h => ⟨hb, k b o h⟩⟩ (by rw [hu]; exact k a u hu)⟩⟩
theorem RelSt.new {st : Sto} (r : RelSt F A H st) {p : Addr} {o : HO} (hp : H p = none) : RelSt F A (upd H p o) st :=
  r.ext fun _ _ h => upd_other hp h
/-- a new thing of the store -/
theorem Stp.push {p : Addr} {o : HO} (hp : H p = none) : Stp A H (A ++ [p]) (upd H p o) :=
  ⟨⟨[p], rfl, fun b hb => by rw [List.mem_singleton.mp hb]; exact hp⟩, fun _ _ _ h => upd_other hp h⟩
theorem RelSt.push {st : Sto} (r : RelSt F A H st) {p : Addr} {o : HO} {so : SO} (hp : H p = none) (ob : Ob F (A ++ [p]) (upd H p o) so p) : RelSt F (A ++ [p]) (upd H p o) (st ++ [so]) := by
  refine ⟨by simp [r.1], ⟨?_, fun b hb => ?_⟩, fun n so' e => ?_⟩
  · refine List.nodup_append.mpr ⟨r.2.1.1, by simp, fun a ha b hb => ?_⟩
    rw [List.mem_singleton.mp hb]
    rintro rfl
    exact (r.out hp).1 ha
  · obtain ⟨h1, o', h2⟩ := r.2.1.2 b hb
    refine ⟨fun hm => ?_, o', upd_other hp h2⟩
    rcases List.mem_append.mp hm with hm | hm
    · exact h1 hm
    · rw [List.mem_singleton.mp hm, hp] at h2; cases h2
  · by_cases hn : n < st.length
    · rw [List.getElem?_append_left hn] at e
      obtain ⟨a, ha, ob'⟩ := r.2.2 n so' e
      obtain ⟨u, hu⟩ := ob'.there
      exact ⟨a, (Stp.push (o := o) hp).at ha, ob'.mv' (Stp.push hp).toMv (by rw [hu]; exact upd_other hp hu)⟩
    · have hn' : n = st.length := by
        have := (List.getElem?_eq_some_iff.mp e).1
        simp at this; omega
      subst hn'
      simp at e; subst e
      exact ⟨p, by rw [← r.1]; simp, ob⟩
/-- a thing of the store is changed -/
theorem Stp.set {k : Nat} {a : Addr} {o : HO} (ha : A[k]? = some a) : Stp A H A (upd H a o) :=
  ⟨⟨[], by simp, by simp⟩, fun b u hb h => by
    rw [upd_ne]; exact h
    rintro rfl
    exact hb (List.mem_of_getElem? ha)⟩
theorem RelSt.set {st : Sto} (r : RelSt F A H st) {k : Nat} {a : Addr} {o : HO} {so : SO} (ha : A[k]? = some a) (ob : Ob F A (upd H a o) so a) : RelSt F A (upd H a o) (st.set k so) := by
  refine ⟨by simp [r.1], ⟨r.2.1.1, fun b hb => ⟨(r.2.1.2 b hb).1, let ⟨o', e⟩ := (r.2.1.2 b hb).2; ⟨o', by
    rw [upd_ne]; exact e
    rintro rfl
    exact (r.2.1.2 b hb).1 (List.mem_of_getElem? ha)⟩⟩⟩, fun n so' e => ?_⟩
  by_cases hn : n = k
  · subst hn
    rw [List.getElem?_set_self (by rw [← r.1]; exact (List.getElem?_eq_some_iff.mp ha).1)] at e
    cases e
    exact ⟨a, ha, ob⟩
  · rw [List.getElem?_set_ne (Ne.symm hn)] at e
    obtain ⟨b, hb, ob'⟩ := r.2.2 n so' e
    have hab : b ≠ a := by
      rintro rfl
      exact hn (nodup_at r.2.1.1 hb ha)
    exact ⟨b, hb, ob'.mv' (Stp.set ha).toMv (upd_ne hab)⟩
theorem Rps.length {ds : List D} {vs : List V} (r : Rps F A H ds vs) : ds.length = vs.length := by
  induction ds generalizing vs with
  | nil => cases r; rfl
  | cons d ds ih => cases r with | cons _ t => simp [ih t]
theorem Rps.append : ∀ {ds es : List D} {vs us : List V}, Rps F A H ds vs → Rps F A H es us → Rps F A H (ds ++ es) (vs ++ us)
  | _, _, _, _, .nil, s => s
  | _, _, _, _, .cons r t, s => .cons r (Rps.append t s)
theorem Rps.get : ∀ {ds : List D} {vs : List V} {i : Nat} {d : D}, Rps F A H ds vs → ds[i]? = some d → ∃ v, vs[i]? = some v ∧ Rp F A H d v
  | _, _, _, _, .nil, h => by simp at h
  | _, _, 0, _, .cons r _, h => by simp at h; subst h; exact ⟨_, rfl, r⟩
  | _, _, i + 1, _, .cons _ t, h => by
    obtain ⟨v, a, b⟩ := Rps.get (i := i) t (by simpa using h)
    exact ⟨v, by simpa using a, b⟩
theorem Rps.getV : ∀ {ds : List D} {vs : List V} {i : Nat} {v : V}, Rps F A H ds vs → vs[i]? = some v → ∃ d, ds[i]? = some d ∧ Rp F A H d v
  | _, _, _, _, .nil, h => by simp at h
  | _, _, 0, _, .cons r _, h => by simp at h; subst h; exact ⟨_, rfl, r⟩
  | _, _, i + 1, _, .cons _ t, h => by
    obtain ⟨v, a, b⟩ := Rps.getV (i := i) t (by simpa using h)
    exact ⟨v, by simpa using a, b⟩
theorem Rps.drop : ∀ {ds : List D} {vs : List V} (n : Nat), Rps F A H ds vs → Rps F A H (ds.drop n) (vs.drop n)
  | _, _, 0, r => r
  | _, _, _ + 1, .nil => .nil
  | _, _, n + 1, .cons _ t => Rps.drop n t
theorem Rps.take : ∀ {ds : List D} {vs : List V} (n : Nat), Rps F A H ds vs → Rps F A H (ds.take n) (vs.take n)
  | _, _, 0, _ => .nil
  | _, _, _ + 1, .nil => .nil
  | _, _, n + 1, .cons r t => .cons r (Rps.take n t)
theorem Rps.set {d : D} {v : V} (r : Rp F A H d v) : ∀ {ds : List D} {vs : List V} (i : Nat), Rps F A H ds vs → Rps F A H (ds.set i d) (vs.set i v)
  | _, _, _, .nil => .nil
  | _, _, 0, .cons _ t => .cons r t
  | _, _, i + 1, .cons q t => .cons q (Rps.set r i t)
theorem Rps.reverse : ∀ {ds : List D} {vs : List V}, Rps F A H ds vs → Rps F A H ds.reverse vs.reverse
  | _, _, .nil => .nil
  | _, _, .cons r t => by simp only [List.reverse_cons]; exact (Rps.reverse t).append (.cons r .nil)
theorem Rps.rep {ds : List D} {vs : List V} (h : Rps F A H ds vs) : ∀ k : Nat, Rps F A H (List.replicate k ds).flatten (List.replicate k vs).flatten
  | 0 => .nil
  | k + 1 => by simp only [List.replicate_succ, List.flatten_cons]; exact h.append (Rps.rep h k)
/-! ### things that are being made -/
abbrev Fx.pv (F : Fx) (ps : List Addr) : Fx := { F with priv := ps }
structure Mp (F : Fx) (ps : List Addr) (A : List Addr) (H : Hp) (A' : List Addr) (H' : Hp) : Prop where
  at_ : ∀ (n : Nat) (a : Addr), A[n]? = some a → A'[n]? = some a
  out : ∀ b o, Out F A b → H b = some o → Out (F.pv ps) A' b ∧ H' b = some o
theorem TupAt.mp {ps : List Addr} (m : Mp F ps A H A' H') {p : Addr} {vs : List V} (t : TupAt F A H p vs) : TupAt (F.pv ps) A' H' p vs := by
  rcases t with ⟨t, hp⟩ | t
  · exact .inl ⟨(m.out p _ hp t).2, (m.out p _ hp t).1⟩
  · exact .inr t
theorem ScrAt.mp {ps : List Addr} (m : Mp F ps A H A' H') {p : Addr} {vs : List V} (t : ScrAt F A H p vs) : ScrAt (F.pv ps) A' H' p vs := by
  cases t with
  | frz o t hp => exact .frz o (m.out p _ hp t).2 (m.out p _ hp t).1
  | wr t => exact .wr t
mutual
theorem Rp.mp {ps : List Addr} (m : Mp F ps A H A' H') : ∀ {d : D} {v : V}, Rp F A H d v → Rp (F.pv ps) A' H' d v
  | _, _, .non => .non
  | _, _, .bl b => .bl b
  | _, _, .int i => .int i
  | _, _, .str x => .str x
  | _, _, .tup t r => .tup (t.mp m) (Rps.mp m r)
  | _, _, .lst o hp => by
    obtain ⟨u, hu⟩ := o.there
    exact .lst (Ob.mp m hp o) (m.out _ u hp hu).1
  | _, _, .dct o hp => by
    obtain ⟨u, hu⟩ := o.there
    exact .dct (Ob.mp m hp o) (m.out _ u hp hu).1
  | _, _, .ins o hp => by
    obtain ⟨u, hu⟩ := o.there
    exact .ins (Ob.mp m hp o) (m.out _ u hp hu).1
  | _, _, .ref h => .ref (m.at_ _ _ h)
  | _, _, .scr h => .scr (h.mp m)
theorem Rps.mp {ps : List Addr} (m : Mp F ps A H A' H') : ∀ {ds : List D} {vs : List V}, Rps F A H ds vs → Rps (F.pv ps) A' H' ds vs
  | _, _, .nil => .nil
  | _, _, .cons r t => .cons (Rp.mp m r) (Rps.mp m t)
theorem Ob.mp {ps : List Addr} (m : Mp F ps A H A' H') : ∀ {so : SO} {p : Addr}, Out F A p → Ob F A H so p → Ob (F.pv ps) A' H' so p
  | _, _, hp, .lst h r => .lst (m.out _ _ hp h).2 (Rps.mp m r)
  | _, _, hp, .dctK h e r => .dctK (m.out _ _ hp h).2 e (Rps.mp m r)
  | _, _, hp, .dctT h e0 e1 e2 r v r2 => .dctT (m.out _ _ hp h).2 e0 e1 e2 (Rps.mp m r) v (Rps.mp m r2)
  | _, _, hp, .ins c h e r => .ins c (m.out _ _ hp h).2 e (Rps.mp m r)
end
theorem Ob.mp' {ps : List Addr} (m : Mp F ps A H A' H') {so : SO} {p : Addr} (hs : H' p = H p) (o : Ob F A H so p) : Ob (F.pv ps) A' H' so p := by
  cases o with
  | lst h r => exact .lst (by rw [hs]; exact h) (r.mp m)
  | dctK h e r => exact .dctK (by rw [hs]; exact h) e (r.mp m)
  | dctT h e0 e1 e2 r v r2 => exact .dctT (by rw [hs]; exact h) e0 e1 e2 (r.mp m) v (r2.mp m)
  | ins c h e r => exact .ins c (by rw [hs]; exact h) e (r.mp m)
/-- a new thing at p is being made -/
theorem Mp.new {p : Addr} {o : HO} (hp : H p = none) : Mp F (p :: F.priv) A H A (upd H p o) :=
  ⟨fun _ _ h => h, fun b u hb h => ⟨⟨hb.1, fun hm => by
    rcases List.mem_cons.mp hm with e | hm
    · subst e; rw [hp] at h; cases h
    · exact hb.2 hm⟩, upd_other hp h⟩⟩
theorem RelSt.priv {st : Sto} (r : RelSt F A H st) {p : Addr} {o : HO} (hp : H p = none) : RelSt (F.pv (p :: F.priv)) A (upd H p o) st := by
  refine ⟨r.1, ⟨r.2.1.1, fun b hb => ?_⟩, fun n so e => ?_⟩
  · rcases List.mem_cons.mp hb with e | hb
    · subst e; exact ⟨(r.out hp).1, o, upd_same⟩
    · obtain ⟨h1, o', h2⟩ := r.2.1.2 b hb
      exact ⟨h1, o', upd_other hp h2⟩
  · obtain ⟨a, ha, ob⟩ := r.2.2 n so e
    obtain ⟨u, hu⟩ := ob.there
    exact ⟨a, ha, ob.mp' (Mp.new hp) (by rw [hu]; exact upd_other hp hu)⟩
/-- the thing is made -/
theorem Mp.done {p : Addr} : Mp (F.pv (p :: F.priv)) F.priv A H A H :=
  ⟨fun _ _ h => h, fun b u hb h => ⟨⟨hb.1, fun hm => hb.2 (List.mem_cons_of_mem _ hm)⟩, h⟩⟩
theorem RelSt.unpriv {st : Sto} {p : Addr} (r : RelSt (F.pv (p :: F.priv)) A H st) : RelSt F A H st := by
  refine ⟨r.1, ⟨r.2.1.1, fun b hb => r.2.1.2 b (List.mem_cons_of_mem _ hb)⟩, fun n so e => ?_⟩
  obtain ⟨a, ha, ob⟩ := r.2.2 n so e
  exact ⟨a, ha, ob.mp' Mp.done rfl⟩
theorem Rp.unpriv {p : Addr} {d : D} {v : V} (r : Rp (F.pv (p :: F.priv)) A H d v) : Rp F A H d v := r.mp Mp.done
theorem Rps.unpriv {p : Addr} {d : List D} {v : List V} (r : Rps (F.pv (p :: F.priv)) A H d v) : Rps F A H d v := r.mp Mp.done
/-- the thing that is being made is changed -/
theorem Mv.pupd {p : Addr} {o : HO} (hp : p ∈ F.priv) : Mv F A H A (upd H p o) :=
  ⟨fun _ _ h => h, fun b u hb h => ⟨hb, by rw [upd_ne]; exact h; rintro rfl; exact hb.2 hp⟩⟩
theorem RelSt.pupd {st : Sto} {p : Addr} {o : HO} (r : RelSt F A H st) (hp : p ∈ F.priv) : RelSt F A (upd H p o) st := by
  refine ⟨r.1, ⟨r.2.1.1, fun b hb => ⟨(r.2.1.2 b hb).1, ?_⟩⟩, fun n so e => ?_⟩
  · by_cases e : b = p
    · subst e; exact ⟨o, upd_same⟩
    · obtain ⟨o', h2⟩ := (r.2.1.2 b hb).2
      exact ⟨o', by rw [upd_ne e]; exact h2⟩
  · obtain ⟨a, ha, ob⟩ := r.2.2 n so e
    refine ⟨a, ha, ob.mv' (Mv.pupd hp) ?_⟩
    rw [upd_ne]
    rintro rfl
    exact (r.2.1.2 _ hp).1 (List.mem_of_getElem? ha)
end
end Mini
end
section
/-! What is wanted of values and exceptions, in the heap's terms; readings of the small language. -/
namespace Mini
open PySem L2

def ExcR (F : Fx) (A : List Addr) (H : Hp) (C : Str) (fs : List Str) (xs : List D) (cls : Value) (dd : Option Addr) : Prop :=
  (C ∈ F.excs ∧ cls = .ref (F.cad C)) ∧ ((fs = [] ∧ dd = none) ∨ ∃ d fvs, dd = some d ∧ H d = some (.xd fvs) ∧ Out F A d ∧ ∀ g x, lookF fs xs g = some x → ∃ v, fvs.lookup g = some v ∧ Rp F A H x v)
def QLink (F : Fx) (A : List Addr) (H : Hp) (Q : VK) : QD := fun d s => ∀ A' H' v, Stp A H A' H' → RelSt F A' H' s → Rp F A' H' d v → Q v H'
def XLink (F : Fx) (W : WX) (σ : St) (A : List Addr) (H : Hp) : XP := fun C fs xs s => ∀ A' H' cls dd, Stp A H A' H' → RelSt F A' H' s → ExcR F A' H' C fs xs cls dd → W cls dd σ H'
def SuiR (F : Fx) (A : List Addr) (H : Hp) (env : Env) (σ : St) : SuiT → Prop
  | none => True
  | some (i, a, cls, dd) => σ[i]? = some (some (.ref a)) ∧ ∃ C fs xs, env[i]? = some (some (.exc C fs xs)) ∧ ExcR F A H C fs xs cls dd
structure Rel (F : Fx) (u : SuiT) (A : List Addr) (H : Hp) (env : Env) (st : Sto) (σ : St) : Prop where
  rs : RelSt F A H st
  re : EnvR F u A H env σ
  su : SuiR F A H env σ u

section
variable {F : Fx} {G : Sg} {u : SuiT} {W : WX} {A A' A1 : List Addr} {H H' H1 : Hp} {env : Env} {st s1 : Sto} {σ : St}
theorem ExcR.stp {C : Str} {fs : List Str} {xs : List D} {cls : Value} {dd : Option Addr} (h : ExcR F A H C fs xs cls dd) (s : Stp A H A' H') : ExcR F A' H' C fs xs cls dd := by
  obtain ⟨e, h⟩ := h
  refine ⟨e, ?_⟩
  rcases h with h | ⟨d, fvs, e1, e2, e3, e4⟩
  · exact .inl h
  · refine .inr ⟨d, fvs, e1, (s.out e3.1 e2).2, ⟨(s.out e3.1 e2).1, e3.2⟩, fun g x q => ?_⟩
    obtain ⟨v, a, b⟩ := e4 g x q
    exact ⟨v, a, b.stp s⟩
theorem Rel.stp (r : Rel F u A H env st σ) (s : Stp A H A' H') (r' : RelSt F A' H' s1) : Rel F u A' H' env s1 σ := by
  refine ⟨r', r.re.stp s, ?_⟩
  have := r.su
  cases u with
  | none => trivial
  | some p =>
    obtain ⟨i, a, cls, dd⟩ := p
    obtain ⟨h1, C, fs, xs, h2, h3⟩ := this
    exact ⟨h1, C, fs, xs, h2, h3.stp s⟩
theorem QLink.stp {Q : VK} {d : D} {s : Sto} (r : RelSt F A1 H1 s1) (t : Stp A H A1 H1) (q : QLink F A H Q d s) : QLink F A1 H1 Q d s :=
  fun A' H' v t' r' p => q A' H' v (t.trans r t') r' p
theorem XLink.stp {C : Str} {fs : List Str} {xs : List D} {s : Sto} (r : RelSt F A1 H1 s1) (t : Stp A H A1 H1) (q : XLink F W σ A H C fs xs s) : XLink F W σ A1 H1 C fs xs s :=
  fun A' H' cls dd t' r' p => q A' H' cls dd (t.trans r t') r' p
/-- an expression's reading -/
def tE (F : Fx) (G : Sg) (u : SuiT) (W : WX) (c : CE) : TE := fun σ H Q => ∃ A env st, Rel F u A H env st σ ∧ wpE G c env st (QLink F A H Q) (XLink F W σ A H)
def tT (F : Fx) (G : Sg) (u : SuiT) (W : WX) (c : CE) : TT := fun σ H Q => ∃ A env st, Rel F u A H env st σ ∧ wpE G c env st (fun d s => ∃ b, d = .bl b ∧ ∀ A' H', Stp A H A' H' → RelSt F A' H' s → Q b H') (XLink F W σ A H)
def tA (F : Fx) (G : Sg) (u : SuiT) (W : WX) (c : CEs) : TA := fun σ H Q => ∃ A env st, Rel F u A H env st σ ∧ wpEs G c env st (fun ds s => ∀ A' H' vs, Stp A H A' H' → RelSt F A' H' s → Rps F A' H' ds vs → Q vs H') (XLink F W σ A H)
theorem peImp {X : Cx} {e : Expr} {t t' : TE} (h : PE X e t') (hi : ∀ σ H Q, t σ H Q → t' σ H Q) : PE X e t := ⟨fun pins s σ H Q I q => h.run pins s σ H Q I (hi _ _ _ q)⟩
theorem ptImp {X : Cx} {e : Expr} {t t' : TT} (h : PT X e t') (hi : ∀ σ H Q, t σ H Q → t' σ H Q) : PT X e t := ⟨fun pins s σ H Q I q => h.run pins s σ H Q I (hi _ _ _ q)⟩
theorem pwImp {X : Cx} {e : Expr} {t t' : TT} (h : PW X e t') (hi : ∀ σ H Q, t σ H Q → t' σ H Q) : PW X e t := ⟨fun wh pins s σ H Q I q => h.run wh pins s σ H Q I (hi _ _ _ q)⟩
theorem paImp {X : Cx} {e : List Expr} {t t' : TA} (h : PA X e t') (hi : ∀ σ H Q, t σ H Q → t' σ H Q) : PA X e t := ⟨fun pos pins s σ H Q I q => h.run pos pins s σ H Q I (hi _ _ _ q)⟩
/-- one expression, then its end -/
theorem tE_one {a : CE} {Q1 : QD} {X1 : XP} {R : V → Hp → Prop} (rel : Rel F u A H env st σ) (h : wpE G a env st Q1 X1)
    (hx : ∀ C f x s, X1 C f x s → XLink F W σ A H C f x s) (fin : ∀ d s A' H' v, Stp A H A' H' → RelSt F A' H' s → Rp F A' H' d v → Q1 d s → R v H') : tE F G u W a σ H R :=
  ⟨A, env, st, rel, wpE_mono a env st (fun d s q A' H' v t r p => fin d s A' H' v t r p q) hx h⟩
theorem tE_two {a b : CE} {P : D → D → Sto → Prop} {X1 : XP} {R : V → V → Hp → Prop} (rel : Rel F u A H env st σ) (h : wpE G a env st (fun x s1 => wpE G b env s1 (fun y s2 => P x y s2) X1) X1)
    (hx : ∀ C f x s, X1 C f x s → XLink F W σ A H C f x s)
    (fin : ∀ x y s A2 H2 xv yv, Stp A H A2 H2 → RelSt F A2 H2 s → Rp F A2 H2 x xv → Rp F A2 H2 y yv → P x y s → R xv yv H2) : tE F G u W a σ H fun xv H1 => tE F G u W b σ H1 fun yv H2 => R xv yv H2 :=
  tE_one rel h hx fun x s A1 H1 xv t1 r1 p1 h1 => tE_one (rel.stp t1 r1) h1 (fun C f z s' q => (hx C f z s' q).stp r1 t1) fun y s2 A2 H2 yv t2 r2 p2 q => fin x y s2 A2 H2 xv yv (t1.trans r1 t2) r2 (p1.stp t2) p2 q

/-! ### what a result is, in the heap -/
theorem ret_lst {m : Bool} {xs : List D} {vs : List V} {p : Addr} {Q : VK} {A0 : List Addr} {H0 : Hp} (r : RelSt F A H st) (t : Stp A0 H0 A H) (hr : Rps F A H xs vs) (hp : H p = none) (h : retM m (.lst xs) st (QLink F A0 H0 Q)) :
    Q (.ref p) (upd H p (.lst vs)) := by
  cases m with
  | false =>
    have h' : QLink F A0 H0 Q (.lst xs) st := h
    refine h' A _ _ (t.trans r (Stp.new hp)) (r.new hp) (.lst (.lst upd_same (hr.stp (Stp.new hp))) (r.out hp))
  | true =>
    have h' : QLink F A0 H0 Q (.ref st.length) (st ++ [.lst xs]) := h
    refine h' (A ++ [p]) _ _ (t.trans r (Stp.push hp)) (r.push hp (.lst upd_same (hr.stp (Stp.push hp)))) (.ref ?_)
    rw [← r.1]; simp
theorem retM_nl {m : Bool} {d : D} {Q : QD} (h : retM m d st Q) (h1 : ∀ xs, d ≠ .lst xs) (h2 : ∀ ks xs, d ≠ .dct ks xs) : Q d st := by
  cases m with
  | false => exact h
  | true =>
    cases d <;> first | exact h | exact absurd rfl (h1 _) | exact absurd rfl (h2 _ _)
theorem q_new_tup {xs : List D} {vs : List V} {p : Addr} {Q : VK} {A0 : List Addr} {H0 : Hp} (r : RelSt F A H st) (t : Stp A0 H0 A H) (hr : Rps F A H xs vs) (hp : H p = none) (h : QLink F A0 H0 Q (.tup xs) st) :
    Q (.ref p) (upd H p (.tup vs)) :=
  h A _ _ (t.trans r (Stp.new hp)) (r.new hp) (.tup (.inl ⟨upd_same, r.out hp⟩) (hr.stp (Stp.new hp)))
/-- a list that is read -/
theorem asL_rp {d : D} {v : V} {xs : List D} (r : RelSt F A H st) (p : Rp F A H d v) (h : asL st d = some xs) : ∃ a vs, v = .ref a ∧ H a = some (.lst vs) ∧ Rps F A H xs vs := by
  cases p with
  | lst o hp =>
    simp only [asL, Option.some.injEq] at h
    subst h
    cases o with | lst e q => exact ⟨_, _, rfl, e, q⟩
  | ref e =>
    rename_i n a
    simp only [asL] at h
    split at h
    · rename_i ys hy
      cases h
      obtain ⟨a', ha, ob⟩ := r.2.2 n _ hy
      rw [e] at ha; cases ha
      cases ob with | lst e q => exact ⟨_, _, rfl, e, q⟩
    · cases h
  | _ => simp [asL] at h
theorem asS_rp {d : D} {v : V} {xs : List D} (r : RelSt F A H st) (p : Rp F A H d v) (h : asS st d = some xs) : ∃ a vs, v = .ref a ∧ (SqT F.K H a vs ∨ H a = some (.lst vs)) ∧ Rps F A H xs vs := by
  cases d with
  | tup ys =>
    simp only [asS, Option.some.injEq] at h
    subst h
    cases p with | tup t q => exact ⟨_, _, rfl, .inl t.sq, q⟩
  | _ =>
    simp only [asS] at h
    obtain ⟨a, vs, e1, e2, e3⟩ := asL_rp r p h
    exact ⟨a, vs, e1, .inr e2, e3⟩
end
end Mini
end
section
/-! Operators. -/
namespace Mini
open PySem L2
theorem line_eq : line = sizeLine := rfl
section
variable {X : Cx}
def rB (K : PySem.W.Frag) : BOp → R2
  | .add => fun x y H Q => (∃ i j, x = .int i ∧ y = .int j ∧ Q (.int (i + j)) H) ∨ (∃ i j, x = .str i ∧ y = .str j ∧ i.length + j.length ≤ sizeLine ∧ Q (.str (i ++ j)) H) ∨ rCat x y H Q ∨ rCatA K x y H Q
  | .sub => fun x y H Q => ∃ i j, x = .int i ∧ y = .int j ∧ Q (.int (i - j)) H
  | .mul => fun x y H Q => (∃ i j, x = .int i ∧ y = .int j ∧ CMul i j ∧ Q (.int (i * j)) H) ∨ rRep x y H Q ∨ rRepT K x y H Q
  | .mod => fun x y H Q => ∃ i j, x = .int i ∧ y = .int j ∧ 0 < j ∧ Q (.int (i % j)) H
  | .fdiv => fun x y H Q => ∃ i j, x = .int i ∧ y = .int j ∧ CDiv i j ∧ Q (.int (i / j)) H
  | .pow => fun x y H Q => ∃ i j, x = .int i ∧ y = .int j ∧ CPow i j ∧ Q (.int (i ^ j.toNat)) H
theorem op_b {op : Operator} {o : BOp} (h : bopOf op = some o) : OpR X (binaryOp op) (rB X.K o) := by
  cases op <;> simp only [bopOf, Option.some.injEq, reduceCtorEq] at h <;> subst h
  · exact op_add.or (op_add_str.or (op_cat.or op_catA))
  · exact op_sub
  · exact op_mul.or (op_rep.or op_repT)
  · exact op_mod
  · exact op_pow
  · exact op_fdiv
end
section
variable {F : Fx} {A A0 : List Addr} {H H0 : Hp} {st : Sto}
theorem q_plain {d : D} {v : V} {m : Bool} {Q : VK} (r : RelSt F A H st) (t : Stp A0 H0 A H) (p : Rp F A H d v) (h : retM m d st (QLink F A0 H0 Q)) (h1 : ∀ xs, d ≠ .lst xs) (h2 : ∀ ks xs, d ≠ .dct ks xs) : Q v H :=
  (retM_nl h h1 h2) A H v t r p
theorem cat_fin {m : Bool} {x y d : D} {xv yv : V} {Q : VK} (r : RelSt F A H st) (t : Stp A0 H0 A H) (px : Rp F A H x xv) (py : Rp F A H y yv)
    (e : (match asL st x, asL st y with
    | some xs, some ys => if xs.length + ys.length ≤ line then some (D.lst (xs ++ ys)) else none
    | _, _ => none) = some d) (h : retM m d st (QLink F A0 H0 Q)) : rCat xv yv H Q := by
  cases ex : asL st x with
  | none => rw [ex] at e; simp at e
  | some xs =>
    cases ey : asL st y with
    | none => rw [ex, ey] at e; simp at e
    | some ys =>
      rw [ex, ey] at e
      simp only at e
      split at e
      · rename_i hl
        cases e
        obtain ⟨a, vs, rfl, ha, ra⟩ := asL_rp r px ex
        obtain ⟨b, us, rfl, hb, rb⟩ := asL_rp r py ey
        refine ⟨a, b, vs, us, rfl, rfl, ha, hb, by rw [← ra.length, ← rb.length]; exact hl, fun p hp => ret_lst r t (ra.append rb) hp h⟩
      · cases e
theorem rep_fin {m : Bool} {x d : D} {k : Int} {xv : V} {Q : VK} (r : RelSt F A H st) (t : Stp A0 H0 A H) (px : Rp F A H x xv)
    (e : (match asL st x with
    | some xs => if -(2 ^ 63) ≤ k ∧ k < 2 ^ 63 ∧ xs.length * k.toNat ≤ line then some (D.lst (List.replicate k.toNat xs).flatten) else none
    | none => none) = some d) (h : retM m d st (QLink F A0 H0 Q)) : rRep xv (.int k) H Q := by
  cases ex : asL st x with
  | none => rw [ex] at e; simp at e
  | some xs =>
    rw [ex] at e
    simp only at e
    split at e
    · rename_i hl
      cases e
      obtain ⟨a, vs, rfl, ha, ra⟩ := asL_rp r px ex
      exact ⟨a, k, vs, rfl, rfl, ha, hl.1, hl.2.1, by rw [← ra.length]; exact hl.2.2, fun p hp => ret_lst r t (ra.rep _) hp h⟩
    · cases e
theorem bin_fin {m : Bool} {op : BOp} {x y d : D} {xv yv : V} {Q : VK} (r : RelSt F A H st) (t : Stp A0 H0 A H) (px : Rp F A H x xv) (py : Rp F A H y yv)
    (e : binD st op x y = some d) (h : retM m d st (QLink F A0 H0 Q)) : rB F.K op xv yv H Q := by
  unfold binD at e
  split at e
  · cases e; cases px; cases py; exact .inl ⟨_, _, rfl, rfl, q_plain r t (.int _) h (by simp) (by simp)⟩
  · cases e; cases px; cases py; exact ⟨_, _, rfl, rfl, q_plain r t (.int _) h (by simp) (by simp)⟩
  · split at e
    · rename_i c
      cases e; cases px; cases py
      refine .inl ⟨_, _, rfl, rfl, ?_, q_plain r t (.int _) h (by simp) (by simp)⟩
      simp only [small, Bool.or_eq_true, Bool.and_eq_true, decide_eq_true_eq] at c
      exact c
    · cases e
  · split at e
    · rename_i c; cases e; cases px; cases py; exact ⟨_, _, rfl, rfl, c, q_plain r t (.int _) h (by simp) (by simp)⟩
    · cases e
  · split at e
    · rename_i c; cases e; cases px; cases py; exact ⟨_, _, rfl, rfl, c, q_plain r t (.int _) h (by simp) (by simp)⟩
    · cases e
  · split at e
    · rename_i c; cases e; cases px; cases py; exact ⟨_, _, rfl, rfl, ⟨c.1, by omega, c.2.2⟩, q_plain r t (.int _) h (by simp) (by simp)⟩
    · cases e
  · split at e
    · rename_i c; cases e; cases px; cases py; exact .inr (.inl ⟨_, _, rfl, rfl, c, q_plain r t (.str _) h (by simp) (by simp)⟩)
    · cases e
  · rename_i xs ys
    split at e
    · rename_i c
      cases e
      cases px with
      | tup tx rx =>
        cases py with
        | tup ty ry =>
          have hq : QLink F A0 H0 Q (.tup (xs ++ ys)) st := retM_nl h (by simp) (by simp)
          refine .inr (.inr (.inr ⟨_, _, _, _, rfl, rfl, tx.sq, ty.sq, by rw [← rx.length, ← ry.length]; exact c, fun e => ?_, fun _ e => ?_, fun _ _ p hp => q_new_tup r t (rx.append ry) hp hq⟩))
          · subst e; cases rx; exact hq A H _ t r (.tup ty ry)
          · subst e; cases ry
            rw [List.append_nil] at hq
            exact hq A H _ t r (.tup tx rx)
    · cases e
  · rename_i xs k
    split at e
    · rename_i c
      cases e
      cases px with
      | tup tx rx =>
        cases py
        have hq : QLink F A0 H0 Q _ st := retM_nl h (by simp) (by simp)
        refine .inr (.inr ⟨_, k, _, rfl, rfl, tx.sq, ?_, c.2.1, c.2.2.1, by rw [← rx.length]; exact c.2.2.2, fun p hp => q_new_tup r t (rx.rep _) hp hq⟩)
        rintro rfl
        cases rx
        exact c.1 rfl
    · cases e
  · exact .inr (.inr (.inl (cat_fin r t px py e h)))
  · cases py; exact .inr (.inl (rep_fin r t px e h))
  · cases e
end
section
variable {X : Cx} {F : Fx} {G : Sg} {u : SuiT} {W : WX}
theorem snd_bin {op : Operator} {o : BOp} {m : Bool} {a b : Expr} {a' b' : CE} {pos : Pos} (hK : X.K = F.K) (ho : bopOf op = some o) (ha : PE X a (tE F G u W a')) (hb : PE X b (tE F G u W b')) :
    PE X (.BinOp a op b pos) (tE F G u W (.bin m o a' b')) :=
  peImp (pe_op (op_b ho) ha hb) fun σ H Q ⟨A, env, st, rel, h⟩ => by
    unfold wpE at h
    exact tE_two rel h (fun _ _ _ _ z => z) fun x y s A2 H2 xv yv t2 r2 px py ⟨d, e, q⟩ => hK ▸ bin_fin r2 t2 px py e q
end
end Mini
end
section
/-! Comparisons. -/
namespace Mini
open PySem L2 PySem.Spec PyProof.Rows
section
variable {F : Fx} {A A0 : List Addr} {H H0 : Hp} {st : Sto}
mutual
theorem dp_of : ∀ {d : D} {v : V} {p : PyData}, Rp F A H d v → toPD d = some p → Dp F.K H v p
  | _, _, _, .non, h => by simp only [toPD, Option.some.injEq] at h; subst h; exact .non
  | _, _, _, .bl b, h => by simp only [toPD, Option.some.injEq] at h; subst h; exact .bl b
  | _, _, _, .int b, h => by simp only [toPD, Option.some.injEq] at h; subst h; exact .int b
  | _, _, _, .str b, h => by simp only [toPD, Option.some.injEq] at h; subst h; exact .str b
  | _, _, _, .tup t r, h => by
    simp only [toPD] at h
    split at h
    · rename_i ys hy
      cases h
      exact .tup t.sq (dps_of r hy)
    · cases h
  | _, _, _, .lst o hp, h => by
    simp only [toPD] at h
    split at h
    · rename_i ys hy
      cases h
      cases o with | lst e r => exact .lst (SqL.of e) (dps_of r hy)
    · cases h
  | _, _, _, .dct _ _, h => by simp [toPD] at h
  | _, _, _, .ins _ _, h => by simp [toPD] at h
  | _, _, _, .ref _, h => by simp [toPD] at h
  | _, _, _, .scr _, h => by simp [toPD] at h
theorem dps_of : ∀ {ds : List D} {vs : List V} {ps : List PyData}, Rps F A H ds vs → toPDs ds = some ps → DpAll F.K H vs ps
  | _, _, _, .nil, h => by simp only [toPDs, Option.some.injEq] at h; subst h; exact .nil
  | _, _, _, .cons r t, h => by
    simp only [toPDs] at h
    split at h
    · rename_i y ys hy hys
      cases h
      exact .cons (dp_of r hy) (dps_of t hys)
    · cases h
end
theorem dp_drf {d : D} {v : V} {p : PyData} (r : RelSt F A H st) (q : Rp F A H d v) (h : toPD (drf st d) = some p) : Dp F.K H v p := by
  cases d with
  | ref k =>
    simp only [drf] at h
    split at h
    · rename_i xs hx
      cases q with
      | ref e =>
        obtain ⟨a, ha, ob⟩ := r.2.2 _ _ hx
        rw [e] at ha; cases ha
        simp only [toPD] at h
        split at h
        · rename_i ys hy
          cases h
          cases ob with | lst e r => exact .lst (SqL.of e) (dps_of r hy)
        · cases h
    · simp [toPD] at h
  | _ => exact dp_of q h
mutual
theorem plain_of : ∀ {d : D} {p : PyData}, toPD d = some p → p.plain = true
  | .non, _, h => by simp only [toPD, Option.some.injEq] at h; subst h; rfl
  | .bl b, _, h => by simp only [toPD, Option.some.injEq] at h; subst h; rfl
  | .int b, _, h => by simp only [toPD, Option.some.injEq] at h; subst h; rfl
  | .str b, _, h => by simp only [toPD, Option.some.injEq] at h; subst h; rfl
  | .tup xs, _, h => by
    simp only [toPD] at h
    split at h
    · rename_i ys hy
      cases h
      exact plains_of hy
    · cases h
  | .lst xs, _, h => by
    simp only [toPD] at h
    split at h
    · rename_i ys hy
      cases h
      exact plains_of hy
    · cases h
  | .dct _ _, _, h => by simp [toPD] at h
  | .ins _ _ _, _, h => by simp [toPD] at h
  | .exc _ _ _, _, h => by simp [toPD] at h
  | .ref _, _, h => by simp [toPD] at h
theorem plains_of : ∀ {ds : List D} {ps : List PyData}, toPDs ds = some ps → PyData.plainAll ps = true
  | [], _, h => by simp only [toPDs, Option.some.injEq] at h; subst h; rfl
  | x :: xs, _, h => by
    simp only [toPDs] at h
    split at h
    · rename_i y ys hy hys
      cases h
      simp only [PyData.plainAll, plain_of hy, plains_of hys, Bool.and_self]
    · cases h
end
end
section
variable {X : Cx}
def rEqX (K : PySem.W.Frag) (neg : Bool) : R2 := fun x y H Q => ∃ d e, Dp K H x d ∧ Dp K H y e ∧ d.plain = true ∧ e.plain = true ∧ d.depth ≤ 64 ∧ Q (.bl (if neg then !PyData.eqv d e else PyData.eqv d e)) H
theorem room_min {A : Around} {d e : Nat} (hu : A.units + 66 < cLine) (h : d ≤ 64) : A.units + min d e < cLine := by omega
theorem op_eqX (hu : X.A.units + 66 < cLine) : OpR X (compareOp .Eq) (rEqX X.K false) := by
  intro pins s σ H x y v u Q I rx ry h
  obtain ⟨d, e, hd, he, pd, pe, l, q⟩ := h
  obtain ⟨as, r1⟩ := Dp.reads I d x v hd rx
  obtain ⟨bs, r2⟩ := Dp.reads I e y u he ry
  exact SeqAt.eq_plain r1 r2 pd pe (room_min hu l) ⟨.bl _, H, I, rfl, q⟩
theorem op_neX (hu : X.A.units + 66 < cLine) : OpR X (compareOp .NotEq) (rEqX X.K true) := by
  intro pins s σ H x y v u Q I rx ry h
  obtain ⟨d, e, hd, he, pd, pe, l, q⟩ := h
  obtain ⟨as, r1⟩ := Dp.reads I d x v hd rx
  obtain ⟨bs, r2⟩ := Dp.reads I e y u he ry
  exact SeqAt.ne_plain r1 r2 pd pe (room_min hu l) ⟨.bl _, H, I, rfl, q⟩
/-- x in a list or tuple of data -/
def rInX (K : PySem.W.Frag) (neg : Bool) : R2 := fun x y H Q => ∃ d ds, Dp K H x d ∧ (Dp K H y (.list ds) ∨ Dp K H y (.tuple ds)) ∧ d.plain = true ∧ PyData.plainAll ds = true ∧ d.depth ≤ 64 ∧
  Q (.bl (if neg then !(ds.any fun z => PyData.eqv z d) else ds.any fun z => PyData.eqv z d)) H
theorem op_inX (hu : X.A.units + 66 < cLine) : OpR X (compareOp .In) (rInX X.K false) := by
  intro pins s σ H x y v u Q I rx ry h
  obtain ⟨d, ds, hd, he, pd, pe, l, q⟩ := h
  obtain ⟨as, r1⟩ := Dp.reads I d x v hd rx
  have hr : X.A.units + 1 + min (PyData.depthAll ds) d.depth < cLine := by omega
  rcases he with he | he
  · obtain ⟨bs, r2⟩ := Dp.reads I _ y u he ry
    exact SeqAt.in_list_data r2 r1 pe pd hr ⟨.bl _, H, I, rfl, q⟩
  · obtain ⟨bs, r2⟩ := Dp.reads I _ y u he ry
    exact SeqAt.in_tuple_data r2 r1 pe pd hr ⟨.bl _, H, I, rfl, q⟩
theorem op_ninX (hu : X.A.units + 66 < cLine) : OpR X (compareOp .NotIn) (rInX X.K true) := by
  intro pins s σ H x y v u Q I rx ry h
  obtain ⟨d, ds, hd, he, pd, pe, l, q⟩ := h
  obtain ⟨as, r1⟩ := Dp.reads I d x v hd rx
  have hr : X.A.units + 1 + min (PyData.depthAll ds) d.depth < cLine := by omega
  rcases he with he | he
  · obtain ⟨bs, r2⟩ := Dp.reads I _ y u he ry
    exact SeqAt.notIn_list_data r2 r1 pe pd hr ⟨.bl _, H, I, rfl, q⟩
  · obtain ⟨bs, r2⟩ := Dp.reads I _ y u he ry
    exact SeqAt.notIn_tuple_data r2 r1 pe pd hr ⟨.bl _, H, I, rfl, q⟩
/-- a key in a dict -/
def rInD0 (neg : Bool) : R2 := fun x y H Q => ∃ a o, y = .ref a ∧ DGet H a x o ∧ Q (.bl (if neg then !o.isSome else o.isSome)) H
theorem op_inD0 (hu : X.A.units + 66 < cLine) : OpR X (compareOp .In) (rInD0 false) := by
  intro pins s σ H x y v u Q I rx ry h
  obtain ⟨a, o, rfl, g, q⟩ := h
  cases ry
  exact d_in (by omega) I g rx fun s' I' => ⟨.bl _, H, I', rfl, q⟩
theorem op_ninD0 (hu : X.A.units + 66 < cLine) : OpR X (compareOp .NotIn) (rInD0 true) := by
  intro pins s σ H x y v u Q I rx ry h
  obtain ⟨a, o, rfl, g, q⟩ := h
  cases ry
  exact d_notIn (by omega) I g rx fun s' I' => ⟨.bl _, H, I', rfl, q⟩
end

/-! ### keys of texts and ints -/
theorem keyB_d (a b : Key) : keyB (dKey a) (dKey b) = decide (a = b) := by
  cases a with
  | inl i =>
    cases b with
    | inl j =>
      show (i == j) = _
      rw [key_ll]
    | inr y => show false = _; rw [key_lr]
  | inr x =>
    cases b with
    | inl j => show false = _; rw [key_rl]
    | inr y =>
      show (x == y) = _
      rw [key_rr]; rfl
theorem leaf_key {d : D} (h : leafK d = true) : ∃ k : Key, d = dKey k := by
  cases d <;> simp [leafK] at h
  · exact ⟨.inl _, rfl⟩
  · exact ⟨.inr _, rfl⟩
theorem leaf_dKey (k : Key) : leafK (dKey k) = true := by cases k <;> rfl
theorem tupK_dKey (k : Key) : tupK (dKey k) = false := by cases k <;> rfl
section
variable {F : Fx} {A A0 : List Addr} {H H0 : Hp} {st : Sto}
theorem rp_key {k : Key} {v : V} (h : Rp F A H (dKey k) v) : v = kV k := by
  cases k <;> (cases h; rfl)
theorem key_rp (k : Key) : Rp F A H (dKey k) (kV k) := by cases k <;> constructor
theorem rps_key {k : List Key} {vs : List V} (h : Rps F A H (k.map dKey) vs) : vs = k.map kV := by
  induction k generalizing vs with
  | nil => cases h; rfl
  | cons a r ih => cases h with | cons p t => rw [rp_key p, ih t]; rfl
/-- looking up in a dict with texts and ints -/
theorem look_d : ∀ {kvs : List (Key × V)} {xs : List D} (k : Key), Rps F A H xs (kvs.map (·.2)) →
    (lookD (kvs.map fun q => dKey q.1) xs (dKey k) = none ∧ valV kvs k = none) ∨ ∃ d v, lookD (kvs.map fun q => dKey q.1) xs (dKey k) = some d ∧ valV kvs k = some v ∧ Rp F A H d v
  | [], xs, k, r => by cases r; exact .inl ⟨rfl, rfl⟩
  | (j, v) :: kvs, _, k, .cons p t => by
    simp only [List.map_cons, lookD, keyB_d]
    by_cases e : j = k
    · rw [if_pos (decide_eq_true e), valV_pos (p := (j, v)) e]
      exact .inr ⟨_, _, rfl, rfl, p⟩
    · rw [if_neg (by simp [e]), valV_neg (p := (j, v)) e]
      exact look_d k t
/-- a dict that is read, its keys texts and ints -/
theorem asC_rp {d : D} {v : V} {ks xs : List D} (r : RelSt F A H st) (p : Rp F A H d v) (h : asC st d = some (ks, xs)) : ∃ a, v = .ref a ∧ Ob F A H (.dct ks xs) a := by
  cases p with
  | dct o hp =>
    simp only [asC, Option.some.injEq, Prod.mk.injEq] at h
    obtain ⟨rfl, rfl⟩ := h
    exact ⟨_, rfl, o⟩
  | ref e =>
    rename_i n a
    simp only [asC] at h
    split at h
    · rename_i ks' xs' hy
      cases h
      obtain ⟨a', ha, ob⟩ := r.2.2 n _ hy
      rw [e] at ha; cases ha
      exact ⟨_, rfl, ob⟩
    · cases h
  | _ => simp [asC] at h

/-! ### == of dicts -/
def hitP (K : PySem.W.Frag) (kws : List (Key × PyData)) : List (Key × PyData) → Bool
    | [] => true
    | (k, v) :: r => match (kws.find? fun p => decide (p.1 = k)).map (·.2) with
      | none => false
      | some y => PyData.eqv v y && hitP K kws r
/-- a dict's entries as data -/
def KD (K : PySem.W.Frag) (H : Hp) (kvs : List (Key × V)) (kps : List (Key × PyData)) : Prop := Paired (fun (p : Key × V) (q : Key × PyData) => p.1 = q.1 ∧ Dp K H p.2 q.2 ∧ q.2.plain = true ∧ q.2.depth ≤ 64) kvs kps
def rDD (K : PySem.W.Frag) (neg : Bool) : R2 := fun x y H Q => ∃ (a b : Addr) (kvs kws : List (Key × V)) (kps kqs : List (Key × PyData)) (r : Bool), x = .ref a ∧ y = .ref b ∧ H a = some (.dK kvs) ∧ H b = some (.dK kws) ∧ KD K H kvs kps ∧ KD K H kws kqs ∧
  hitP K kqs kps = r ∧ Q (.bl (if neg then !(kvs.length == kws.length && r) else (kvs.length == kws.length && r))) H
theorem KD.find {K : PySem.W.Frag} {H : Hp} : ∀ {kvs : List (Key × V)} {kps : List (Key × PyData)} (k : Key), KD K H kvs kps →
    ((kps.find? fun p => decide (p.1 = k)).map (·.2) = none ∧ valV kvs k = none) ∨ ∃ d v, (kps.find? fun p => decide (p.1 = k)).map (·.2) = some d ∧ valV kvs k = some v ∧ Dp K H v d ∧ d.plain = true ∧ d.depth ≤ 64
  | [], [], k, .nil => .inl ⟨rfl, rfl⟩
  | (j, v) :: kvs, (j', d) :: kps, k, .cons h t => by
    obtain ⟨e, hd, hp, hl⟩ := h
    have e : j = j' := e
    subst e
    by_cases c : j = k
    · rw [valV_pos (p := (j, v)) c, List.find?_cons, decide_eq_true c]
      exact .inr ⟨d, v, rfl, rfl, hd, hp, hl⟩
    · rw [valV_neg (p := (j, v)) c, List.find?_cons, decide_eq_false c]
      exact KD.find k t
theorem hits_of {X : Cx} {pins : List (Addr × Obj)} {σ : L2.St} {H : Hp} {s : Shared} (I : Inv X pins σ H s) {A : Around} (hu : A.units + 66 < cLine) {kws : List (Key × V)} {kqs : List (Key × PyData)} {vb : List (Key × Value)} (rel : KV kws vb) (dq : KD X.K H kws kqs) : ∀ {kvs : List (Key × V)} {kps : List (Key × PyData)} {va : List (Key × Value)}, KV kvs va → KD X.K H kvs kps →
    PySem.W.KeqHits A s vb va (hitP X.K kqs kps)
  | [], [], [], .nil, _ => .nil
  | (k, v) :: kvs, (k2, p) :: kps, (k', u) :: va, .cons h t, .cons f g => by
    obtain ⟨e, ru⟩ := h
    have e : k = k' := e
    subst e
    obtain ⟨e, hd, hp, hl⟩ := f
    have e : k = k2 := e
    subst e
    have rr := rel.val k
    unfold hitP
    rcases KD.find k dq with ⟨h1, h2⟩ | ⟨d, w, h1, h2, h3, h4, h5⟩
    · rw [h1]
      rw [h2] at rr
      exact .miss rr.none_of
    · rw [h1]
      rw [h2] at rr
      obtain ⟨w', hw, rw'⟩ := RelO.some_of rr
      obtain ⟨as, r1⟩ := Dp.reads I p v u hd ru
      obtain ⟨bs, r2⟩ := Dp.reads I d w w' h3 rw'
      exact .hit hw (SeqAt.eqAt_plain p d A s u w' as bs r1 r2 hp h4 (by have : min p.depth d.depth ≤ 64 := Nat.le_trans (Nat.min_le_left _ _) hl; omega)) (hits_of I hu rel dq t g)
theorem op_ddE {X : Cx} (hu : X.A.units + 68 < cLine) : OpR X (compareOp .Eq) (rDD X.K false) := by
  intro pins s σ H x y v u Q I rx ry h
  obtain ⟨a, b, kvs, kws, kps, kqs, r, rfl, rfl, ha, hb, fa, fb, hr, q⟩ := h
  cases rx
  cases ry
  obtain ⟨_, sa, va, ra, da⟩ := dk_of I.hok ha
  obtain ⟨_, sb, vb, rb, db⟩ := dk_of I.hok hb
  refine PySem.W.keq_eq sa sb da db (by omega) (r := r) (fun _ => by rw [← hr]; exact hits_of I (show X.A.units + 1 + 66 < cLine by omega) rb fb ra fa) ?_
  rw [← ra.length, ← rb.length]
  exact ⟨.bl _, H, I, rfl, q⟩
theorem op_ddN {X : Cx} (hu : X.A.units + 68 < cLine) : OpR X (compareOp .NotEq) (rDD X.K true) := by
  intro pins s σ H x y v u Q I rx ry h
  obtain ⟨a, b, kvs, kws, kps, kqs, r, rfl, rfl, ha, hb, fa, fb, hr, q⟩ := h
  cases rx
  cases ry
  obtain ⟨_, sa, va, ra, da⟩ := dk_of I.hok ha
  obtain ⟨_, sb, vb, rb, db⟩ := dk_of I.hok hb
  refine PySem.W.keq_ne sa sb da db (by omega) (r := r) (fun _ => by rw [← hr]; exact hits_of I (show X.A.units + 1 + 66 < cLine by omega) rb fb ra fa) ?_
  rw [← ra.length, ← rb.length]
  exact ⟨.bl _, H, I, rfl, q⟩
end
end Mini
end
section
/-! Comparisons, tests, displays, items. -/
namespace Mini
open PySem L2 PySem.Spec PyProof.Rows
section
variable {F : Fx} {G : Sg} {u : SuiT} {W : WX} {A A0 : List Addr} {H H0 : Hp} {st : Sto} {X : Cx}
/-- the plain comparisons -/
def rC (K : PySem.W.Frag) : COp → R2
  | .eq => fun x y H Q => (rEqX K false x y H Q ∨ rLD K false x y H Q) ∨ rDD K false x y H Q
  | .ne => fun x y H Q => (rEqX K true x y H Q ∨ rLD K true x y H Q) ∨ rDD K true x y H Q
  | .lt => rI0 fun i j => .bl (decide (i < j))
  | .le => rI0 fun i j => .bl (decide (i ≤ j))
  | .gt => rI0 fun i j => .bl (decide (j < i))
  | .ge => rI0 fun i j => .bl (decide (j ≤ i))
  | .is_ => fun x y H Q => y = .non ∧ Q (.bl (decide (x = .non))) H
  | .isn => fun x y H Q => y = .non ∧ Q (.bl (!decide (x = .non))) H
  | .in_ => fun x y H Q => rInX K false x y H Q ∨ rInD0 false x y H Q
  | .nin => fun x y H Q => rInX K true x y H Q ∨ rInD0 true x y H Q
theorem op_c (hu : X.A.units + 68 < cLine) (op : CmpOp) : OpR X (compareOp op) (rC X.K (copOf op)) := by
  have h66 : X.A.units + 66 < cLine := by omega
  cases op
  · exact ((op_eqX h66).or (op_ldE h66)).or (op_ddE hu)
  · exact ((op_neX h66).or (op_ldN h66)).or (op_ddN hu)
  · exact op_lt
  · exact op_le
  · exact op_gt
  · exact op_ge
  · exact op_isN
  · exact op_notN
  · exact (op_inX h66).or (op_inD0 h66)
  · exact (op_ninX h66).or (op_ninD0 h66)
theorem isNone_rp {d : D} {v : V} (p : Rp F A H d v) : isNone d = decide (v = .non) := by
  cases p <;> simp [isNone]
theorem eq_fin {x y : D} {xv yv : V} {b : Bool} {K' : VK} {neg : Bool} (r : RelSt F A H st) (px : Rp F A H x xv) (py : Rp F A H y yv) (e : eqP st x y = some b) (h : K' (.bl (if neg then !b else b)) H) : rEqX F.K neg xv yv H K' := by
  unfold eqP at e
  split at e
  · rename_i a c ha hc
    split at e
    · rename_i hs
      cases e
      simp only [shal, Bool.and_eq_true, decide_eq_true_eq] at hs
      have p1 : a.plain = true := plain_of ha
      have p2 : c.plain = true := plain_of hc
      exact ⟨a, c, dp_drf r px ha, dp_drf r py hc, p1, p2, hs.1, h⟩
    · cases e
  · cases e
theorem ob_dct {ks xs : List D} {a : Addr} (hl : ks.all leafK = true) (o : Ob F A H (.dct ks xs) a) : ∃ kvs, H a = some (.dK kvs) ∧ ks = kvs.map (fun q => dKey q.1) ∧ Rps F A H xs (kvs.map (·.2)) := by
  cases o with
  | dctK e1 e2 q => exact ⟨_, e1, e2, q⟩
  | dctT e1 e0 e2 e3 q q2 q3 =>
    rename_i es us
    cases ks with
    | nil =>
      simp only [nksOf, Option.some.injEq] at e2
      cases es with
      | nil => exact absurd rfl e0
      | cons a b => simp at e2
    | cons a b =>
      simp only [List.all_cons, Bool.and_eq_true] at hl e3
      obtain ⟨j, rfl⟩ := leaf_key hl.1
      rw [tupK_dKey] at e3
      exact absurd e3.1 (by simp)
theorem look_mem : ∀ {ks xs : List D} {j d : D}, lookD ks xs j = some d → d ∈ xs
  | [], _, _, _, h => by simp [lookD] at h
  | _ :: _, [], _, _, h => by simp [lookD] at h
  | k :: ks, x :: xs, j, d, h => by
    simp only [lookD] at h
    split at h
    · cases h; exact List.mem_cons_self
    · exact List.mem_cons_of_mem _ (look_mem h)
theorem kd_of : ∀ {kvs : List (Key × V)} {xs : List D}, xs.all datB = true → Rps F A H xs (kvs.map (·.2)) → ∃ kps : List (Key × PyData), KD F.K H kvs kps ∧ kps.map (·.1) = kvs.map (·.1) ∧ xs.map toPD = kps.map fun q => some q.2
  | [], _, _, .nil => ⟨[], .nil, rfl, rfl⟩
  | (k, v) :: kvs, x :: xs, h, .cons p t => by
    simp only [List.all_cons, Bool.and_eq_true] at h
    obtain ⟨kps, h1, h2, h3⟩ := kd_of h.2 t
    have hd := h.1
    unfold datB at hd
    split at hd
    · rename_i d e
      simp only [shal, decide_eq_true_eq] at hd
      exact ⟨(k, d) :: kps, .cons ⟨rfl, dp_of p e, plain_of e, hd⟩ h1, by rw [List.map_cons, List.map_cons, h2], by rw [List.map_cons, List.map_cons, e, h3]⟩
    · cases hd
theorem look_kd : ∀ {kqs : List (Key × PyData)} {ys : List D} (k : Key), ys.map toPD = (kqs.map fun q => some q.2) →
    (lookD (kqs.map fun q => dKey q.1) ys (dKey k) = none ∧ (kqs.find? fun p => decide (p.1 = k)).map (·.2) = none) ∨ ∃ d p, lookD (kqs.map fun q => dKey q.1) ys (dKey k) = some d ∧ (kqs.find? fun p => decide (p.1 = k)).map (·.2) = some p ∧ toPD d = some p
  | [], [], k, _ => .inl ⟨rfl, rfl⟩
  | (j, p) :: kqs, y :: ys, k, h => by
    simp only [List.map_cons, List.cons.injEq] at h
    simp only [List.map_cons, lookD, keyB_d]
    by_cases c : j = k
    · rw [if_pos (decide_eq_true c), List.find?_cons, decide_eq_true c]
      exact .inr ⟨y, p, rfl, rfl, h.1⟩
    · rw [if_neg (by simp [c]), List.find?_cons, decide_eq_false c]
      exact look_kd k h.2
theorem hit_eq {kqs : List (Key × PyData)} {ys : List D} (ey : ys.map toPD = kqs.map fun q => some q.2) : ∀ {kps : List (Key × PyData)} {xs : List D}, (xs.map toPD = kps.map fun q => some q.2) →
    hitP F.K kqs kps = eqKD (kqs.map fun q => dKey q.1) ys (kps.map fun q => dKey q.1) xs
  | [], [], _ => rfl
  | (k, p) :: kps, x :: xs, h => by
    simp only [List.map_cons, List.cons.injEq] at h
    simp only [List.map_cons, eqKD, hitP]
    rcases look_kd k ey with ⟨h1, h2⟩ | ⟨d, q, h1, h2, h3⟩
    · rw [h1, h2]
    · rw [h1, h2]
      dsimp only
      rw [hit_eq ey h.2]
      unfold keyB
      rw [h.1, h3]
theorem map_fst {kvs : List (Key × V)} {kps : List (Key × PyData)} (h : kps.map (·.1) = kvs.map (·.1)) : (kvs.map fun q => dKey q.1) = kps.map fun q => dKey q.1 := by
  have := congrArg (List.map dKey) h
  rw [List.map_map, List.map_map] at this
  exact this.symm
theorem dd_fin {x y : D} {xv yv : V} {b : Bool} {K' : VK} {neg : Bool} (r : RelSt F A H st) (px : Rp F A H x xv) (py : Rp F A H y yv) (e : eqD st x y = some b) (h : K' (.bl (if neg then !b else b)) H) : (rEqX F.K neg xv yv H K' ∨ rLD F.K neg xv yv H K') ∨ rDD F.K neg xv yv H K' := by
  unfold eqD at e
  split at e
  · rename_i ks xs ks' xs' ex ey
    split at e
    · rename_i hc
      cases e
      simp only [Bool.and_eq_true] at hc
      obtain ⟨⟨⟨h1, h2⟩, h3⟩, h4⟩ := hc
      obtain ⟨a, rfl, oa⟩ := asC_rp r px ex
      obtain ⟨c, rfl, oc⟩ := asC_rp r py ey
      obtain ⟨kvs, e1, e2, q⟩ := ob_dct h1 oa
      obtain ⟨kws, e3, e4, q'⟩ := ob_dct h2 oc
      obtain ⟨kps, i1, i2, i3⟩ := kd_of h3 q
      obtain ⟨kqs, j1, j2, j3⟩ := kd_of h4 q'
      refine .inr ⟨a, c, kvs, kws, kps, kqs, _, rfl, rfl, e1, e3, i1, j1, rfl, ?_⟩
      rw [hit_eq j3 i3, ← map_fst i2, ← map_fst j2, ← e2, ← e4]
      have l1 : ks.length = kvs.length := by rw [e2, List.length_map]
      have l2 : ks'.length = kws.length := by rw [e4, List.length_map]
      rw [← l1, ← l2]
      exact h
    · cases e
  · rename_i ks _ _ ey
    split at e
    · rename_i hc
      cases e
      simp only [Bool.and_eq_true] at hc
      obtain ⟨zs, ez⟩ := Option.isSome_iff_exists.mp hc.1
      obtain ⟨a, vs, rfl, ha, _⟩ := asL_rp r px ez
      obtain ⟨c, rfl, oc⟩ := asC_rp r py ey
      obtain ⟨kws, e3, _, _⟩ := ob_dct hc.2 oc
      refine .inl (.inr ⟨a, c, vs, kws, rfl, rfl, SqL.of ha, e3, ?_⟩)
      cases neg <;> exact h
    · exact .inl (.inl (eq_fin r px py e h))
  · exact .inl (.inl (eq_fin r px py e h))
theorem inX_fin {x y : D} {xv yv : V} {xs : List D} {b : Bool} {K' : VK} {neg : Bool} (r : RelSt F A H st) (px : Rp F A H x xv) (py : Rp F A H y yv) (ey : asS st y = some xs) (e : inP xs (drf st x) = some b) (h : K' (.bl (if neg then !b else b)) H) : rInX F.K neg xv yv H K' := by
  unfold inP at e
  split at e
  · rename_i ds d hds hd
    split at e
    · rename_i hs
      cases e
      simp only [shal, Bool.and_eq_true, decide_eq_true_eq] at hs
      refine ⟨d, ds, dp_drf r px hd, ?_, plain_of hd, plains_of hds, hs.2, h⟩
      cases y with
      | tup ys =>
        simp only [asS, Option.some.injEq] at ey
        subst ey
        cases py with | tup t q => exact .inr (.tup t.sq (dps_of q hds))
      | _ =>
        simp only [asS] at ey
        obtain ⟨a, vs, rfl, ha, q⟩ := asL_rp r py ey
        exact .inl (.lst (SqL.of ha) (dps_of q hds))
    · cases e
  · cases e
theorem inD_fin {x y : D} {xv yv : V} {ks vs : List D} {K' : VK} {neg : Bool} (r : RelSt F A H st) (px : Rp F A H x xv) (py : Rp F A H y yv) (ey : asC st y = some (ks, vs)) (hk : keyOk ks x = true)
    (h : K' (.bl (if neg then !(lookD ks vs x).isSome else (lookD ks vs x).isSome)) H) : rInD0 neg xv yv H K' := by
  obtain ⟨a, rfl, ob⟩ := asC_rp r py ey
  simp only [keyOk, Bool.and_eq_true] at hk
  obtain ⟨k, rfl⟩ := leaf_key hk.1
  cases rp_key px
  cases ob with
  | dctK e1 e2 q =>
    subst e2
    refine ⟨a, _, rfl, .k e1, ?_⟩
    rcases look_d k q with ⟨h1, h2⟩ | ⟨d, v, h1, h2, _⟩
    · rw [h1] at h; rw [h2]; exact h
    · rw [h1] at h; rw [h2]; exact h
  | dctT e1 e0 e2 e3 q q2 q3 =>
    rename_i es us
    cases ks with
    | nil =>
      simp only [nksOf, Option.some.injEq] at e2
      cases es with
      | nil => exact absurd rfl e0
      | cons a b => simp at e2
    | cons a b =>
      have h1 := hk.2
      simp only [List.all_cons, Bool.and_eq_true] at h1 e3
      obtain ⟨j, rfl⟩ := leaf_key h1.1
      rw [tupK_dKey] at e3
      exact absurd e3.1 (by simp)
theorem cmp_fin {op : COp} {x y : D} {xv yv : V} {b : Bool} {K' : VK} (r : RelSt F A H st) (px : Rp F A H x xv) (py : Rp F A H y yv) (e : cmpD st op x y = some b) (h : K' (.bl b) H) : rC F.K op xv yv H K' := by
  cases op <;> simp only [cmpD] at e
  · exact dd_fin (neg := false) r px py e h
  · cases q : eqD st x y with
    | none => rw [q] at e; cases e
    | some c => rw [q] at e; cases e; exact dd_fin (neg := true) r px py q h
  · split at e
    · cases e; cases px; cases py; exact ⟨_, _, rfl, rfl, h⟩
    · cases e
  · split at e
    · cases e; cases px; cases py; exact ⟨_, _, rfl, rfl, h⟩
    · cases e
  · split at e
    · cases e; cases px; cases py; exact ⟨_, _, rfl, rfl, h⟩
    · cases e
  · split at e
    · cases e; cases px; cases py; exact ⟨_, _, rfl, rfl, h⟩
    · cases e
  · split at e
    · cases e; cases py; exact ⟨rfl, by rw [← isNone_rp px]; exact h⟩
    · cases e
  · split at e
    · cases e; cases py; exact ⟨rfl, by rw [← isNone_rp px]; exact h⟩
    · cases e
  · split at e
    · rename_i xs ey
      exact .inl (inX_fin r px py ey e h)
    · rename_i ks vs _ ey
      split at e
      · rename_i hk
        cases e
        exact .inr (inD_fin r px py ey hk h)
      · cases e
    · cases e
  · split at e
    · rename_i xs ey
      cases q : inP xs (drf st x) with
      | none => rw [q] at e; cases e
      | some c => rw [q] at e; cases e; exact .inl (inX_fin r px py ey q h)
    · rename_i ks vs _ ey
      split at e
      · rename_i hk
        cases e
        exact .inr (inD_fin r px py ey hk h)
      · cases e
    · cases e

/-! ### readings of tests -/
theorem one_T {a : CE} {σ : L2.St} {env : Env} {Q1 : QD} {X1 : XP} {R : Bool → Hp → Prop} (rel : Rel F u A H env st σ) (h : wpE G a env st Q1 X1)
    (hx : ∀ C f x s, X1 C f x s → XLink F W σ A H C f x s) (fin : ∀ d s, Q1 d s → ∃ b, d = .bl b ∧ ∀ A' H', Stp A H A' H' → RelSt F A' H' s → R b H') : tT F G u W a σ H R :=
  ⟨A, env, st, rel, wpE_mono a env st fin hx h⟩
theorem tT_tE {a : CE} {σ : L2.St} {H : Hp} {Q : Bool → Hp → Prop} (h : tT F G u W a σ H Q) : tTest (tE F G u W a) σ H Q := by
  obtain ⟨A, env, st, rel, h⟩ := h
  refine tE_one rel h (fun _ _ _ _ z => z) fun d s A' H' v t r p ⟨b, e, q⟩ => ?_
  subst e
  cases p
  exact ⟨b, rfl, q A' H' t r⟩
/-- any expression as a test -/
theorem snd_test {e : Expr} {a : CE} (h : PE X e (tE F G u W a)) (he : ∀ whole, isTrue e X.env whole = (do let v ← whole; standAt e.pos; holding [v] (truthy v))) : PT X e (tT F G u W a) :=
  ptImp (pt_val h he) fun σ H Q q => tT_tE q
theorem snd_cmpE (hu : X.A.units + 68 < cLine) (hK : X.K = F.K) {op : CmpOp} {a b : Expr} {a' b' : CE} {pos : Pos} (ha : PE X a (tE F G u W a')) (hb : PE X b (tE F G u W b')) (hm : behindInMarks op b = false) {t : TE}
    (hr : ∀ σ H Q, t σ H Q → tOp (rC F.K (copOf op)) (tE F G u W a') (tE F G u W b') σ H Q) : PE X (.Compare a [op] [b] pos) t :=
  peImp (pe_cmpR (op_c hu op) ha hb hm) fun σ H Q q => hK ▸ hr σ H Q q
theorem chn_fin {o1 o2 : CmpOp} {a b c : CE} {σ : L2.St} {H : Hp} {Q : VK} (hu : True) (h : tE F G u W (.chn (copOf o1) (copOf o2) a b c) σ H Q) :
    tChain (rC F.K (copOf o1)) (rC F.K (copOf o2)) (tE F G u W a) (tE F G u W b) (tE F G u W c) σ H Q := by
  obtain ⟨A, env, st, rel, h⟩ := h
  unfold wpE at h
  refine tE_two rel h (fun _ _ _ _ z => z) fun x y s A2 H2 xv yv t2 r2 px py ⟨k, e, q⟩ => cmp_fin r2 px py e ?_
  refine ⟨k, rfl, ?_⟩
  cases k with
  | false => exact q A2 H2 _ t2 r2 (.bl false)
  | true =>
    refine tE_one (rel.stp t2 r2) q (fun C f z s' q => q.stp r2 t2) fun z s3 A3 H3 zv t3 r3 pz ⟨k2, e2, q2⟩ => cmp_fin r3 (py.stp t3) pz e2 ?_
    exact q2 A3 H3 _ (t2.trans r2 t3) r3 (.bl k2)
end
end Mini
end
section
/-! What the written part must say of the program; what may be called. -/
namespace Mini
open PySem L2

/-- run, given the arguments' values, does as S says -/
def Callable (F : Fx) (mg : Str → Option Value) (base : Heap) (lvl : Nat) (run : List Value → Sem Value) (S : Spec) : Prop :=
  ∀ (X : Cx) (W : WX) (A0 : Around), X.prog = F.prog → X.w = F.w → X.K = F.K → X.mg = mg → X.base = base → Room lvl A0 → A0.frames = X.A.frames → Takes X W →
    ∀ (ps : List Addr) (pins : List (Addr × Obj)) (s : Shared) (σ : L2.St) (H : Hp) (A : List Addr) (ds : List D) (st : Sto) (us : List Value) (vs : List V) (Q : VK), Inv X pins σ H s → RelSt (F.pv ps) A H st → Rps (F.pv ps) A H ds vs → Vals vs us →
      Clo S ds st (QLink (F.pv ps) A H Q) (XLink (F.pv ps) W σ A H) → wpAny (model X.prog X.w) A0 (run us) (EP X pins σ Q) X.xe s
/-- a spec as a promise -/
def liftSp (F : Fx) (n : Nat) (S : Spec) : Sp := fun vs H Q E => vs.length = n ∧ ∃ ps A ds st, RelSt (F.pv ps) A H st ∧ Rps (F.pv ps) A H ds vs ∧
  Clo S ds st (QLink (F.pv ps) A H Q) (fun C fs xs s => ∀ A' H' cls dd, Stp A H A' H' → RelSt (F.pv ps) A' H' s → ExcR (F.pv ps) A' H' C fs xs cls dd → E cls dd H')
theorem callable_of {F : Fx} {mg : Str → Option Value} {base : Heap} {k : Nat} {f : Addr} {fd : FuncData} {ps : List Str} {S : Spec} (Fn : FnOk F.prog F.w F.K mg base (L2.CX F.prog F.w) k f fd ps (liftSp F ps.length S)) (hb : Binds F.K fd ps [])
    (hS : ∀ ds st Q X, S ds st Q X → ds.length = ps.length) : Callable F mg base k (fun us => call (.ref f) us) S := by
  intro X W A0 h1 h2 h3 h4 h5 hr hfr tk pv pins s σ H A ds st us vs Q I r rv ru hw
  have hl : ds.length = ps.length := by
    obtain ⟨_, _, h, _⟩ := hw
    exact hS _ _ _ _ h
  have Fn' : FnOk X.prog X.w X.K X.mg X.base (L2.CX X.prog X.w) k f fd ps (liftSp F ps.length S) := by rw [h1, h2, h3, h4, h5]; exact Fn
  have hb' : Binds X.K fd ps [] := by rw [h3]; exact hb
  have hsp : liftSp F ps.length S vs H Q (WE W σ) := ⟨by rw [← rv.length]; exact hl, pv, A, ds, st, r, rv, hw⟩
  have hlu : us.length = ps.length := by rw [← ru.length]; exact hsp.1
  have b := hb' s us I.kIn (by rw [List.append_nil]; exact hlu)
  rw [List.append_nil] at b
  have e0 : Env0 X.prog X.w X.K X.mg X.base A0 X.stack s H := by
    have e := I.env0
    exact ⟨by rw [hfr]; exact e.frames, e.mod, e.bs, e.bsz, e.funs, e.frf, e.hok, e.bare⟩
  refine wpAny_call (codeAny_mono (Fn'.run A0 X.stack s H ⟨us, []⟩ us vs Q (WE W σ) hr e0 b ru hsp) fun r s' hq => ?_)
  cases r with
  | error e => exact passAt tk σ pins H s e s' I hq
  | ok fl =>
    cases fl with
    | ret u => exact I.after hq
    | next => exact False.elim hq
    | brk => exact False.elim hq
    | cont => exact False.elim hq
/-- a class as isinstance asks it -/
structure IsC (K : PySem.W.Frag) (C : Addr) : Prop where
  ha : PySem.W.findIn K (.ref C) "__class__" = some (some (.builtin "object.__class__"))
  hm : PySem.W.mroIn K C (.type "object") = some true
/-- C(..), an exception's class, called: a new exception, its fields in its own dict -/
def MkOk (F : Fx) (mg : Str → Option Value) (base : Heap) (C : Str) (efs : List Str) : Prop :=
  ∀ (X : Cx), X.prog = F.prog → X.w = F.w → X.K = F.K → X.mg = mg → X.base = base → Room 2 X.A →
    ∀ (pins : List (Addr × Obj)) (s : Shared) (σ : L2.St) (H : Hp) (us : List Value) (vs : List V) (Q : XK), Inv X pins σ H s → Vals vs us → vs.length = efs.length → (∀ v ∈ vs, v = .non ∨ ∃ i : Int, v = .int i ∧ -(10 ^ 9) < i ∧ i < 10 ^ 9) → (∀ v r, vs = v :: r → v = .non ∨ ∃ i : Int, v = .int i ∧ -(10 ^ 9) < i ∧ i < 10 ^ 9) →
      (efs = [] → Q (.ref (F.cad C)) none H) → (efs ≠ [] → ∀ d fvs, H d = none → (∀ g, fvs.lookup g = (efs.zip vs).lookup g) → Q (.ref (F.cad C)) (some d) (upd H d (.xd fvs))) →
      wpAny (model X.prog X.w) X.A (call (.ref (F.cad C)) us) (MkP X pins σ Q) X.xe s
structure Facts (P : PInfo) (F : Fx) (G : Sg) (mg : Str → Option Value) (base : Heap) (L : Nat) : Prop where
  free : ∀ x, x ∈ (["len", "list", "tuple", "int", "str", "all", "any", "min", "max", "dict", "sorted", "isinstance", "range", "enumerate", "zip", "bool", "ValueError"] : List Str) → mg x = none
  consts : ∀ x d, P.consts.lookup x = some d → ∃ u v, mg x = some u ∧ RelV v u ∧ ∀ ps A H, Rp (F.pv ps) A H d v
  clss : P.clss = F.clss
  excs : F.excs = P.excs.map (·.1)
  exs : ∀ C, C ∈ F.excs → mg C = some (.ref (F.cad C)) ∧ ExcC F.K (F.cad C) ∧ XfC F.K (F.cad C) ∧ ∀ f, f ∈ P.xflds → PySem.W.findIn F.K (.ref (F.cad C)) f = some none
  exsub : ∀ C D, C ∈ F.excs → D ∈ F.excs → PySem.W.kitOne F.K (.ref (F.cad C)) (.ref (F.cad D)) = some (G.sub C D)
  exm : ∀ C D, C ∈ F.excs → D ∈ F.excs → PySem.W.exmOne F.K (.ref (F.cad C)) (.ref (F.cad D)) = some (G.sub C D)
  mks : ∀ C k, P.excs.lookup C = some k → k < 50 → 2 ≤ L → PySem.W.keepIn F.K (.ref (F.cad C)) = true ∧ (G.efs C).length = k ∧ (G.efs C).Nodup ∧ MkOk F mg base C (G.efs C)
  exval : ∀ C, C ∈ F.excs → PySem.W.kitOne F.K (.ref (F.cad C)) (.type "ValueError") = some true ∧ G.sub C "ValueError" = true
  cls : ∀ C, C ∈ F.clss → mg C = some (.ref (F.cad C)) ∧ Cls F.K (F.cad C) ∧ IsC F.K (F.cad C) ∧ PySem.W.makesIn F.K (F.cad C) = true
  cnl : PySem.W.specialIn F.K (.builtin "object.__class__") "__get__" = some (some (.builtin "getset_descriptor.__get__")) ∧ PySem.W.takesIn F.K (.builtin "object.__class__") = some true
  sub : ∀ C D, C ∈ F.clss → D ∈ F.clss → PySem.W.kitOne F.K (.ref (F.cad C)) (.ref (F.cad D)) = some (G.sub C D)
  tyc : ∀ D t, D ∈ F.clss → t ∈ (["NoneType", "bool", "int", "str", "tuple", "list", "dict"] : List String) → PySem.W.kitOne F.K (.type t) (.ref (F.cad D)) = some false
  cty : ∀ C t, C ∈ F.clss → t ∈ (["bool", "int", "str", "tuple", "list"] : List String) → PySem.W.kitOne F.K (.ref (F.cad C)) (.type t) = some false
  noat : ∀ C f, C ∈ F.clss → f ∈ P.flds → NoAttr F.K (F.cad C) f
  funs : ∀ f fi, P.funs.lookup f = some fi → fi.lvl ≤ L → ∃ fa, mg f = some (.ref fa) ∧ PySem.W.keepIn F.K (.ref fa) = true ∧
    (match fi.kw with
      | none => Callable F mg base fi.lvl (fun us => call (.ref fa) us) (G.Gm f)
      | some (k, d) => Callable F mg base fi.lvl (fun us => call (.ref fa) us.dropLast [(k, us.getLastD .none)]) (G.Gm f) ∧ Callable F mg base fi.lvl (fun us => call (.ref fa) us) (fun ds => G.Gm f (ds ++ [d])))
  makes : ∀ C fi, P.makes.lookup C = some fi → fi.lvl ≤ L → mg C = some (.ref (F.cad C)) ∧ PySem.W.keepIn F.K (.ref (F.cad C)) = true ∧ Callable F mg base fi.lvl (fun us => call (.ref (F.cad C)) us) (G.Gm C)
  /-- a getter: of whatever class the object is; q its full name -/
  props : ∀ f q l, P.props.lookup f = some (q, l) → l ≤ L → ∃ C, C ∈ F.clss ∧ (∀ ds st Q X, G.Gm q ds st Q X → ∃ d fs xs, ds = [d] ∧ asI st d = some (C, fs, xs)) ∧ ∃ p g, PropOf F.K (F.cad C) f p g ∧
    ∃ fd ps, Binds F.K fd ps [] ∧ FnOk F.prog F.w F.K mg base (L2.CX F.prog F.w) (l - 1) g fd ps (liftSp F 1 (G.Gm q)) ∧ ps.length = 1 ∧ 1 ≤ l
  meths : ∀ m C q fi, P.meths.lookup m = some (C, q, fi) → fi.lvl ≤ L → C ∈ F.clss ∧ ∃ g, Meth F.K (F.cad C) m g ∧ Callable F mg base fi.lvl (fun us => call (.ref g) us) (G.Gm q)
  eqs : ∀ C l, (C, l) ∈ P.eqs → l ≤ L → C ∈ F.clss ∧ 1 ≤ l ∧ ∃ g, PySem.W.findIn F.K (.ref (F.cad C)) "__eq__" = some (some (.ref g)) ∧ PySem.W.isFn F.K (.ref g) = true ∧
    PySem.W.findIn F.K (.ref (F.cad C)) "__ne__" = some (some (.builtin "object.__ne__")) ∧ Callable F mg base (l - 1) (fun us => call (.ref g) us) (G.Gm (C ++ ".__eq__"))
  nof : ∀ C D, C ∈ F.clss → D ∈ F.clss → PySem.W.notFirst F.K (F.cad C) (.ref (F.cad D)) = true
theorem Facts.pv {P : PInfo} {F : Fx} {G : Sg} {mg : Str → Option Value} {base : Heap} {L : Nat} (h : Facts P F G mg base L) (ps : List Addr) : Facts P (F.pv ps) G mg base L :=
  ⟨h.free, h.consts, h.clss, h.excs, h.exs, h.exsub, h.exm, h.mks, h.exval, h.cls, h.cnl, h.sub, h.tyc, h.cty, h.noat, h.funs, h.makes, h.props, h.meths, h.eqs, h.nof⟩
structure Good (P : PInfo) (F : Fx) (G : Sg) (cx : CTX) (X : Cx) (W : WX) (u : SuiT) : Prop where
  pr : X.prog = F.prog
  w : X.w = F.w
  K : X.K = F.K
  N : X.N = cx.N
  nd : X.N.Nodup
  sc : X.env.scope = cx.sc
  calm : cx.calm = true → X.calm = true
  fnd : cx.blk = false → ∀ x, X.fn x = true
  fnb : cx.blk = true → ∀ x, cx.fnl.lookup x = some .cell → X.fn x = true
  room : cx.calm = true → Room cx.lvl X.A
  units : X.A.units + 100 < cLine
  tk : Takes X W
  po : cx.blk = false → PassesOwn (model X.prog X.w) X.A X.env X.xe
  facts : Facts P F G X.mg X.base cx.lvl
  stk : cx.blk = false → X.stack = X.env :: X.outer ∧ X.env.frame = some X.env.locals
  sui : match cx.sui, u with
    | none, none => True
    | some (x, i), some (j, a, cls, dd) => i = j ∧ cx.N[i]? = some x ∧ cx.calm = false ∧ (Vis X.env.scope x ∧ (x == ("__debug__" : Str)) = false ∧ (x == ("__classdict__" : Str)) = false) ∧ ∃ (X0 : Cx) (oe : Obj) (pn : List (Addr × Obj)), X = X0.suite a ((a, oe) :: pn) ∧ Zc cls dd oe ∧ ∃ vs, oe.data = .fields vs
    | _, _ => False
section
variable {P : PInfo} {F : Fx} {G : Sg} {cx : CTX} {X : Cx} {W : WX} {u : SuiT}
theorem idx_at {N : List Str} {x : Str} {i : Nat} (h : N.idxOf? x = some i) : N[i]? = some x := by
  rw [List.idxOf?, List.findIdx?_eq_some_iff_getElem] at h
  obtain ⟨h1, h2, _⟩ := h
  rw [List.getElem?_eq_getElem h1]
  simpa using h2
theorem Good.glob (g : Good P F G cx X W u) {x : Str} (h : cx.glob x = true) : Gl X x ∧ (x == ("__debug__" : Str)) = false := by
  simp only [CTX.glob, Bool.and_eq_true, decide_eq_true_eq] at h
  refine ⟨?_, by simpa using h.2⟩
  show X.env.scope.names.lookup x = _
  rw [g.sc]
  exact h.1
theorem Good.slot (g : Good P F G cx X W u) {x : Str} {i : Nat} (h : cx.slot x = some i) : X.N[i]? = some x ∧ Vis X.env.scope x ∧ (x == ("__debug__" : Str)) = false ∧ (x == ("__classdict__" : Str)) = false := by
  unfold CTX.slot at h
  split at h
  · rename_i e
    obtain ⟨h1, h2⟩ := ifB_some.mp h
    simp only [Bool.and_eq_true, Bool.not_eq_true'] at h1
    exact ⟨by rw [g.N]; exact idx_at h2, by rw [g.sc]; exact .inl e, h1.1, h1.2⟩
  · rename_i e
    obtain ⟨h1, h2⟩ := ifB_some.mp h
    simp only [Bool.and_eq_true, Bool.not_eq_true'] at h1
    exact ⟨by rw [g.N]; exact idx_at h2, by rw [g.sc]; exact .inr (.inl e), h1.1, h1.2⟩
  · rename_i e
    obtain ⟨h1, h2⟩ := ifB_some.mp h
    simp only [Bool.and_eq_true, Bool.not_eq_true'] at h1
    exact ⟨by rw [g.N]; exact idx_at h2, by rw [g.sc]; exact .inr (.inr e), h1.1, h1.2⟩
  · cases h
theorem Good.tgt (g : Good P F G cx X W u) {x : Str} {i : Nat} (h : cx.tgt x = some i) : X.N[i]? = some x ∧ Loc X.env.scope x ∧ (X.fn x = true ∨ X.env.scope.names.lookup x = some .local) := by
  unfold CTX.tgt at h
  split at h
  · rename_i e
    exact ⟨by rw [g.N]; exact idx_at h, by rw [g.sc]; exact .inl e, .inr (by rw [g.sc]; exact e)⟩
  · rename_i e
    obtain ⟨h1, h2⟩ := ifB_some.mp h
    refine ⟨by rw [g.N]; exact idx_at h2, by rw [g.sc]; exact .inr e, .inl ?_⟩
    cases hb : cx.blk with
    | false => exact g.fnd hb x
    | true =>
      rw [hb] at h1
      simp only [Bool.not_true, Bool.false_or, decide_eq_true_eq] at h1
      exact g.fnb hb x h1
  · cases h
theorem Good.u66 (g : Good P F G cx X W u) : X.A.units + 68 < cLine := by have := g.units; omega
end
end Mini
end
section
/-! The readings of the parts; names, constants, operators, tests. -/
namespace Mini
open PySem L2
section
variable (F : Fx) (G : Sg) (u : SuiT) (W : WX)
def tO (c : CE) : TO := fun σ H Q => ∃ A env st, Rel F u A H env st σ ∧ wpE G c env st (fun d s => ∃ o, optI d = some o ∧ ∀ A' H', Stp A H A' H' → RelSt F A' H' s → Q o H') (XLink F W σ A H)
/-- steps; the things at ps may change -/
structure Stq (ps : List Addr) (A : List Addr) (H : Hp) (A' : List Addr) (H' : Hp) : Prop where
  ext : ∃ B, A' = A ++ B ∧ ∀ b ∈ B, H b = none
  keep : ∀ b o, b ∉ A → b ∉ ps → H b = some o → H' b = some o
/-- the iterator J walks xs, as long as dep holds -/
structure ItOk (J : It) (xs : List D) (dep : Sto → Prop) (A1 : List Addr) (H1 : Hp) : Prop where
  go : ∀ ps i A H s, (∀ b ∈ ps, b ∈ F.priv ∨ H1 b = none) → Stq ps A1 H1 A H → RelSt (F.pv ps) A H s → dep s → i < xs.length → J.go i H
  yld : ∀ ps i A H s v H', (∀ b ∈ ps, b ∈ F.priv ∨ H1 b = none) → Stq ps A1 H1 A H → RelSt (F.pv ps) A H s → dep s → i < xs.length → J.yld i H v H' → ∃ d, xs[i]? = some d ∧ Stp A H A H' ∧ RelSt (F.pv ps) A H' s ∧ Rp (F.pv ps) A H' d v
  stop : ∀ ps i A H s, (∀ b ∈ ps, b ∈ F.priv ∨ H1 b = none) → Stq ps A1 H1 A H → RelSt (F.pv ps) A H s → dep s → i = xs.length → J.stop i H
def tI (c : CI) : TI := fun σ H R => ∃ A env st, Rel F u A H env st σ ∧ wpI G c env st (fun xs dep s => ∀ A' H' J, Stp A H A' H' → RelSt F A' H' s → ItOk F J xs dep A' H' → R J H') (XLink F W σ A H)
/-- the slots but these stay -/
def Off (sl : List Nat) (σ σ' : L2.St) : Prop := σ'.length = σ.length ∧ ∀ j : Nat, j ∉ sl → σ'[j]? = σ[j]?
def tG (g : CG) : TG := fun v σ H Q => ∃ A env st d, Rel F u A H env st σ ∧ Rp F A H d v ∧ wpG G g d env st (fun e s => ∀ A' H' σ', Stp A H A' H' → Rel F u A' H' e s σ' → Off (slotsG g) σ σ' → Q σ' H') noX
def tGs (g : CGs) : TGs := fun vs σ H Q => ∃ A env st ds, Rel F u A H env st σ ∧ Rps F A H ds vs ∧ wpGs G g ds env st (fun e s => ∀ A' H' σ', Stp A H A' H' → Rel F u A' H' e s σ' → Off (slotsGs g) σ σ' → Q σ' H') noX
end
theorem Stp.toq {ps A A' : List Addr} {H H' : Hp} (s : Stp A H A' H') : Stq ps A H A' H' := ⟨s.ext, fun b o h _ => s.keep b o h⟩
theorem Stq.at {ps A A' : List Addr} {H H' : Hp} (s : Stq ps A H A' H') {n : Nat} {a : Addr} (h : A[n]? = some a) : A'[n]? = some a := by
  obtain ⟨B, e, _⟩ := s.ext
  rw [e, List.getElem?_append_left (List.getElem?_eq_some_iff.mp h).1]
  exact h
theorem Stq.out {ps A A' : List Addr} {H H' : Hp} (s : Stq ps A H A' H') {b : Addr} {o : HO} (hb : b ∉ A) (hp : b ∉ ps) (h : H b = some o) : b ∉ A' ∧ H' b = some o := by
  obtain ⟨B, e, hB⟩ := s.ext
  refine ⟨?_, s.keep b o hb hp h⟩
  rw [e]
  intro hm
  rcases List.mem_append.mp hm with hm | hm
  · exact hb hm
  · rw [hB b hm] at h; cases h
theorem Stq.step {F : Fx} {ps A A' A'' : List Addr} {H H' H'' : Hp} {st : Sto} (r : RelSt (F.pv ps) A' H' st) (s : Stq ps A H A' H') (t : Stp A' H' A'' H'') : Stq ps A H A'' H'' := by
  obtain ⟨B, e, hB⟩ := s.ext
  obtain ⟨B', e', hB'⟩ := t.ext
  refine ⟨⟨B ++ B', by rw [e', e, List.append_assoc], fun b hb => ?_⟩, fun b o hb hp h => ?_⟩
  · rcases List.mem_append.mp hb with hb | hb
    · exact hB b hb
    · cases q : H b with
      | none => rfl
      | some o =>
        by_cases hA : b ∈ A
        · obtain ⟨o', z⟩ := r.there (b := b) (by rw [e]; exact List.mem_append_left _ hA)
          rw [hB' b hb] at z; cases z
        · by_cases hp : b ∈ ps
          · obtain ⟨_, o', z⟩ := r.2.1.2 b hp
            rw [hB' b hb] at z; cases z
          · have := s.keep b o hA hp q
            rw [hB' b hb] at this; cases this
  · exact t.keep b o (s.out hb hp h).1 (s.out hb hp h).2
theorem Stq.pset {ps A A' : List Addr} {H H' : Hp} {p : Addr} {o : HO} (s : Stq ps A H A' H') (hp : p ∈ ps) : Stq ps A H A' (upd H' p o) :=
  ⟨s.ext, fun b u hb hq h => by
    rw [upd_ne (fun e => by subst e; exact hq hp)]
    exact s.keep b u hb hq h⟩
theorem poImp {X : Cx} {e : Option Expr} {t t' : TO} (h : PO X e t') (hi : ∀ σ H Q, t σ H Q → t' σ H Q) : PO X e t := ⟨fun pins s σ H Q I q => h.run pins s σ H Q I (hi _ _ _ q)⟩
theorem piImp {X : Cx} {tg e : Expr} {t t' : TI} (h : PI X tg e t') (hi : ∀ σ H Q, t σ H Q → t' σ H Q) : PI X tg e t := ⟨fun pins s σ H Q I q => h.run pins s σ H Q I (hi _ _ _ q)⟩
theorem pgImp {X : Cx} {e : Expr} {t t' : TG} (h : PG X e t') (hi : ∀ v σ H Q, t v σ H Q → t' v σ H Q) : PG X e t := ⟨fun pins s σ H v u Q I r q => h.run pins s σ H v u Q I r (hi _ _ _ _ q)⟩
theorem pgsImp {X : Cx} {e : List Expr} {t t' : TGs} (h : PGs X e t') (hi : ∀ v σ H Q, t v σ H Q → t' v σ H Q) : PGs X e t := ⟨fun pins s σ H v u Q I r q => h.run pins s σ H v u Q I r (hi _ _ _ _ q)⟩
theorem pgOr {X : Cx} {e : Expr} {t t' : TG} (h : PG X e t) (h' : PG X e t') : PG X e (fun v σ H Q => t v σ H Q ∨ t' v σ H Q) :=
  ⟨fun pins s σ H v u Q I r q => q.elim (h.run pins s σ H v u Q I r) (h'.run pins s σ H v u Q I r)⟩

structure SndAt (P : PInfo) (F : Fx) (G : Sg) (n : Nat) : Prop where
  e : ∀ {cx m e c X W u}, compE P n cx m e = some c → Good P F G cx X W u → PE X e (tE F G u W c)
  t : ∀ {cx e c X W u}, compT P n cx e = some c → Good P F G cx X W u → PT X e (tT F G u W c)
  o : ∀ {cx e c X W u}, compO P n cx e = some c → Good P F G cx X W u → PO X e (tO F G u W c)
  i : ∀ {cx tg e c X W u}, compI P n cx tg e = some c → Good P F G cx X W u → PI X tg e (tI F G u W c)
  g : ∀ {cx e c X W u}, compG P n cx e = some c → Good P F G cx X W u → PG X e (tG F G u c)
  gs : ∀ {cx e c X W u}, compGs P n cx e = some c → Good P F G cx X W u → PGs X e (tGs F G u c)

section
variable {P : PInfo} {F : Fx} {G : Sg} {cx : CTX} {X : Cx} {W : WX} {u : SuiT} {n : Nat}
theorem sE_name {m : Bool} {x : Str} {pos : Pos} {c : CE} (h : compE P (n + 1) cx m (.Name x pos) = some c) (g : Good P F G cx X W u) : PE X (.Name x pos) (tE F G u W c) := by
  simp only [compE] at h
  split at h
  · rename_i i hi
    obtain ⟨hs, h⟩ := ifB_some.mp h
    cases h
    obtain ⟨h1, h2, h3, h4⟩ := g.slot hi
    refine peImp (pe_var h1 h2 h3 h4) fun σ H Q ⟨A, env, st, rel, h⟩ => ?_
    unfold wpE at h
    obtain ⟨d, e, q⟩ := h
    rcases rel.re.2 i d e with hu | ⟨v, hv, r⟩
    · exfalso
      have gs := g.sui
      cases u with
      | none => exact hu
      | some p =>
        obtain ⟨j, a, cls, dd⟩ := p
        cases hc : cx.sui with
        | none => rw [hc] at gs; exact gs
        | some q =>
          obtain ⟨y, k⟩ := q
          rw [hc] at gs hs
          simp only [decide_eq_true_eq] at hs
          obtain ⟨e1, e2, _⟩ := gs
          have hij : j = i := hu
          rw [e1, hij] at e2
          rw [← g.N, h1] at e2
          exact hs (Option.some.inj e2)
    · exact ⟨v, hv, q A H v .refl rel.rs r⟩
  · obtain ⟨h1, h2⟩ := ifB_some.mp h
    obtain ⟨d, hd, rfl⟩ := Option.map_eq_some_iff.mp h2
    obtain ⟨k1, k2⟩ := g.glob h1
    obtain ⟨uv, v, e1, e2, e3⟩ := g.facts.consts x d hd
    refine peImp (pe_glob k1 e1 e2 k2) fun σ H Q ⟨A, env, st, rel, h⟩ => ?_
    unfold wpE at h
    exact h A H v .refl rel.rs (e3 F.priv A H)
theorem cst_rp {k : Const} {d : D} (h : cstOf k = some d) (A : List Addr) (H : Hp) : True := trivial
theorem sE_const {m : Bool} {k : Const} {j : Nat} {pos : Pos} {c : CE} (h : compE P (n + 1) cx m (.Constant k j pos) = some c) : PE X (.Constant k j pos) (tE F G u W c) := by
  simp only [compE] at h
  obtain ⟨d, hd, rfl⟩ := Option.map_eq_some_iff.mp h
  cases k <;> simp only [cstOf, Option.some.injEq, reduceCtorEq] at hd <;> subst hd
  · exact peImp pe_non fun σ H Q ⟨A, env, st, rel, h⟩ => by unfold wpE at h; exact h A H _ .refl rel.rs .non
  · exact peImp pe_bl fun σ H Q ⟨A, env, st, rel, h⟩ => by unfold wpE at h; exact h A H _ .refl rel.rs (.bl _)
  · exact peImp pe_int fun σ H Q ⟨A, env, st, rel, h⟩ => by unfold wpE at h; exact h A H _ .refl rel.rs (.int _)
  · exact peImp pe_str fun σ H Q ⟨A, env, st, rel, h⟩ => by unfold wpE at h; exact h A H _ .refl rel.rs (.str _)
theorem sE_bin (ih : SndAt P F G n) {m : Bool} {a b : Expr} {op : Operator} {pos : Pos} {c : CE} (h : compE P (n + 1) cx m (.BinOp a op b pos) = some c) (g : Good P F G cx X W u) : PE X (.BinOp a op b pos) (tE F G u W c) := by
  simp only [compE] at h
  obtain ⟨o, ho, h⟩ := Option.bind_eq_some_iff.mp h
  obtain ⟨a', ha, h⟩ := Option.bind_eq_some_iff.mp h
  obtain ⟨b', hb, rfl⟩ := Option.map_eq_some_iff.mp h
  exact snd_bin g.K ho (ih.e ha g) (ih.e hb g)
theorem sE_neg (ih : SndAt P F G n) {m : Bool} {a : Expr} {pos : Pos} {c : CE} (h : compE P (n + 1) cx m (.UnaryOp .USub a pos) = some c) (g : Good P F G cx X W u) : PE X (.UnaryOp .USub a pos) (tE F G u W c) := by
  simp only [compE] at h
  obtain ⟨a', ha, rfl⟩ := Option.map_eq_some_iff.mp h
  refine peImp (pe_un un_neg (ih.e ha g)) fun σ H Q ⟨A, env, st, rel, h⟩ => ?_
  unfold wpE at h
  refine tE_one rel h (fun _ _ _ _ z => z) fun d s A' H' v t r p ⟨i, e, q⟩ => ?_
  subst e
  cases p
  exact ⟨i, rfl, q A' H' _ t r (.int _)⟩
theorem sE_not (ih : SndAt P F G n) {m : Bool} {a : Expr} {pos : Pos} {c : CE} (h : compE P (n + 1) cx m (.UnaryOp .Not a pos) = some c) (g : Good P F G cx X W u) : PE X (.UnaryOp .Not a pos) (tE F G u W c) := by
  simp only [compE] at h
  obtain ⟨a', ha, rfl⟩ := Option.map_eq_some_iff.mp h
  refine peImp (pe_not (ih.e ha g)) fun σ H Q ⟨A, env, st, rel, h⟩ => ?_
  unfold wpE at h
  refine tE_one rel h (fun _ _ _ _ z => z) fun d s A' H' v t r p ⟨i, e, q⟩ => ?_
  subst e
  cases p
  exact ⟨i, rfl, q A' H' _ t r (.bl _)⟩
theorem sE_bool (ih : SndAt P F G n) {m : Bool} {vs : List Expr} {op : BoolOp} {pos : Pos} {c : CE} (h : compE P (n + 1) cx m (.BoolOp op vs pos) = some c) (g : Good P F G cx X W u) : PE X (.BoolOp op vs pos) (tE F G u W c) := by
  simp only [compE] at h
  split at h
  · cases h
  · exact pe_one (ih.e h g)
  · obtain ⟨a', ha, h⟩ := Option.bind_eq_some_iff.mp h
    obtain ⟨b', hb, rfl⟩ := Option.map_eq_some_iff.mp h
    cases op with
    | And =>
      refine peImp (pe_and (ih.e ha g) (ih.e hb g)) fun σ H Q ⟨A, env, st, rel, h⟩ => ?_
      unfold wpE at h
      refine tE_one rel h (fun _ _ _ _ z => z) fun d s A1 H1 v t r p ⟨k, e, q⟩ => ?_
      subst e
      cases p
      refine ⟨k, rfl, ?_⟩
      cases k with
      | false => exact q A1 H1 _ t r (.bl _)
      | true => exact tE_one (rel.stp t r) q (fun C f z s' q => q.stp r t) fun d s2 A2 H2 v t2 r2 p2 q => q A2 H2 v (t.trans r t2) r2 p2
    | Or =>
      refine peImp (pe_or (ih.e ha g) (ih.e hb g)) fun σ H Q ⟨A, env, st, rel, h⟩ => ?_
      unfold wpE at h
      refine tE_one rel h (fun _ _ _ _ z => z) fun d s A1 H1 v t r p ⟨k, e, q⟩ => ?_
      subst e
      cases p
      refine ⟨k, rfl, ?_⟩
      cases k with
      | true => exact q A1 H1 _ t r (.bl _)
      | false => exact tE_one (rel.stp t r) q (fun C f z s' q => q.stp r t) fun d s2 A2 H2 v t2 r2 p2 q => q A2 H2 v (t.trans r t2) r2 p2
theorem sE_ite (ih : SndAt P F G n) {m : Bool} {a b d : Expr} {pos : Pos} {c : CE} (h : compE P (n + 1) cx m (.IfExp a b d pos) = some c) (g : Good P F G cx X W u) : PE X (.IfExp a b d pos) (tE F G u W c) := by
  simp only [compE] at h
  obtain ⟨c', hc, h⟩ := Option.bind_eq_some_iff.mp h
  obtain ⟨a', ha, h⟩ := Option.bind_eq_some_iff.mp h
  obtain ⟨b', hb, rfl⟩ := Option.map_eq_some_iff.mp h
  refine peImp (pe_ifExp (ih.t hc g) (ih.e ha g) (ih.e hb g)) fun σ H Q ⟨A, env, st, rel, h⟩ => ?_
  unfold wpE at h
  refine one_T rel h (fun _ _ _ _ z => z) fun d s ⟨k, e, q⟩ => ⟨k, e, fun A1 H1 t r => ?_⟩
  cases k with
  | true => exact tE_one (rel.stp t r) q (fun C f z s' q => q.stp r t) fun d s2 A2 H2 v t2 r2 p2 q => q A2 H2 v (t.trans r t2) r2 p2
  | false => exact tE_one (rel.stp t r) q (fun C f z s' q => q.stp r t) fun d s2 A2 H2 v t2 r2 p2 q => q A2 H2 v (t.trans r t2) r2 p2
/-! ### comparisons as values -/
theorem beh {op : CmpOp} {b : Expr} (hb : ∀ es k pos, b ≠ .Set es k pos) : behindInMarks op b = false := by
  cases b <;> first | rfl | exact absurd rfl (hb _ _ _)
theorem comp_noset {m : Bool} {b : Expr} {c : CE} (h : compE P n cx m b = some c) : ∀ es k pos, b ≠ .Set es k pos := by
  rintro es k pos rfl
  cases n <;> simp [compE] at h
end
end Mini
end
section
/-! A star ahead of a dict, or of its values. -/
namespace Mini
open PySem L2 PySem.Spec PyProof.Rows
section
variable {prog : Program} {w : World} {A : Around} {E : Value → Shared → Prop} {s : Shared} {T : String} {r d : Addr} {n : Nat} {P : Nat → Value → Prop} {OK : Heap → Prop}
theorem collect_kdl {Q : List Value → Shared → Prop} (K : PySem.W.KdlSrc prog w T r d n P OK) (hh : A.handled = none) (hok : OK s.heap) (hn : n ≤ sizeLine)
    (hQ : ∀ (h' : Heap) (tk : Nat) (acc : Array Value), (∀ b o, s.heap.get? b = some o → h'.get? b = some o) → ItemsOf P acc n → Q acc.toList { s with heap := h', toks := tk }) :
    wpAny (model prog w) A (collect (.ref r)) Q E s := by
  unfold collect
  refine wpAny_bind (wpAny_runValue (codeAny_builtin F.entry_proto_collect ?_))
  rw [Around.under_plainId F.plain_proto_collect _]
  show wpAny _ A.in1 (newList [] >>= fun l => again (.builtin "list.__iadd__" ⟨[l, .ref r], []⟩)) _ _ s
  refine wpAny_bind (wpAny_newObj_type ?_)
  refine wpAny_pure ⟨plainId_quiet F.plain_list_iadd _, codeAny_builtin F.entry_list_iadd ?_⟩
  rw [Around.under_plainId F.plain_list_iadd _]
  show wpAny _ A.in1 (Builtin.List.listExtendWith (.ref s.heap.objs.size) (.ref r) (.ref s.heap.objs.size)) _ _ _
  have hS : (s.heap.push { cls := .type "list", data := .seq ([] : List Value).toArray }).get? s.heap.objs.size = some { cls := .type "list", data := .seq #[] 0 } := Heap.get?_push_size _ rfl
  have hlt := K.there _ hok
  refine wpAny_mono (PySem.W.kdl_extend (A := A) (R := fun rr s' => rr = .ok (.ret (.ref s.heap.objs.size)) ∧ ∃ (h' : Heap) (tk : Nat) (acc : Array Value) (c' : Nat), s' = { s with heap := h', toks := tk } ∧
      (∀ b o, s.heap.get? b = some o → h'.get? b = some o) ∧ h'.get? s.heap.objs.size = some { cls := .type "list", dict := none, data := .seq acc c', slots := #[] } ∧ ItemsOf P acc n)
    (s := { s with heap := s.heap.push { cls := .type "list", data := .seq ([] : List Value).toArray } }) K hh (K.keep _ _ hok fun b _ o e => Heap.get?_push_of_some _ e) _ (Nat.ne_of_gt hlt.1) (Nat.ne_of_gt hlt.2) _ 0 hS
    (fun h' tk acc c' hk e hi => ⟨rfl, h', tk, acc, c', rfl, fun b o q => hk b o (Nat.ne_of_lt (Heap.lt_size q)) (Heap.get?_push_of_some _ q), e, hi⟩) hn) (fun fin s' h => ?_) (fun e s' h => ?_)
  · cases fin with
    | done f =>
      obtain ⟨e, h', tk, acc, c', rfl, hk, hS', hi⟩ := h
      cases e
      show wpAny _ A (load s.heap.objs.size >>= _) _ _ _
      exact wpAny_bind (wpAny_load hS' (wpAny_pure (hQ h' tk acc hk hi)))
    | again c' =>
      refine ⟨h.1, codeAny_mono h.2 fun rr s'' hr' => ?_⟩
      obtain ⟨rfl, h', tk, acc, c', rfl, hk, hS', hi⟩ := hr'
      show wpAny _ A (load s.heap.objs.size >>= _) _ _ _
      exact wpAny_bind (wpAny_load hS' (wpAny_pure (hQ h' tk acc hk hi)))
  · exact absurd h.1 (by simp)
end
section
variable {X : Cx} {pins : List (Addr × Obj)} {σ : L2.St} {H : Hp} {s : Shared}
theorem star_dk {a : Addr} {kvs : List (Key × V)} {E : Value → Shared → Prop} {Q : List Value → Shared → Prop} (hc : X.calm = true) (I : Inv X pins σ H s) (h : H a = some (.dK kvs)) (hQ : ∀ us s', Inv X pins σ H s' → Vals (kvs.map fun q => kV q.1) us → Q us s') : PySem.W.StarOf (model X.prog X.w) X.A E (.ref a) Q s := by
  obtain ⟨z, hsys, vs, rel, dof⟩ := dk_of I.hok h
  have ht := dof.typeIs
  obtain ⟨ep, dat⟩ := dof.dictAt
  have hl : kvs.length = vs.length := rel.length
  unfold PySem.W.StarOf notIterableAtAll
  refine wpAny_bind (wpAny_specialOf ht PySem.F.slot_dict_iter.lookup (wpAny_pure ⟨rfl, ?_⟩))
  refine collect_kdl (PySem.W.kdl_dict (knd := mixKind X.prog X.w) (kvs := vs) (ep := ep) (d := a) hsys) (I.ok.hd hc) dat (by omega) fun h' tk acc hk hacc => hQ _ _ (I.kept (t' := tk) hk) ?_
  have el : acc.toList.length = acc.size := by simp
  refine vals_of_at (by rw [List.length_map, el, hacc.1, hl]) fun j y w h1 h2 => ?_
  obtain ⟨k, x, e1, e2⟩ := hacc.2 j w (by rw [← Array.getElem?_toList]; exact h2)
  rw [List.getElem?_map] at h1
  obtain ⟨p, hp, ey⟩ := Option.map_eq_some_iff.mp h1
  have hkeys := rel.keys
  have : (kvs.map (·.1))[j]? = (vs.map (·.1))[j]? := by rw [hkeys]
  rw [List.getElem?_map, List.getElem?_map, hp, e1] at this
  have e3 : p.1 = k := by simpa using this
  rw [← ey, e3]
  exact keyIs_rel e2
end
/-- *e in a display: a tuple, a list, a dict's keys -/
def tStarK (K : PySem.W.Frag) (te : TE) (t : TA) : TA := fun σ H Q => te σ H fun x H1 => ∃ p, x = V.ref p ∧ ((∃ xs, (SqT K H1 p xs ∨ SqL K H1 p xs) ∧ t σ H1 fun ys H2 => Q (xs ++ ys) H2) ∨ (∃ kvs, H1 p = some (.dK kvs) ∧ t σ H1 fun ys H2 => Q ((kvs.map fun q => kV q.1) ++ ys) H2))
/-- *d.values() -/
def tStarV (td : TE) (t : TA) : TA := fun σ H Q => td σ H fun x H1 => ∃ a kvs, x = V.ref a ∧ H1 a = some (.dK kvs) ∧ t σ H1 fun ys H2 => Q (kvs.map (·.2) ++ ys) H2
section
variable {X : Cx} {e o : Expr} {es : List Expr} {te : TE} {t : TA} {p apos mpos : Pos}
theorem pa_starK (hc : X.calm = true) (he : PE X e te) (hr : PA X es t) (hs : starEach (.Starred e p :: es) X.env = (true, eval e X.env) :: starEach es X.env := by rfl) : PA X (.Starred e p :: es) (tStarK X.K te t) := by
  refine ⟨fun pos pins s σ H Q I h => ?_⟩
  refine PySem.W.items_star (thn (he.run pins s σ H _ I h) fun v s1 ⟨y, H1, I1, ry, a, ey, q⟩ => ?_) hs
  subst ey
  obtain rfl : v = Value.ref a := ry
  rcases q with ⟨xs, hx, q⟩ | ⟨kvs, hx, q⟩
  · refine StX.star_any I1 hx fun us s2 I2 rv => ?_
    exact thn (hr.run pos pins s2 σ H1 _ I2 q) fun ws s3 ⟨vs, H3, I3, r3, q3⟩ => ⟨xs ++ vs, H3, I3, rv.append r3, q3⟩
  · refine star_dk hc I1 hx fun us s2 I2 rv => ?_
    exact thn (hr.run pos pins s2 σ H1 _ I2 q) fun ws s3 ⟨vs, H3, I3, r3, q3⟩ => ⟨_ ++ vs, H3, I3, rv.append r3, q3⟩
theorem pa_starV {td : TE} (hc : X.calm = true) (hd : PE X o td) (hr : PA X es t) (hbase : attributeBase o "values" X.env (eval o X.env) = eval o X.env) (hline : (apos.endLine == mpos.line) = true)
    (hs : starEach (.Starred (.Call (.Attribute o "values" apos) [] [] mpos) p :: es) X.env = (true, eval (.Call (.Attribute o "values" apos) [] [] mpos) X.env) :: starEach es X.env := by rfl) : PA X (.Starred (.Call (.Attribute o "values" apos) [] [] mpos) p :: es) (tStarV td t) := by
  refine ⟨fun pos pins s σ H Q I h => ?_⟩
  refine PySem.W.items_star (wpAny_Call_method0_late hbase hline (thn (hd.run pins s σ H _ I h) fun v s1 ⟨x, H1, I1, r1, a, kvs, ex, ha, q⟩ => ?_)) hs
  subst ex
  obtain rfl : v = Value.ref a := r1
  obtain ⟨z, hsys, vs, rel, dof⟩ := dk_of I1.hok ha
  obtain ⟨ep, dat⟩ := dof.dictAt
  have dat' := dat
  obtain ⟨ob, es', ho, ex, hdat, hko, hpr, hnd⟩ := dat'
  refine ⟨"dict", "dict.values", F.plainAttrs_dict, F.slot_dict_values, F.type_dict_values, ⟨ob, ho, ex.1⟩, fun b e => ?_, Calls.callWith_builtin rfl (PySem.evalArgs_none ?_)⟩
  · cases e
    exact ⟨ob, ho, ex.2.1⟩
  refine call_meetsIn F.slot_dict_values ⟨ob, ho, ex.1⟩ F.entry_dict_values (F.args_dict_values_1 _) (meets_dict_values (mixKind X.prog X.w) a hsys) ⟨⟨vs, dof⟩, ?_⟩
  have k1 : ∀ b u, s1.heap.get? b = some u → (s1.heap.push { cls := .type "dict_values", data := .fields #[.ref a] }).get? b = some u := fun b u e => Heap.get?_push_of_some _ e
  have dat1 : (s1.heap.push { cls := .type "dict_values", data := .fields #[.ref a] }).DictAt (mixKind X.prog X.w) a vs ep := dat.keep k1
  have hv : (s1.heap.push { cls := .type "dict_values", data := .fields #[.ref a] }).IsValuesView s1.heap.objs.size a := ⟨_, Heap.get?_push_size _ rfl, rfl, rfl⟩
  unfold PySem.W.StarOf notIterableAtAll
  refine wpAny_bind (wpAny_specialOf (T := "dict_values") ⟨_, Heap.get?_push_size _ rfl, rfl⟩ PySem.F.slot_dict_values_iter.lookup (wpAny_pure ⟨rfl, ?_⟩))
  refine collect_kdl (s := { s1 with heap := s1.heap.push { cls := .type "dict_values", data := .fields #[.ref a] } }) (PySem.W.kdl_values (knd := mixKind X.prog X.w) (kvs := vs) (ep := ep) (r := s1.heap.objs.size) (d := a)) (I1.ok.hd hc) ⟨hv, dat1⟩ (by rw [← rel.length]; exact z) fun h' tk acc hk hacc => ?_
  have I2 : Inv X pins σ H1 { s1 with heap := h', toks := tk } := I1.kept fun b u e => hk b u (k1 b u e)
  have rv : Vals (kvs.map (·.2)) acc.toList := by
    have el : acc.toList.length = acc.size := by simp
    refine vals_of_at (by rw [List.length_map, el, hacc.1, rel.length]) fun j y w h1 h2 => ?_
    obtain ⟨k, hky⟩ := hacc.2 j w (by rw [← Array.getElem?_toList]; exact h2)
    obtain ⟨y', e1, e2⟩ := KV.at' rel hky
    rw [List.getElem?_map, e1] at h1
    cases h1
    exact e2
  exact thn (hr.run pos pins _ σ H1 _ I2 q) fun ws s3 ⟨vs, H3, I3, r3, q3⟩ => ⟨_ ++ vs, H3, I3, rv.append r3, q3⟩
end
end Mini
end
section
/-! Arguments, displays, items, fields, calls. -/
namespace Mini
open PySem L2
theorem star_plain {e : Expr} {es : List Expr} {env : PySem.Env} (h : isStar e = false) : starEach (e :: es) env = (false, eval e env) :: starEach es env := by
  cases e <;> first | rfl | (simp [isStar] at h)
theorem not_star {b : Bool} (h : (!b) = true) : b = false := by simpa using h
theorem any_plain : ∀ {es : List Expr} {env : PySem.Env} {pos : Pos}, es.all (fun e => !isStar e) = true → (backTo pos (starEach es env)).any (·.1) = false
  | [], _, _, _ => rfl
  | e :: es, env, pos, h => by
    simp only [List.all_cons, Bool.and_eq_true] at h
    rw [star_plain (not_star h.1)]
    show (false || (backTo pos (starEach es env)).any (·.1)) = false
    rw [any_plain h.2]; rfl
theorem base_plain {o : Expr} {f : Str} {env : PySem.Env} {t : Sem Value} (h : isSuper o = false) : attributeBase o f env t = t := by
  unfold attributeBase
  split
  · rename_i id p pos
    simp only [isSuper] at h
    simp [bne, h]
  · rfl
section
variable {P : PInfo} {F : Fx} {G : Sg} {cx : CTX} {X : Cx} {W : WX} {u : SuiT} {n : Nat}
theorem compAs_plain {f : Expr → Option CE} : ∀ {es : List Expr} {cs : CEs}, compAsW f es = some cs → es.all (fun e => !isStar e) = true
  | [], _, _ => rfl
  | e :: es, cs, h => by
    simp only [compAsW] at h
    obtain ⟨h1, h2⟩ := ifB_some.mp h
    split at h2
    · rename_i hc
      simp only [List.all_cons, Bool.and_eq_true]
      exact ⟨h1, compAs_plain hc⟩
    · cases h2
/-- the length of what a list of arguments gives -/
def lenC : CEs → Nat
  | .nil => 0
  | .cons _ cs => lenC cs + 1
  | .star _ cs => lenC cs
theorem compAs_lenC {f : Expr → Option CE} : ∀ {es : List Expr} {cs : CEs}, compAsW f es = some cs → lenC cs = es.length
  | [], _, h => by simp only [compAsW, Option.some.injEq] at h; subst h; rfl
  | e :: es, cs, h => by
    simp only [compAsW] at h
    obtain ⟨h1, h2⟩ := ifB_some.mp h
    split at h2
    · rename_i hc
      cases h2
      simp [lenC, compAs_lenC hc]
    · cases h2
theorem paAs {f : Expr → Option CE} (hf : ∀ e c, f e = some c → PE X e (tE F G u W c)) : ∀ {es : List Expr} {cs : CEs}, compAsW f es = some cs → PA X es (tA F G u W cs)
  | [], _, h => by
    simp only [compAsW, Option.some.injEq] at h
    subst h
    refine paImp pa_nil fun σ H Q ⟨A, env, st, rel, h⟩ => ?_
    unfold wpEs at h
    exact h A H [] .refl rel.rs .nil
  | e :: es, cs, h => by
    simp only [compAsW] at h
    obtain ⟨h1, h2⟩ := ifB_some.mp h
    split at h2
    · rename_i c cs' he hc
      cases h2
      refine paImp (pa_cons (hf e c he) (paAs hf hc) (star_plain (not_star h1))) fun σ H Q ⟨A, env, st, rel, h⟩ => ?_
      unfold wpEs at h
      refine tE_one rel h (fun _ _ _ _ z => z) fun d s A1 H1 v t r p q => ?_
      refine ⟨A1, env, s, rel.stp t r, wpEs_mono _ _ _ (fun ds s2 q A2 H2 vs t2 r2 p2 => q A2 H2 (v :: vs) (t.trans r t2) r2 (.cons (p.stp t2) p2)) (fun C f z s' q => q.stp r t) q⟩
    · cases h2
theorem rps_dkeys {A : List Addr} {H : Hp} : ∀ kvs : List (Key × V), Rps F A H (kvs.map fun q => dKey q.1) (kvs.map fun q => kV q.1)
  | [] => .nil
  | a :: b => .cons (key_rp _) (rps_dkeys b)
theorem paEs {f : Expr → Option CE} (hK : X.K = F.K) (hf : ∀ e c, f e = some c → PE X e (tE F G u W c)) : ∀ {es : List Expr} {cs : CEs}, (es.any isStar = true → X.calm = true) → compEsW f es = some cs → PA X es (tA F G u W cs)
  | [], _, _, h => by
    simp only [compEsW, Option.some.injEq] at h
    subst h
    refine paImp pa_nil fun σ H Q ⟨A, env, st, rel, h⟩ => ?_
    unfold wpEs at h
    exact h A H [] .refl rel.rs .nil
  | e :: es, cs, hcl, h => by
    have hcl' : es.any isStar = true → X.calm = true := fun hh => hcl (by rw [List.any_cons, hh, Bool.or_true])
    by_cases hst : isStar e = true
    · have hc : X.calm = true := hcl (by rw [List.any_cons, hst, Bool.true_or])
      cases e <;> simp [isStar] at hst
      rename_i e p
      simp only [compEsW] at h
      split at h
      · rename_i c cs' he hce
        cases h
        have gen : f e = some c → PA X (.Starred e p :: es) (tA F G u W (.star c cs')) := fun he => by
          refine paImp (pa_starK hc (hf e c he) (paEs hK hf hcl' hce)) fun σ H Q ⟨A, env, st, rel, h⟩ => ?_
          unfold wpEs at h
          refine tE_one rel h (fun _ _ _ _ z => z) fun d s A1 H1 v t r p ⟨xs, e, q⟩ => ?_
          unfold asSK at e
          split at e
          · rename_i ys ey
            cases e
            obtain ⟨a, vs, rfl, hs, rs⟩ := asS_rp r p ey
            refine ⟨a, rfl, .inl ⟨vs, hK ▸ hs.imp_right SqL.of, A1, env, s, rel.stp t r, wpEs_mono _ _ _ (fun ds s2 q A2 H2 ws t2 r2 p2 => q A2 H2 (vs ++ ws) (t.trans r t2) r2 ((rs.stp t2).append p2)) (fun C f z s' q => q.stp r t) q⟩⟩
          · split at e
            · rename_i kk zs ez
              split at e
              · rename_i hk
                cases e
                obtain ⟨a, rfl, oa⟩ := asC_rp r p ez
                obtain ⟨kvs, e1, e2, _⟩ := ob_dct hk oa
                have rs : Rps F A1 H1 (kvs.map fun q => dKey q.1) (kvs.map fun q => kV q.1) := rps_dkeys kvs
                rw [← e2] at rs
                refine ⟨a, rfl, .inr ⟨kvs, e1, A1, env, s, rel.stp t r, wpEs_mono _ _ _ (fun ds s2 q A2 H2 ws t2 r2 p2 => q A2 H2 (_ ++ ws) (t.trans r t2) r2 ((rs.stp t2).append p2)) (fun C f z s' q => q.stp r t) q⟩⟩
              · cases e
            · cases e
        unfold starE at he
        split at he
        · rename_i v vf apos cpos
          split at he
          · rename_i hv
            subst hv
            obtain ⟨h1, h2⟩ := ifB_some.mp he
            obtain ⟨c', hc', rfl⟩ := Option.map_eq_some_iff.mp h2
            simp only [Bool.and_eq_true] at h1
            refine paImp (pa_starV hc (hf v c' hc') (paEs hK hf hcl' hce) (base_plain (not_star h1.1)) h1.2) fun σ H Q ⟨A, env, st, rel, h⟩ => ?_
            unfold wpEs wpE wpEs at h
            refine tE_one rel h (fun _ _ _ _ z => z) fun d s A1 H1 v t r p q => ?_
            unfold wpEs at q
            obtain ⟨d', e, q⟩ := q
            simp only [biD] at e
            split at e
            · rename_i kk xs ec
              split at e
              · rename_i hl
                cases e
                obtain ⟨a, rfl, ob⟩ := asC_rp r p ec
                obtain ⟨kvs, e1, e2, rs⟩ := ob_dct hl ob
                obtain ⟨ys, ey, q⟩ := (show ∃ ys, asSK s (.tup xs) = some ys ∧ _ from q)
                cases ey
                exact ⟨a, kvs, rfl, e1, A1, env, s, rel.stp t r, wpEs_mono _ _ _ (fun ds s2 q A2 H2 ws t2 r2 p2 => q A2 H2 (_ ++ ws) (t.trans r t2) r2 ((rs.stp t2).append p2)) (fun C f z s' q => q.stp r t) q⟩
              · cases e
            · cases e
          · exact gen he
        · exact gen he
      · cases h
    · have hst' : isStar e = false := by simpa using hst
      have h' : (match f e, compEsW f es with
        | some c, some cs => some (CEs.cons c cs)
        | _, _ => none) = some cs := by
        cases e <;> first | exact h | (simp [isStar] at hst')
      split at h'
      · rename_i c cs' he hc
        cases h'
        refine paImp (pa_cons (hf e c he) (paEs hK hf hcl' hc) (star_plain hst')) fun σ H Q ⟨A, env, st, rel, h⟩ => ?_
        unfold wpEs at h
        refine tE_one rel h (fun _ _ _ _ z => z) fun d s A1 H1 v t r p q => ?_
        refine ⟨A1, env, s, rel.stp t r, wpEs_mono _ _ _ (fun ds s2 q A2 H2 vs t2 r2 p2 => q A2 H2 (v :: vs) (t.trans r t2) r2 (.cons (p.stp t2) p2)) (fun C f z s' q => q.stp r t) q⟩
      · cases h'
/-- arguments, then their end -/
theorem tA_one {cs : CEs} {A : List Addr} {H : Hp} {env : Env} {st : Sto} {σ : L2.St} {Q1 : List D → Sto → Prop} {X1 : XP} {R : List V → Hp → Prop} (rel : Rel F u A H env st σ) (h : wpEs G cs env st Q1 X1)
    (hx : ∀ C f x s, X1 C f x s → XLink F W σ A H C f x s) (fin : ∀ d s A' H' v, Stp A H A' H' → RelSt F A' H' s → Rps F A' H' d v → Q1 d s → R v H') : tA F G u W cs σ H R :=
  ⟨A, env, st, rel, wpEs_mono cs env st (fun d s q A' H' v t r p => fin d s A' H' v t r p q) hx h⟩
theorem calm_star {es : List Expr} (g : Good P F G cx X W u) (h : (cx.calm || !(es.any isStar)) = true) : es.any isStar = true → X.calm = true := fun hh => by
  rw [hh] at h
  exact g.calm (by simpa using h)
theorem sE_tuple (ih : SndAt P F G n) {m : Bool} {es : List Expr} {k : Nat} {pos : Pos} {c : CE} (h : compE P (n + 1) cx m (.Tuple es k pos) = some c) (g : Good P F G cx X W u) : PE X (.Tuple es k pos) (tE F G u W c) := by
  simp only [compE] at h
  obtain ⟨h0, h⟩ := ifB_some.mp h
  obtain ⟨cs, hc, rfl⟩ := Option.map_eq_some_iff.mp h
  refine peImp (pe_tup (paEs g.K (fun e c he => ih.e he g) (calm_star g h0) hc)) fun σ H Q ⟨A, env, st, rel, h⟩ => ?_
  unfold wpE at h
  refine tA_one rel h (fun _ _ _ _ z => z) fun ds s A1 H1 vs t r p ⟨l, q⟩ => ⟨by rw [← p.length]; exact l, fun a ha => q_new_tup r t p ha q⟩
theorem sE_list (ih : SndAt P F G n) {m : Bool} {es : List Expr} {pos : Pos} {c : CE} (h : compE P (n + 1) cx m (.List es pos) = some c) (g : Good P F G cx X W u) : PE X (.List es pos) (tE F G u W c) := by
  simp only [compE] at h
  obtain ⟨h0, h⟩ := ifB_some.mp h
  obtain ⟨cs, hc, rfl⟩ := Option.map_eq_some_iff.mp h
  refine peImp (pe_lst (paEs g.K (fun e c he => ih.e he g) (calm_star g h0) hc)) fun σ H Q ⟨A, env, st, rel, h⟩ => ?_
  unfold wpE at h
  refine tA_one rel h (fun _ _ _ _ z => z) fun ds s A1 H1 vs t r p ⟨l, q⟩ => ⟨by rw [← p.length]; exact l, fun a ha => ret_lst r t p ha q⟩
/-! ### fields -/
theorem asI_rp {A : List Addr} {H : Hp} {st : Sto} {d : D} {v : V} {C : Str} {fs : List Str} {xs : List D} (r : RelSt F A H st) (p : Rp F A H d v) (h : asI st d = some (C, fs, xs)) :
    ∃ a dx fvs, v = .ref a ∧ C ∈ F.clss ∧ H a = some (.ins (F.cad C) dx fvs) ∧ fs = fvs.map (·.1) ∧ Rps F A H xs (fvs.map (·.2)) := by
  cases p with
  | ins o hp =>
    simp only [asI, Option.some.injEq, Prod.mk.injEq] at h
    obtain ⟨rfl, rfl, rfl⟩ := h
    cases o with | ins c e1 e2 q => exact ⟨_, _, _, rfl, c, e1, e2, q⟩
  | ref e =>
    simp only [asI] at h
    split at h
    · rename_i hy
      cases h
      obtain ⟨a', ha, ob⟩ := r.2.2 _ _ hy
      rw [e] at ha; cases ha
      cases ob with | ins c e1 e2 q => exact ⟨_, _, _, rfl, c, e1, e2, q⟩
    · cases h
  | _ => simp [asI] at h
theorem lookF_rp {A : List Addr} {H : Hp} : ∀ {fvs : List (Str × V)} {xs : List D} {f : Str} {d : D}, Rps F A H xs (fvs.map (·.2)) → lookF (fvs.map (·.1)) xs f = some d → ∃ v, fvs.lookup f = some v ∧ Rp F A H d v
  | [], _, _, _, r, h => by cases r; simp [lookF] at h
  | (g, w) :: r, _, f, d, .cons p t, h => by
    simp only [List.map_cons, lookF] at h
    split at h
    · rename_i e
      cases h
      subst e
      exact ⟨w, by simp [List.lookup], p⟩
    · rename_i e
      obtain ⟨v, a, b⟩ := lookF_rp t h
      refine ⟨v, ?_, b⟩
      have : (f == g) = false := by simpa using fun z => e z.symm
      simp [List.lookup, this, a]
theorem sE_fld {a : Expr} {f : Str} {pos : Pos} {a' : CE} (g : Good P F G cx X W u) (hs : isSuper a = false) (hf : P.flds.contains f = true) (ha : PE X a (tE F G u W a')) : PE X (.Attribute a f pos) (tE F G u W (.fld a' f)) := by
  refine peImp (pe_fld ha (base_plain hs)) fun σ H Q ⟨A, env, st, rel, h⟩ => ?_
  unfold wpE at h
  refine tE_one rel h (fun _ _ _ _ z => z) fun d s A1 H1 v t r p ⟨x, e, q⟩ => ?_
  unfold fldD at e
  split at e
  · rename_i C fs xs hi
    obtain ⟨b, dx, fvs, rfl, hC, e1, e2, rs⟩ := asI_rp r p hi
    subst e2
    obtain ⟨w, l, pw⟩ := lookF_rp rs e
    obtain ⟨_, c1, _, _⟩ := g.facts.cls C hC
    have na : NoAttr F.K (F.cad C) f := g.facts.noat C f hC (by simpa using hf)
    refine ⟨b, F.cad C, dx, fvs, w, rfl, e1, by rw [g.K]; exact c1, by rw [g.K]; exact na, l, q A1 H1 w t r pw⟩
  · cases e
theorem sE_prp {a : Expr} {f : Str} {pos : Pos} {a' : CE} {q : Str} {l : Nat} (g : Good P F G cx X W u) (hs : isSuper a = false) (hp : P.props.lookup f = some (q, l)) (hl : l ≤ cx.lvl) (hc : cx.calm = true) (ha : PE X a (tE F G u W a')) :
    PE X (.Attribute a f pos) (tE F G u W (.prp q a')) := by
  obtain ⟨C, hC, hS, p, gt, hpo, fd, ps, hb, Fn, hps, h1⟩ := g.facts.props f q l hp hl
  obtain ⟨_, c1, _, _⟩ := g.facts.cls C hC
  have Fn' : FnOk X.prog X.w X.K X.mg X.base (L2.CX X.prog X.w) (l - 1) gt fd ps (liftSp F 1 (G.Gm q)) := by rw [g.pr, g.w, g.K]; exact Fn
  refine peImp (pe_prop (sp := liftSp F 1 (G.Gm q)) (dvs := []) (ds := []) (E := E0) ha (by rw [g.K]; exact c1) (by rw [g.K]; exact hpo) Fn' ((g.room hc).mono (by omega)) (by rw [g.K]; exact hb) .nil passL (base_plain hs)) fun σ H Q ⟨A, env, st, rel, h⟩ => ?_
  unfold wpE at h
  refine tE_one rel h (fun _ _ _ _ z => z) fun d s A1 H1 v t r pd q => ?_
  have q0 := q
  obtain ⟨Q0, X0, hq, _, _⟩ := q0
  obtain ⟨d', fs, xs, e, hi⟩ := hS _ _ _ _ hq
  cases e
  obtain ⟨b, dx, fvs, rfl, hC', e1, e2, rs⟩ := asI_rp r pd hi
  exact ⟨b, dx, fvs, rfl, e1, rfl, F.priv, A1, [d], s, r, .cons pd .nil, q.mono (fun d s2 q => q.stp r t) fun _ _ _ _ z => z.elim⟩
end
end Mini
end
section
/-! Kinds, == of instances, items, slices, tests. -/
namespace Mini
open PySem L2 PySem.Spec PyProof.Rows
def kdTy (F : Fx) : Kd → Value
  | .non => .type "NoneType"
  | .bl => .type "bool"
  | .int => .type "int"
  | .str => .type "str"
  | .tup => .type "tuple"
  | .lst => .type "list"
  | .dct => .type "dict"
  | .ins C => .ref (F.cad C)
section
variable {P : PInfo} {F : Fx} {G : Sg} {cx : CTX} {X : Cx} {W : WX} {u : SuiT} {n : Nat} {A A0 : List Addr} {H H0 : Hp} {st : Sto}
theorem IsC.tyOf {mg : Str → Option Value} {base : Heap} {L : Nat} (fc : Facts P F G mg base L) {C : Str} (hC : C ∈ F.clss) {a dx : Addr} {fvs : List (Str × V)} (e : H a = some (.ins (F.cad C) dx fvs)) : TyOf F.K H (.ref a) (.ref (F.cad C)) :=
  .ins e (fc.cls C hC).2.1 (fc.cls C hC).2.2.1.ha fc.cnl.1 fc.cnl.2 (fc.cls C hC).2.2.1.hm
theorem tyx_rp {mg : Str → Option Value} {base : Heap} {L : Nat} (fc : Facts P F G mg base L) {d : D} {v : V} {k : Kd} (r : RelSt F A H st) (p : Rp F A H d v) (h : kdOf st d = some k) : TyX F.K H v (kdTy F k) := by
  cases p with
  | non => simp only [kdOf, Option.some.injEq] at h; subst h; exact .base .non
  | bl b => simp only [kdOf, Option.some.injEq] at h; subst h; exact .base (.bl b)
  | int i => simp only [kdOf, Option.some.injEq] at h; subst h; exact .base (.int i)
  | str x => simp only [kdOf, Option.some.injEq] at h; subst h; exact .base (.str x)
  | tup t q =>
    simp only [kdOf, Option.some.injEq] at h; subst h
    rcases t with ⟨t, _⟩ | ⟨o, its, n, e1, e2, _⟩
    · exact .base (.tup t)
    · exact .kTuple e1 e2
  | lst o hp =>
    simp only [kdOf, Option.some.injEq] at h; subst h
    cases o with | lst e q => exact .base (.lst e)
  | dct o hp =>
    simp only [kdOf] at h
    split at h
    · rename_i hl
      cases h
      obtain ⟨kvs, e, _⟩ := ob_dct hl o
      exact .base (.dK e)
    · cases h
  | ins o hp =>
    simp only [kdOf, Option.some.injEq] at h; subst h
    cases o with | ins c e1 e2 q => exact .base (IsC.tyOf fc c e1)
  | scr _ => simp [kdOf] at h
  | ref e =>
    rename_i m a
    simp only [kdOf] at h
    split at h
    · rename_i hy
      cases h
      obtain ⟨a', ha, ob⟩ := r.2.2 _ _ hy
      rw [e] at ha; cases ha
      cases ob with | lst e q => exact .base (.lst e)
    · rename_i hy
      split at h
      · rename_i hl
        cases h
        obtain ⟨a', ha, ob⟩ := r.2.2 _ _ hy
        rw [e] at ha; cases ha
        obtain ⟨kvs, e, _⟩ := ob_dct hl ob
        exact .base (.dK e)
      · cases h
    · rename_i hy
      cases h
      obtain ⟨a', ha, ob⟩ := r.2.2 _ _ hy
      rw [e] at ha; cases ha
      cases ob with | ins c e1 e2 q => exact .base (IsC.tyOf fc c e1)
    · cases h
theorem kd_cls {mg : Str → Option Value} {base : Heap} {L : Nat} (fc : Facts P F G mg base L) {d : D} {v : V} {C : Str} (r : RelSt F A H st) (p : Rp F A H d v) (h : kdOf st d = some (.ins C)) : C ∈ F.clss := by
  cases p with
  | ins o hp =>
    simp only [kdOf, Option.some.injEq, Kd.ins.injEq] at h; subst h
    cases o with | ins c e1 e2 q => exact c
  | dct o hp => simp only [kdOf] at h; split at h <;> cases h
  | ref e =>
    simp only [kdOf] at h
    split at h
    · cases h
    · split at h <;> cases h
    · rename_i hy
      cases h
      obtain ⟨a', ha, ob⟩ := r.2.2 _ _ hy
      rw [e] at ha; cases ha
      cases ob with | ins c e1 e2 q => exact c
    · cases h
  | _ => simp [kdOf] at h
theorem looks_ty {pins : List (Addr × Obj)} {σ : L2.St} {s : Shared} {x : V} {v t : Value} {M : Model} (I : Inv X pins σ H s) (rx : RelV x v) (ty : TyX X.K H x t) : PySem.W.Looks M s.heap (typeOf v) t := by
  obtain ⟨P, Z, p, hx⟩ := kit_of I rx ty
  exact Z.ty M s.heap I.kIn p
theorem first_ty {K : PySem.W.Frag} {C : Addr} {T : String} {l : List String} (h : fastBuiltinMro T = some (l.map .type)) : PySem.W.notFirst K C (.type T) = true := by
  have e : PySem.W.subIn K (.type T) (.ref C) = some false := by
    show (fastBuiltinMro T).map (·.contains (.ref C)) = some false
    rw [h]
    simp only [Option.map_some, Option.some.injEq]
    rw [List.contains_eq_any_beq]
    simp
  simp [PySem.W.notFirst, e]
theorem first_kd {mg : Str → Option Value} {base : Heap} {L : Nat} (fc : Facts P F G mg base L) {C : Str} {k : Kd} (hC : C ∈ F.clss) (hk : ∀ D, k = .ins D → D ∈ F.clss) : PySem.W.notFirst F.K (F.cad C) (kdTy F k) = true := by
  cases k with
  | ins D => exact fc.nof C D hC (hk D rfl)
  | non => exact first_ty (l := ["NoneType", "object"]) (by decide +kernel)
  | bl => exact first_ty (l := ["bool", "int", "object"]) (by decide +kernel)
  | int => exact first_ty (l := ["int", "object"]) (by decide +kernel)
  | str => exact first_ty (l := ["str", "object"]) (by decide +kernel)
  | tup => exact first_ty (l := ["tuple", "object"]) (by decide +kernel)
  | lst => exact first_ty (l := ["list", "object"]) (by decide +kernel)
  | dct => exact first_ty (l := ["dict", "object"]) (by decide +kernel)
end

/-! ### != by an own == -/
section
variable {M : Model} {prog : Program} {w : World} {A : Around} {E : Value → Shared → Prop} {s : Shared} {K : PySem.W.Frag} {x C f : Addr} {ox : Obj} {od : Option Obj}
theorem ifBound_objNe {args : List Value} {Q : Option Value → Shared → Prop} (X : K.In s.heap) (I : PySem.W.InstAt s.heap x ox C od) (hs : PySem.W.findIn K (.ref C) "__ne__" = some (some (.builtin "object.__ne__")))
    (h : wpAny M A (call (.builtin "object.__ne__") (.ref x :: args)) (fun v => Q (some v)) E s) : wpAny M A (callSpecialIfBound? (.ref x) "__ne__" args) Q E s := by
  simp only [callSpecialIfBound?, bindSpecialIfBound?]
  refine wpAny_holding (wpAny_bind (wpAny_bind (wpAny_bind (I.type.here ((PySem.W.looks_findIn X hs).here ?_)))))
  refine wpAny_bind (wpAny_askSetting (wpAny_ite ?_))
  have fin : wpAny M A (call (.builtin "object.__ne__") ([.ref x] ++ args) >>= fun v => pure (some v)) Q E s := wpAny_bind (wpAny_mono h (fun v s' h' => wpAny_pure h') fun _ _ h' => h')
  split
  · exact wpAny_bind (wpAny_of_eq (F.cmp_object.ne.bind _) (wpAny_pure (by exact fin)))
  · exact wpAny_tryCatch (wpAny_bind (wpAny_of_eq (F.cmp_object.ne.bind _) (wpAny_pure (by exact fin))))
theorem entry_ne {b : Value} {Q : Fin → Shared → Prop} (X : K.In s.heap) (I : PySem.W.InstAt s.heap x ox C od) (hs : PySem.W.findIn K (.ref C) "__eq__" = some (some (.ref f))) (hf : PySem.W.isFn K (.ref f) = true) (hu : A.units < cLine)
    (hcall : wpAny M A (call (.ref f) [.ref x, b]) (fun v s' => ∃ k, v = .bool k ∧ Q (.done (.ret (.bool (!k)))) s') E s) :
    wpAny M A (Builtin.«object.__ne__» ⟨[.ref x, b], []⟩) Q E s := by
  unfold Builtin.«object.__ne__»
  repeat (first
    | with_reducible refine wpAny_cRoomFor hu ?_
    | (refine wpAny_bind (m := callSpecialIfBound? (.ref x) (Str.ofString "__eq__") [b])
        (PySem.W.ifBound_K X I hs hf (wpAny_mono hcall (fun r s' hr => by
          obtain ⟨b, rfl, hq⟩ := hr
          repeat (first | exact hq | exact wpAny_pure hq | exact wpAny_truthy_bool hq | (refine wpAny_bind (m := truthy (.bool _)) (wpAny_truthy_bool ?_)) | wp_step)) fun _ _ e => e)))
    | wp_step)
theorem ne_K {b tb : Value} {Q : Value → Shared → Prop} (hu : A.units + 1 < cLine) (X : K.In s.heap) (I : PySem.W.InstAt s.heap x ox C od) (hb : PySem.W.Looks (model prog w) s.heap (typeOf b) tb) (hn : PySem.W.notFirst K C tb = true)
    (hs : PySem.W.findIn K (.ref C) "__eq__" = some (some (.ref f))) (hf : PySem.W.isFn K (.ref f) = true) (hne : PySem.W.findIn K (.ref C) "__ne__" = some (some (.builtin "object.__ne__"))) (hm : PySem.W.mroIn K C (.type "object") = some true)
    (h : wpAny (model prog w) A.in1 (call (.ref f) [.ref x, b]) (fun v s' => ∃ k, v = .bool k ∧ Q (.bool (!k)) s') E s) : wpAny (model prog w) A (richCompare .NotEq (.ref x) b) Q E s := by
  have one : wpAny (model prog w) A (tryCompare (.ref x) "__ne__" b) (fun r s' => ∃ v, r = some v ∧ Q v s') E s := by
    unfold tryCompare
    refine wpAny_bind (ifBound_objNe X I hne (wpAny_call (codeAny_call_builtin F.cmp_object.ne.plain F.cmpEntry_ne (PySem.W.check_slot F.cmpKind_ne F.cmpSplit_ne (I.type.andThen (PySem.W.looks_mroIn X hm)) (F.cmpArgs_ne _ _)
      (entry_ne (A := A.in1) X I hs hf (show A.units + 1 < cLine from hu) (wpAny_mono h (fun v s' hv => ?_) fun _ _ e => e))))))
    obtain ⟨k, rfl, hq⟩ := hv
    first | exact ⟨k, rfl, wpAny_pure ⟨_, rfl, hq⟩⟩ | exact ⟨k, rfl, _, rfl, hq⟩
  unfold richCompare
  simp only [oneThing_ref]
  refine wpAny_holding (wpAny_bind (wpAny_cRoomFor (by omega) ?_))
  rw [cmpInfo_NotEq]
  dsimp only
  refine wpAny_bind (I.type.here (wpAny_bind (hb.here ?_)))
  split
  · rename_i q
    have e : PySem.W.subIn K tb (.ref C) = some false := by
      rcases Bool.or_eq_true_iff.mp hn with e | e
      · rw [beq_iff_eq.mp e] at q; simp at q
      · exact beq_iff_eq.mp e
    refine wpAny_bind ((PySem.W.looks_subIn X e).here ?_)
    simp only [Bool.false_eq_true, if_false]
    refine wpAny_bind (wpAny_mono one (fun r s' z => ?_) fun _ _ e => e)
    obtain ⟨v, rfl, hq⟩ := z
    exact wpAny_pure hq
  · refine wpAny_bind (wpAny_pure ?_)
    simp only [Bool.false_eq_true, if_false]
    refine wpAny_bind (wpAny_mono one (fun r s' z => ?_) fun _ _ e => e)
    obtain ⟨v, rfl, hq⟩ := z
    exact wpAny_pure hq
end
end Mini
end
section
namespace Mini
open PySem L2 PySem.Spec PyProof.Rows
section
variable {P : PInfo} {F : Fx} {G : Sg} {cx : CTX} {X : Cx} {W : WX} {u : SuiT} {n : Nat} {A A0 : List Addr} {H H0 : Hp} {st : Sto}
/-- == (or !=) of an instance by its class's own -/
def rIns (F : Fx) (G : Sg) (cls : List Str) (neg : Bool) : R2 := fun xv yv H Q => ∃ A x y st C fs xs, RelSt F A H st ∧ Rp F A H x xv ∧ Rp F A H y yv ∧ asI st x = some (C, fs, xs) ∧ C ∈ cls ∧ (kdOf st y).isSome = true ∧
  Clo (G.Gm (C ++ ".__eq__")) [x, y] st (fun d s => ∃ b, d = .bl b ∧ QLink F A H Q (.bl (if neg then !b else b)) s) noX
theorem eqC_mem {C : Str} (h : C ∈ eqC P cx) : ∃ l, (C, l) ∈ P.eqs ∧ l ≤ cx.lvl ∧ cx.calm = true := by
  unfold eqC at h
  obtain ⟨p, hp, rfl⟩ := List.mem_map.mp h
  obtain ⟨h1, h2⟩ := List.mem_filter.mp hp
  simp only [Bool.and_eq_true, decide_eq_true_eq] at h2
  exact ⟨p.2, h1, h2.1, h2.2⟩
theorem ins_call (g : Good P F G cx X W u) {A1 : Around} {l : Nat} {C : Str} {gf : Addr} {x y : D} {pins : List (Addr × Obj)} {s : Shared} {σ : L2.St} {neg : Bool} {Q : VK} {xv yv : V} {v w : Value}
    (Cl : Callable F X.mg X.base l (fun us => call (.ref gf) us) (G.Gm (C ++ ".__eq__"))) (hr : Room l A1) (hfr : A1.frames = X.A.frames)
    (I : Inv X pins σ H s) (r : RelSt F A H st) (px : Rp F A H x xv) (py : Rp F A H y yv) (rx : RelV xv v) (ry : RelV yv w)
    (h : Clo (G.Gm (C ++ ".__eq__")) [x, y] st (fun d s => ∃ b, d = .bl b ∧ QLink F A H Q (.bl (if neg then !b else b)) s) noX) :
    wpAny (model X.prog X.w) A1 (call (.ref gf) [v, w]) (fun z s' => ∃ k, z = .bool k ∧ EP X pins σ Q (.bool (if neg then !k else k)) s') X.xe s := by
  refine wpAny_mono (Cl X W A1 g.pr g.w g.K rfl rfl hr hfr g.tk F.priv pins s σ H A [x, y] st [v, w] [xv, yv] (fun z H' => ∃ b, z = .bl b ∧ Q (.bl (if neg then !b else b)) H') I r (.cons px (.cons py .nil)) (.cons rx (.cons ry .nil))
    (h.mono (fun d s ⟨b, e, q⟩ A' H' v t r' p => ?_) fun _ _ _ _ z => z.elim)) (fun z s' hz => ?_) fun _ _ e => e
  · subst e
    cases p
    exact ⟨b, rfl, q A' H' _ t r' (.bl _)⟩
  · obtain ⟨z', H', I', rz, b, e, q⟩ := hz
    subst e
    cases (show z = Value.bool b from rz)
    exact ⟨b, rfl, .bl (if neg then !b else b), H', I', rfl, q⟩
theorem op_insEq (g : Good P F G cx X W u) : OpR X (compareOp .Eq) (rIns F G (eqC P cx) false) := by
  intro pins s σ H xv yv v w Q I rx ry ⟨A, x, y, st, C, fs, xs, r, px, py, hi, hC, hk, hw⟩
  obtain ⟨l, h1, h2, h3⟩ := eqC_mem hC
  obtain ⟨hCl, hl, gf, e1, e2, e3, Cl⟩ := g.facts.eqs C l h1 h2
  obtain ⟨a, dx, fvs, rfl, _, ha, _, _⟩ := asI_rp r px hi
  cases (show v = Value.ref a from rx)
  obtain ⟨k, hk⟩ := Option.isSome_iff_exists.mp hk
  have ty := tyx_rp g.facts r py hk
  rw [← g.K] at e1 e2 e3 ty
  obtain ⟨mA, J, _⟩ := ins_get I.hok ha
  obtain ⟨od, J, _⟩ := J.look
  obtain ⟨m, hF⟩ := I.fr
  show wpAny (model X.prog X.w) X.A (richCompare .Eq (.ref a) w) (EP X pins σ Q) X.xe s
  refine PySem.W.cmp_K (op := .Eq) (by have := g.units; omega) hF I.ok.mod.kin J (looks_ty I ry ty) (by rw [g.K]; exact first_kd g.facts hCl fun D e => kd_cls g.facts r py (by rw [hk, e])) e1 e2 ?_
  refine wpAny_mono (ins_call (neg := false) g Cl ((g.room h3).mono (by omega)) rfl I r px py rx ry hw) (fun z s' ⟨b, e, q⟩ => ?_) fun _ _ e => e
  subst e
  exact q
theorem op_insNe (g : Good P F G cx X W u) : OpR X (compareOp .NotEq) (rIns F G (eqC P cx) true) := by
  intro pins s σ H xv yv v w Q I rx ry ⟨A, x, y, st, C, fs, xs, r, px, py, hi, hC, hk, hw⟩
  obtain ⟨l, h1, h2, h3⟩ := eqC_mem hC
  obtain ⟨hCl, hl, gf, e1, e2, e3, Cl⟩ := g.facts.eqs C l h1 h2
  obtain ⟨a, dx, fvs, rfl, _, ha, _, _⟩ := asI_rp r px hi
  cases (show v = Value.ref a from rx)
  obtain ⟨k, hk⟩ := Option.isSome_iff_exists.mp hk
  have ty := tyx_rp g.facts r py hk
  have hm := (g.facts.cls C hCl).2.2.1.hm
  rw [← g.K] at e1 e2 e3 ty hm
  obtain ⟨mA, J, _⟩ := ins_get I.hok ha
  obtain ⟨od, J, _⟩ := J.look
  show wpAny (model X.prog X.w) X.A (richCompare .NotEq (.ref a) w) (EP X pins σ Q) X.xe s
  obtain ⟨l', rfl⟩ : ∃ l', l = l' + 1 := ⟨l - 1, by omega⟩
  refine ne_K (by have := g.units; omega) I.kIn J (looks_ty I ry ty) (by rw [g.K]; exact first_kd g.facts hCl fun D e => kd_cls g.facts r py (by rw [hk, e])) e1 e2 e3 hm ?_
  refine wpAny_mono (ins_call (neg := true) g Cl ((g.room h3).mono h2).in1 rfl I r px py rx ry hw) (fun z s' ⟨b, e, q⟩ => ?_) fun _ _ e => e
  subst e
  exact ⟨b, rfl, q⟩
def rCC (F : Fx) (G : Sg) (cls : List Str) (op : CmpOp) : R2 := fun x y H Q => rC F.K (copOf op) x y H Q ∨ (op = .Eq ∧ rIns F G cls false x y H Q) ∨ (op = .NotEq ∧ rIns F G cls true x y H Q)
theorem op_cc (g : Good P F G cx X W u) (op : CmpOp) : OpR X (compareOp op) (rCC F G (eqC P cx) op) := by
  intro pins s σ H x y v w Q I rx ry q
  rcases q with q | ⟨e, q⟩ | ⟨e, q⟩
  · exact op_c (by have := g.units; omega) op pins s σ H x y v w Q I rx ry (g.K ▸ q)
  · subst e
    exact op_insEq g pins s σ H x y v w Q I rx ry q
  · subst e
    exact op_insNe g pins s σ H x y v w Q I rx ry q
theorem cc_fin {op : CmpOp} {cls : List Str} {x y : D} {xv yv : V} {Q : VK} {X1 : XP} (r : RelSt F A H st) (t : Stp A0 H0 A H) (px : Rp F A H x xv) (py : Rp F A H y yv) (h : wpC G cls (copOf op) x y st (QLink F A0 H0 Q) X1) : rCC F G cls op xv yv H Q := by
  have gen : ∀ {b : Bool}, cmpD st (copOf op) x y = some b → QLink F A0 H0 Q (.bl b) st → rCC F G cls op xv yv H Q := fun e q => .inl (cmp_fin r px py e (q A H _ t r (.bl _)))
  cases op <;> simp only [copOf, wpC] at h <;> try (obtain ⟨b, e, q⟩ := h; exact gen e q)
  · split at h
    · rename_i e
      obtain ⟨h1, h2, h3⟩ := h
      exact .inr (.inl ⟨rfl, A, x, y, st, _, _, _, r, px, py, e, h1, h2, h3.mono (fun d s ⟨b, e, q⟩ => ⟨b, e, q.stp r t⟩) fun _ _ _ _ z => z⟩)
    · obtain ⟨b, e, q⟩ := h; exact gen e q
  · split at h
    · rename_i e
      obtain ⟨h1, h2, h3⟩ := h
      exact .inr (.inr ⟨rfl, A, x, y, st, _, _, _, r, px, py, e, h1, h2, h3.mono (fun d s ⟨b, e, q⟩ => ⟨b, e, q.stp r t⟩) fun _ _ _ _ z => z⟩)
    · obtain ⟨b, e, q⟩ := h; exact gen e q
theorem cmp_rd {op : CmpOp} {cls : List Str} {a' b' : CE} {σ : L2.St} {H : Hp} {Q : VK} (h : tE F G u W (.cmp cls (copOf op) a' b') σ H Q) : tOp (rCC F G cls op) (tE F G u W a') (tE F G u W b') σ H Q := by
  obtain ⟨A, env, st, rel, h⟩ := h
  unfold wpE at h
  exact tE_two rel h (fun _ _ _ _ z => z) fun x y s A2 H2 xv yv t r px py q => cc_fin r t px py q
theorem sE_cmp (ih : SndAt P F G n) {m : Bool} {a : Expr} {ops : List CmpOp} {cs : List Expr} {pos : Pos} {c : CE} (h : compE P (n + 1) cx m (.Compare a ops cs pos) = some c) (g : Good P F G cx X W u) : PE X (.Compare a ops cs pos) (tE F G u W c) := by
  simp only [compE] at h
  split at h
  · obtain ⟨a', ha, h⟩ := Option.bind_eq_some_iff.mp h
    obtain ⟨b', hb, rfl⟩ := Option.map_eq_some_iff.mp h
    exact peImp (pe_cmpR (op_cc g _) (ih.e ha g) (ih.e hb g) (beh (comp_noset hb))) fun σ H Q q => cmp_rd q
  · rename_i o1 o2 b d
    obtain ⟨a', ha, h⟩ := Option.bind_eq_some_iff.mp h
    obtain ⟨b', hb, h⟩ := Option.bind_eq_some_iff.mp h
    obtain ⟨c', hc, h⟩ := Option.bind_eq_some_iff.mp h
    unfold chnO at h
    obtain ⟨_, h⟩ := ifB_some.mp h
    cases h
    have hm : lastMarks [o1, o2] [b, d] = false := beh (comp_noset hc)
    exact peImp (pe_chain (op_c (by have := g.units; omega) o1) (op_c (by have := g.units; omega) o2) (ih.e ha g) (ih.e hb g) (ih.e hc g) hm) fun σ H Q q => g.K ▸ chn_fin trivial q
  · cases h
theorem tT_tEt {a : CE} {σ : L2.St} {H : Hp} {Q : Bool → Hp → Prop} (h : tT F G u W a σ H Q) : tE F G u W a σ H (fun x H' => ∃ k, x = .bl k ∧ Q k H') := tT_tE h
theorem sT_cmp (ih : SndAt P F G n) {a : Expr} {ops : List CmpOp} {cs : List Expr} {pos : Pos} {c : CE} (h : compT P (n + 1) cx (.Compare a ops cs pos) = some c) (g : Good P F G cx X W u) : PT X (.Compare a ops cs pos) (tT F G u W c) := by
  simp only [compT] at h
  split at h
  · obtain ⟨a', ha, h⟩ := Option.bind_eq_some_iff.mp h
    obtain ⟨b', hb, rfl⟩ := Option.map_eq_some_iff.mp h
    exact ptImp (pt_cmpR (op_cc g _) (ih.e ha g) (ih.e hb g) (beh (comp_noset hb))) fun σ H Q q => cmp_rd (tT_tE q)
  · rename_i o1 o2 b d
    obtain ⟨a', ha, h⟩ := Option.bind_eq_some_iff.mp h
    obtain ⟨b', hb, h⟩ := Option.bind_eq_some_iff.mp h
    obtain ⟨c', hc, h⟩ := Option.bind_eq_some_iff.mp h
    unfold chnO at h
    obtain ⟨_, h⟩ := ifB_some.mp h
    cases h
    have hm : lastMarks [o1, o2] [b, d] = false := beh (comp_noset hc)
    exact ptImp (pt_chain (op_c (by have := g.units; omega) o1) (op_c (by have := g.units; omega) o2) (ih.e ha g) (ih.e hb g) (ih.e hc g) hm) fun σ H Q q => g.K ▸ chn_fin trivial (tT_tE q)
  · cases h
theorem pw_one {op : BoolOp} {a : Expr} {pos : Pos} {t : TT} (h : PT X a t) : PW X (.BoolOp op [a] pos) t := by
  cases op with
  | And => exact pw_and1 h
  | Or => exact pw_or1 h
theorem sT_bool : ∀ {vs : List Expr} {n : Nat} (ih : ∀ m, m ≤ n → SndAt P F G m) {op : BoolOp} {pos : Pos} {c : CE} (h : compT P (n + 1) cx (.BoolOp op vs pos) = some c) (g : Good P F G cx X W u), PW X (.BoolOp op vs pos) (tT F G u W c)
  | [], n, ih, op, pos, c, h, g => by simp [compT] at h
  | [a], n, ih, op, pos, c, h, g => by
    simp only [compT] at h
    exact pw_one ((ih n (Nat.le_refl _)).t h g)
  | a :: b :: r, n, ih, op, pos, c, h, g => by
    simp only [compT] at h
    obtain ⟨a', ha, h⟩ := Option.bind_eq_some_iff.mp h
    obtain ⟨b', hb, rfl⟩ := Option.map_eq_some_iff.mp h
    have h1 := (ih n (Nat.le_refl _)).t ha g
    cases n with
    | zero => simp [compT] at hb
    | succ k =>
      have h2 := sT_bool (vs := b :: r) (fun m hm => ih m (by omega)) hb g
      cases op with
      | And =>
        refine pwImp (pw_and h1 h2) fun σ H Q ⟨A, env, st, rel, h⟩ => ?_
        unfold wpE at h
        refine one_T rel h (fun _ _ _ _ z => z) fun d s ⟨k, e, q⟩ => ⟨k, e, fun A1 H1 t r => ?_⟩
        cases k with
        | true => exact one_T (rel.stp t r) q (fun C f z s' q => q.stp r t) fun d s ⟨b, e, q⟩ => ⟨b, e, fun A2 H2 t2 r2 => q A2 H2 (t.trans r t2) r2⟩
        | false =>
          obtain ⟨b, e, q⟩ := q
          cases e
          exact q A1 H1 t r
      | Or =>
        refine pwImp (pw_or h1 h2) fun σ H Q ⟨A, env, st, rel, h⟩ => ?_
        unfold wpE at h
        refine one_T rel h (fun _ _ _ _ z => z) fun d s ⟨k, e, q⟩ => ⟨k, e, fun A1 H1 t r => ?_⟩
        cases k with
        | false => exact one_T (rel.stp t r) q (fun C f z s' q => q.stp r t) fun d s ⟨b, e, q⟩ => ⟨b, e, fun A2 H2 t2 r2 => q A2 H2 (t.trans r t2) r2⟩
        | true =>
          obtain ⟨b, e, q⟩ := q
          cases e
          exact q A1 H1 t r
theorem sT (ih : ∀ m, m ≤ n → SndAt P F G m) {e : Expr} {c : CE} (h : compT P (n + 1) cx e = some c) (g : Good P F G cx X W u) : PT X e (tT F G u W c) := by
  have ihn := ih n (Nat.le_refl _)
  cases e
  case UnaryOp op a pos =>
    cases op
    case Not =>
      simp only [compT] at h
      obtain ⟨a', ha, rfl⟩ := Option.map_eq_some_iff.mp h
      refine ptImp (pt_not (ihn.t ha g)) fun σ H Q ⟨A, env, st, rel, h⟩ => ?_
      unfold wpE at h
      refine one_T rel h (fun _ _ _ _ z => z) fun d s ⟨k, e, q⟩ => ⟨k, e, fun A1 H1 t r => ?_⟩
      obtain ⟨b, e, q⟩ := q
      cases e
      exact q A1 H1 t r
    all_goals exact snd_test (ihn.e (by simpa only [compT] using h) g) fun _ => rfl
  case BoolOp op vs pos => exact (sT_bool ih h g).pt
  case IfExp => simp [compT] at h
  case Compare => exact sT_cmp ihn h g
  all_goals exact snd_test (ihn.e (by simpa only [compT] using h) g) fun _ => rfl
end
end Mini
end
section
namespace Mini
open PySem L2 PySem.Spec PyProof.Rows
theorem plc_ix (n : Nat) (i : Int) : plc n i = ixN n i := rfl
theorem bnd_ix (n d : Nat) (o : Option Int) : bnd n d o = HT.sIx n d o := by cases o <;> rfl
section
variable {prog : Program} {w : World} {A : Around} {E : Value → Shared → Prop} {s : Shared}
theorem tail_bi {value slice : Expr} {o i : Value} {T id : String} {Q : Value → Shared → Prop} (hT : s.TypeIs o T) (hl : typeLookup (.type T) "__getitem__" = pure (some (.builtin id)))
    (h : wpAny (model prog w) A (getItem o i) Q E s) (hs : subscripted slice false o i = operate [o, i] (getItem o i)) : wpAny (model prog w) A (subscriptTail value slice o i) Q E s := by
  unfold subscriptTail
  refine wpAny_bind ?_
  rw [getitemInPython_of_ne hT.not_modules]
  refine wpAny_bind (wpAny_specialOf hT hl ?_)
  have fin : wpAny (model prog w) A (subscripted slice false o i) (fun r s₃ => wpAny (model prog w) A (letTemporaryGo value o r >>= fun _ => pure r) Q E s₃) E s := by
    rw [hs]
    exact wpAny_operating (wpAny_mono h (fun r s₃ h₃ => wpAny_bind (wpAny_letTemporaryGo (wpAny_pure h₃))) fun _ _ x => x)
  first
    | exact wpAny_pure (wpAny_bind fin)
    | exact wpAny_bind (wpAny_pure (wpAny_bind fin))
    | exact wpAny_bind fin
end
section
variable {P : PInfo} {F : Fx} {G : Sg} {cx : CTX} {X : Cx} {W : WX} {u : SuiT} {n : Nat} {A A0 : List Addr} {H H0 : Hp} {st : Sto}
theorem at_rp {xs : List D} {vs : List V} {i : Int} {d : D} (r : Rps F A H xs vs) (h : atD xs i = some d) : ∃ v, atI vs i = some v ∧ Rp F A H d v := by
  unfold atD at h
  split at h
  · rename_i j hj
    obtain ⟨v, h1, h2⟩ := r.get h
    refine ⟨v, ?_, h2⟩
    unfold atI
    rw [← r.length, ← plc_ix, hj]
    exact h1
  · cases h
def rIxD : R2 := fun x y H Q => ∃ a v, x = .ref a ∧ DGet H a y (some v) ∧ Q v H
theorem ix_dict (hu : X.A.units + 1 < cLine) : IxR X rIxD := by
  intro value slice pins s σ H x y v w Q I rx ry h hs
  obtain ⟨a, z, rfl, g, q⟩ := h
  cases rx
  exact tail_bi (dict_typeIs I g) PySem.F.slot_dict_getitem.lookup (d_getItem hu I g ry fun w' s3 I3 rw' => ⟨z, H, I3, rw', q⟩) hs
theorem plain_ix {b : Expr} (h : plainIx b = true) : PlainIx b := by
  intro o i
  cases b <;> first | rfl | (simp [plainIx] at h)
def rIxM (K : PySem.W.Frag) : R2 := fun x y H Q => (rIxL K x y H Q ∨ rIxT K x y H Q) ∨ rIxD x y H Q
theorem ix_fin {x y d : D} {xv yv : V} {Q : VK} (r : RelSt F A H st) (t : Stp A0 H0 A H) (px : Rp F A H x xv) (py : Rp F A H y yv) (e : idxD st x y = some d) (h : QLink F A0 H0 Q d st) : rIxM F.K xv yv H Q := by
  unfold idxD at e
  split at e
  · rename_i xs z k ex
    obtain ⟨a, vs, rfl, hs, rs⟩ := asS_rp r px ex
    obtain ⟨v, h1, h2⟩ := at_rp rs e
    cases py
    have q := h A H v t r h2
    rcases hs with hs | hs
    · exact .inl (.inr ⟨a, vs, _, v, rfl, rfl, hs, h1, q⟩)
    · exact .inl (.inl ⟨a, vs, _, v, rfl, rfl, SqL.of hs, h1, q⟩)
  · rename_i ks vs ex ec
    split at e
    · rename_i hk
      obtain ⟨a, rfl, ob⟩ := asC_rp r px ec
      simp only [keyOk, Bool.and_eq_true] at hk
      obtain ⟨k, rfl⟩ := leaf_key hk.1
      cases rp_key py
      obtain ⟨kvs, e1, e2, q⟩ := ob_dct hk.2 ob
      subst e2
      rcases look_d k q with ⟨h1, h2⟩ | ⟨d', v, h1, h2, h3⟩
      · rw [h1] at e; cases e
      · rw [h1] at e; cases e
        exact .inr ⟨a, v, rfl, h2 ▸ DGet.k e1, h A H v t r h3⟩
    · cases e
  · cases e
theorem sE_idx (ih : SndAt P F G n) {a b : Expr} {pos : Pos} {a' b' : CE} (ha : PE X a (tE F G u W a')) (hb : PE X b (tE F G u W b')) (hp : plainIx b = true) (g : Good P F G cx X W u) : PE X (.Subscript a b pos) (tE F G u W (.idx a' b')) := by
  refine peImp (pe_ix ((ix_list.or ix_tup).or (ix_dict (by have := g.units; omega))) ha hb (plain_ix hp)) fun σ H Q ⟨A, env, st, rel, h⟩ => ?_
  unfold wpE at h
  exact tE_two rel h (fun _ _ _ _ z => z) fun x y s A2 H2 xv yv t r px py ⟨d, e, q⟩ => by rw [g.K]; exact ix_fin r t px py e q

/-! ### slices -/
def tPart' (t : TE) : TO := fun σ H Q => t σ H fun x H1 => ∃ o, ((x = .non ∧ o = none) ∨ ∃ i, x = .int i ∧ o = some i) ∧ Q o H1
theorem po_some' {e : Expr} {te : TE} (h : PE X e te) : PO X (some e) (tPart' te) := by
  refine ⟨fun pins s σ H Q I hw => ?_⟩
  rw [evalPart_some]
  refine thn (h.run pins s σ H _ I hw) fun u s1 ⟨x, H1, I1, r1, q1⟩ => ?_
  obtain ⟨o, ⟨rfl, rfl⟩ | ⟨i, rfl, rfl⟩, q⟩ := q1
  · cases (show u = Value.none from r1)
    exact ⟨none, H1, I1, .none, q⟩
  · obtain ⟨t, rfl⟩ := r1
    exact ⟨some i, H1, I1, .int i t, q⟩
/-- a part that may be None -/
theorem sO (ih : SndAt P F G n) {e : Option Expr} {c : CE} (h : compO P (n + 1) cx e = some c) (g : Good P F G cx X W u) : PO X e (tO F G u W c) := by
  cases e with
  | none =>
    simp only [compO, Option.some.injEq] at h
    subst h
    refine poImp po_none fun σ H Q ⟨A, env, st, rel, h⟩ => ?_
    unfold wpE at h
    obtain ⟨o, e, q⟩ := h
    cases e
    exact q A H .refl rel.rs
  | some e =>
    simp only [compO] at h
    refine poImp (po_some' (ih.e h g)) fun σ H Q ⟨A, env, st, rel, h⟩ => ?_
    refine tE_one rel h (fun _ _ _ _ z => z) fun d s A' H' v t r p ⟨o, e, q⟩ => ?_
    unfold optI at e
    split at e
    · cases e; cases p; exact ⟨_, .inl ⟨rfl, rfl⟩, q A' H' t r⟩
    · cases e; cases p; exact ⟨_, .inr ⟨_, rfl, rfl⟩, q A' H' t r⟩
    · cases e
theorem cut_rp {xs : List D} {vs : List V} (lo hi : Option Int) (r : Rps F A H xs vs) : Rps F A H (cut xs lo hi) (cutV vs lo hi) := by
  unfold cut cutV
  simp only [bnd_ix]
  rw [r.length]
  exact (r.drop _).take _
theorem cut_whole {xs : List V} {lo hi : Option Int} (h : HT.sIx xs.length 0 lo = 0 ∧ HT.sIx xs.length xs.length hi = xs.length) : cutV xs lo hi = xs := by
  unfold cutV
  rw [h.1, h.2]
  simp
def rSlM (K : PySem.W.Frag) : V → Option Int → Option Int → Hp → VK → Prop := fun x lo hi H Q => rSlL K x lo hi H Q ∨ rSlA K x lo hi H Q
theorem sl_fin {m : Bool} {x d : D} {xv : V} {Q : VK} {lo hi : Option Int} (r : RelSt F A H st) (t : Stp A0 H0 A H) (px : Rp F A H x xv) (e : slcD st x lo hi = some d) (h : retM m d st (QLink F A0 H0 Q)) : rSlM F.K xv lo hi H Q := by
  cases x with
  | tup xs =>
    simp only [slcD, Option.some.injEq] at e
    subst e
    have h := retM_nl h (by intro; simp) (by intro _; simp)
    cases px with | tup tt rs =>
    rename_i p vs
    refine .inr ⟨p, vs, rfl, tt.sq, fun hw => h A H _ t r (.tup tt ?_), fun _ a ha => q_new_tup r t (cut_rp lo hi rs) ha h⟩
    have := cut_rp lo hi rs
    rw [cut_whole hw] at this
    exact this
  | _ =>
    simp only [slcD] at e
    obtain ⟨xs, ex, rfl⟩ := Option.map_eq_some_iff.mp e
    obtain ⟨a, vs, rfl, ha, rs⟩ := asL_rp r px ex
    exact .inl ⟨a, vs, rfl, SqL.of ha, fun p hp => ret_lst r t (cut_rp lo hi rs) hp h⟩
theorem sE_slc {m : Bool} {a : Expr} {lo hi : Option Expr} {p2 pos : Pos} {a' l' h' : CE} (ha : PE X a (tE F G u W a')) (hl : PO X lo (tO F G u W l')) (hh : PO X hi (tO F G u W h')) (g : Good P F G cx X W u) : PE X (.Subscript a (.Slice lo hi none p2) pos) (tE F G u W (.slc m a' l' h')) := by
  refine peImp (pe_slice (sl_list.or sl_tupA) ha hl hh) fun σ H Q ⟨A, env, st, rel, h⟩ => ?_
  unfold wpE at h
  refine tE_one rel h (fun _ _ _ _ z => z) fun x s1 A1 H1 v1 t1 r1 p1 q1 => ?_
  refine ⟨A1, env, s1, rel.stp t1 r1, wpE_mono _ _ _ (fun l s2 ⟨lo', e2, q2⟩ => ⟨lo', e2, fun A2 H2 t2 r2 => ?_⟩) (fun C f z s' q => q.stp r1 t1) q1⟩
  refine ⟨A2, env, s2, (rel.stp t1 r1).stp t2 r2, wpE_mono _ _ _ (fun l3 s3 ⟨hi', d, e3, e4, q3⟩ => ⟨hi', e3, fun A3 H3 t3 r3 => ?_⟩) (fun C f z s' q => (q.stp r1 t1).stp r2 t2) q2⟩
  rw [g.K]
  exact sl_fin r3 ((t1.trans r1 t2).trans r2 t3) ((p1.stp t2).stp t3) e4 q3
theorem sE_rev {m : Bool} {a : Expr} {p1 p2 p3 pos : Pos} {k : Nat} {a' : CE} (ha : PE X a (tE F G u W a')) (g : Good P F G cx X W u) : PE X (.Subscript a (.Slice none none (some (.UnaryOp .USub (.Constant (.int 1) k p1) p2)) p3) pos) (tE F G u W (.rev m a')) := by
  refine peImp (pe_revL ha) fun σ H Q ⟨A, env, st, rel, h⟩ => ?_
  unfold wpE at h
  refine tE_one rel h (fun _ _ _ _ z => z) fun x s1 A1 H1 v1 t1 r1 p1 ⟨d, e, q⟩ => ?_
  unfold revD at e
  obtain ⟨xs, ex, rfl⟩ := Option.map_eq_some_iff.mp e
  obtain ⟨a, vs, rfl, ha, rs⟩ := asL_rp r1 p1 ex
  exact ⟨a, vs, rfl, SqL.of ha, fun p hp => ret_lst r1 t1 rs.reverse hp q⟩
theorem sE_sub (ih : SndAt P F G n) {m : Bool} {a ix : Expr} {pos : Pos} {c : CE} (h : compE P (n + 1) cx m (.Subscript a ix pos) = some c) (g : Good P F G cx X W u) : PE X (.Subscript a ix pos) (tE F G u W c) := by
  simp only [compE] at h
  split at h
  · obtain ⟨a', ha, rfl⟩ := Option.map_eq_some_iff.mp h
    exact sE_rev (ih.e ha g) g
  · obtain ⟨a', ha, h⟩ := Option.bind_eq_some_iff.mp h
    obtain ⟨l', hl, h⟩ := Option.bind_eq_some_iff.mp h
    obtain ⟨h', hh, rfl⟩ := Option.map_eq_some_iff.mp h
    exact sE_slc (ih.e ha g) (ih.o hl g) (ih.o hh g) g
  · cases h
  · rename_i h1 h2 h3
    obtain ⟨a', ha, h⟩ := Option.bind_eq_some_iff.mp h
    obtain ⟨b', hb, rfl⟩ := Option.map_eq_some_iff.mp h
    refine sE_idx ih (ih.e ha g) (ih.e hb g) ?_ g
    cases ix <;> first | rfl | exact absurd rfl (h3 _ _ _ _)
/-! ### displays of dicts -/
theorem ret_dct {m : Bool} {ks xs : List D} {kvs : List (Key × V)} {p : Addr} {Q : VK} (r : RelSt F A H st) (t : Stp A0 H0 A H) (hk : ks = kvs.map (fun q => dKey q.1)) (hr : Rps F A H xs (kvs.map (·.2))) (hp : H p = none) (h : retM m (.dct ks xs) st (QLink F A0 H0 Q)) :
    Q (.ref p) (upd H p (.dK kvs)) := by
  cases m with
  | false =>
    have h' : QLink F A0 H0 Q (.dct ks xs) st := h
    exact h' A _ _ (t.trans r (Stp.new hp)) (r.new hp) (.dct (.dctK upd_same hk (hr.stp (Stp.new hp))) (r.out hp))
  | true =>
    have h' : QLink F A0 H0 Q (.ref st.length) (st ++ [.dct ks xs]) := h
    refine h' (A ++ [p]) _ _ (t.trans r (Stp.push hp)) (r.push hp (.dctK upd_same hk (hr.stp (Stp.push hp)))) (.ref ?_)
    rw [← r.1]; simp
/-- the readings of a display's pairs, one by one -/
def trsOf (F : Fx) (G : Sg) (u : SuiT) (W : WX) : CEs → List (TE × TE)
  | .cons a (.cons b r) => (tE F G u W a, tE F G u W b) :: trsOf F G u W r
  | _ => []
theorem pairs_of {f : Expr → Option CE} (hf : ∀ e c, f e = some c → PE X e (tE F G u W c)) {pos : Pos} : ∀ {ks : List (Option Expr)} {vs : List Expr} {es : CEs}, pairsW f ks vs = some es →
    PPs X pos ks vs (trsOf F G u W es) ∧ ks.all (·.isSome) = true ∧ ks.length = vs.length ∧ (es = .nil → ks = [])
  | [], [], _, h => by simp only [pairsW, Option.some.injEq] at h; subst h; exact ⟨pps_nil, rfl, rfl, fun _ => rfl⟩
  | some k :: ks, v :: vs, es, h => by
    simp only [pairsW] at h
    split at h
    · rename_i a b r ea eb er
      cases h
      obtain ⟨h1, h2, h3, _⟩ := pairs_of hf (pos := pos) er
      exact ⟨pps_cons (hf _ _ ea) (hf _ _ eb) h1, by simp [h2], by simp [h3], by simp⟩
    · cases h
  | none :: _, _, _, h => by simp [pairsW] at h
  | [], _ :: _, _, h => by simp [pairsW] at h
  | some _ :: _, [], _, h => by simp [pairsW] at h
/-- alternating -/
def Alt : CEs → Prop
  | .nil => True
  | .cons _ (.cons _ r) => Alt r
  | _ => False
theorem alt_of {f : Expr → Option CE} : ∀ {ks : List (Option Expr)} {vs : List Expr} {es : CEs}, pairsW f ks vs = some es → Alt es
  | [], [], _, h => by simp only [pairsW, Option.some.injEq] at h; subst h; trivial
  | some k :: ks, v :: vs, es, h => by
    simp only [pairsW] at h
    split at h
    · rename_i a b r ea eb er
      cases h
      show Alt r
      exact alt_of er
    · cases h
  | none :: _, _, _, h => by simp [pairsW] at h
  | [], _ :: _, _, h => by simp [pairsW] at h
  | some _ :: _, [], _, h => by simp [pairsW] at h
theorem pairs_rd : ∀ {es : CEs} {A : List Addr} {H : Hp} {env : Env} {st : Sto} {σ : L2.St} {Q1 : List D → Sto → Prop} {X1 : XP} {R : List (V × V) → Hp → Prop}, Alt es → Rel F u A H env st σ → wpEs G es env st Q1 X1 →
    (∀ C f x s, X1 C f x s → XLink F W σ A H C f x s) →
    (∀ ds s A' H' ps, Stp A H A' H' → RelSt F A' H' s → Rps F A' H' (evens ds) (ps.map (·.1)) → Rps F A' H' (odds ds) (ps.map (·.2)) → Q1 ds s → R ps H') → tPairs (trsOf F G u W es) σ H R
  | .nil, A, H, env, st, σ, Q1, X1, R, _, rel, h, hx, fin => by
    unfold wpEs at h
    exact fin [] st A H [] .refl rel.rs .nil .nil h
  | .cons a (.cons b r), A, H, env, st, σ, Q1, X1, R, ha, rel, h, hx, fin => by
    unfold wpEs at h
    refine tE_one rel h hx fun x s A1 H1 xv t1 r1 p1 q1 => ?_
    unfold wpEs at q1
    refine tE_one (rel.stp t1 r1) q1 (fun C f z s' q => (hx C f z s' q).stp r1 t1) fun y s2 A2 H2 yv t2 r2 p2 q2 => ?_
    have t12 := t1.trans r1 t2
    refine pairs_rd (es := r) ha (rel.stp t12 r2) q2 (fun C f z s' q => (hx C f z s' q).stp r2 t12) fun ds s3 A3 H3 ps t3 r3 pe po q3 => ?_
    exact fin (x :: y :: ds) s3 A3 H3 ((xv, yv) :: ps) (t12.trans r2 t3) r3 (.cons ((p1.stp t2).stp t3) pe) (.cons (p2.stp t3) po) q3
  | .cons _ .nil, _, _, _, _, _, _, _, _, ha, _, _, _, _ => ha.elim
  | .cons _ (.star _ _), _, _, _, _, _, _, _, _, ha, _, _, _, _ => ha.elim
  | .star _ _, _, _, _, _, _, _, _, _, ha, _, _, _, _ => ha.elim
theorem leaf_keys : ∀ {ks : List D} {vs : List V}, ks.all leafK = true → Rps F A H ks vs → ∃ js : List Key, ks = js.map dKey ∧ vs = js.map kV
  | [], _, _, .nil => ⟨[], rfl, rfl⟩
  | k :: ks, _, h, .cons p t => by
    simp only [List.all_cons, Bool.and_eq_true] at h
    obtain ⟨j, rfl⟩ := leaf_key h.1
    obtain ⟨js, e1, e2⟩ := leaf_keys h.2 t
    cases rp_key p
    exact ⟨j :: js, by simp [e1], by simp [e2]⟩
theorem merge_new : ∀ (kvs acc : List (Key × V)), (kvs.map (·.1)).Nodup → (∀ k ∈ kvs.map (·.1), k ∉ acc.map (·.1)) → mergeK acc kvs = acc ++ kvs
  | [], acc, _, _ => by simp [mergeK]
  | (k, v) :: r, acc, hn, ho => by
    simp only [List.map_cons, List.nodup_cons] at hn
    have h1 : putK acc k v = acc ++ [(k, v)] := by
      unfold putK
      rw [if_neg]
      simp only [List.any_eq_true, decide_eq_true_eq, not_exists, not_and]
      intro p hp e
      exact ho k (by simp) (List.mem_map.mpr ⟨p, hp, e⟩)
    show mergeK (putK acc k v) r = _
    rw [h1, merge_new r (acc ++ [(k, v)]) hn.2 ?_, List.append_assoc]
    · rfl
    · intro j hj hm
      simp only [List.map_append, List.map_cons, List.map_nil, List.mem_append, List.mem_singleton] at hm
      rcases hm with hm | rfl
      · exact ho j (by simp [hj]) hm
      · exact hn.1 hj
theorem nodup_keys {js : List Key} (h : (js.map dKey).Pairwise fun a b => keyB a b = false) : js.Nodup := by
  rw [List.pairwise_map] at h
  exact h.imp fun {a b} e q => by subst q; rw [keyB_d] at e; simp at e
theorem zip_maps : ∀ (ps : List (V × V)) (js : List Key), ps.map (·.1) = js.map kV → ps = (js.zip (ps.map (·.2))).map (fun q => (kV q.1, q.2)) ∧ (js.zip (ps.map (·.2))).map (·.1) = js ∧ (js.zip (ps.map (·.2))).map (·.2) = ps.map (·.2)
  | [], [], _ => ⟨rfl, rfl, rfl⟩
  | p :: ps, j :: js, h => by
    simp only [List.map_cons, List.cons.injEq] at h
    obtain ⟨e1, e2, e3⟩ := zip_maps ps js h.2
    obtain ⟨x, y⟩ := p
    have hx : x = kV j := h.1
    subst hx
    refine ⟨?_, by simp [e2], by simp [e3]⟩
    simp only [List.map_cons, List.zip_cons_cons, List.cons.injEq, true_and]
    exact e1
  | [], _ :: _, h => by simp at h
  | _ :: _, [], h => by simp at h
theorem sE_dict (ih : SndAt P F G n) {m : Bool} {ks : List (Option Expr)} {vs : List Expr} {pos : Pos} {c : CE} (h : compE P (n + 1) cx m (.Dict ks vs pos) = some c) (g : Good P F G cx X W u) : PE X (.Dict ks vs pos) (tE F G u W c) := by
  simp only [compE] at h
  obtain ⟨es, he, h⟩ := Option.bind_eq_some_iff.mp h
  obtain ⟨h15, h⟩ := ifB_some.mp h
  cases h
  obtain ⟨hP, h1, h2, h3⟩ := pairs_of (pos := pos) (fun e c he => ih.e he g) he
  have hA := alt_of he
  simp only [decide_eq_true_eq] at h15
  by_cases h0 : ks = []
  · subst h0
    cases vs with
    | nil =>
      simp only [pairsW, Option.some.injEq] at he
      subst he
      refine peImp pe_dnewK fun σ H Q ⟨A, env, st, rel, h⟩ => ?_
      unfold wpE at h
      exact fun p hp => ret_dct (kvs := []) rel.rs .refl rfl .nil hp h
    | cons _ _ => simp at h2
  · refine peImp (pe_disp hP h1 h2 h0 h15) fun σ H Q ⟨A, env, st, rel, h⟩ => ?_
    have hne : es ≠ .nil := fun e => h0 (h3 e)
    have h' : m = true ∧ wpEs G es env (st ++ [.dct [] []]) (fun ds s => s[st.length]? = some (.dct [] []) ∧ (evens ds).length ≤ 15 ∧ (evens ds).all leafK = true ∧ (evens ds).Pairwise (fun a b => keyB a b = false) ∧
      QLink F A H Q (.ref st.length) (s.set st.length (.dct (evens ds) (odds ds)))) (XLink F W σ A H) := by
      cases es with
      | nil => exact absurd rfl hne
      | cons a b => unfold wpE at h; exact h
      | star a b => unfold wpE at h; exact h
    obtain ⟨_, h⟩ := h'
    intro p hp
    have tp : Stp A H (A ++ [p]) (upd H p (.dK [])) := Stp.push hp
    have rp : RelSt F (A ++ [p]) (upd H p (.dK [])) (st ++ [.dct [] []]) := rel.rs.push hp (.dctK (kvs := []) upd_same rfl .nil)
    refine pairs_rd hA (rel.stp tp rp) h (fun C f z s' q => q.stp rp tp) fun ds s A' H' ps t r pe po ⟨q1, q15, q2, q3, q4⟩ => ?_
    obtain ⟨js, e1, e2⟩ := leaf_keys q2 pe
    have hat : A'[st.length]? = some p := t.at (by rw [← rel.rs.1]; simp)
    obtain ⟨a, ha, ob⟩ := r.2.2 _ _ q1
    rw [hat] at ha; cases ha
    obtain ⟨kvs0, ek0, ek1, _⟩ := ob_dct rfl ob
    have : kvs0 = [] := by cases kvs0 with | nil => rfl | cons a b => simp at ek1
    subst this
    obtain ⟨z1, z2, z3⟩ := zip_maps ps js e2
    refine ⟨ek0, js.zip (ps.map (·.2)), z1, ?_, ?_⟩
    · rw [List.length_zip]
      have : (evens ds).length = js.length := by rw [e1, List.length_map]
      omega
    · rw [merge_new _ [] (by rw [z2]; exact nodup_keys (e1 ▸ q3)) (by simp)]
      rw [List.nil_append]
      refine q4 A' _ _ ((tp.trans rp t).trans r (Stp.set hat)) (r.set hat (.dctK upd_same ?_ ?_)) (.ref hat)
      · rw [e1]
        have : (js.zip (ps.map (·.2))).map (fun q => dKey q.1) = ((js.zip (ps.map (·.2))).map (·.1)).map dKey := by rw [List.map_map]; rfl
        rw [this, z2]
      · rw [z3]; exact po.stp (Stp.set hat)
end
end Mini
end
section
/-! Calls. -/
namespace Mini
open PySem L2 PySem.Spec PyProof.Rows
section
variable {P : PInfo} {F : Fx} {G : Sg} {cx : CTX} {X : Cx} {W : WX} {u : SuiT} {n : Nat} {A A0 : List Addr} {H H0 : Hp} {st : Sto}
/-- a call's wish, behind the arguments -/
def CallQ (F : Fx) (W : WX) (S : Spec) (σ : L2.St) (Q : VK) (vs : List V) (H : Hp) : Prop := ∃ A ds st, RelSt F A H st ∧ Rps F A H ds vs ∧ Clo S ds st (QLink F A H Q) (XLink F W σ A H)
theorem CallQ.run (g : Good P F G cx X W u) {l : Nat} {run : List Value → Sem Value} {S : Spec} (Cl : Callable F X.mg X.base l run S) (hr : Room l X.A) {pins : List (Addr × Obj)} {s : Shared} {σ : L2.St} {H : Hp} {Q : VK} {vs : List V} {us : List Value}
    (I : Inv X pins σ H s) (r : Vals vs us) (h : CallQ F W S σ Q vs H) : wpAny (model X.prog X.w) X.A (run us) (EP X pins σ Q) X.xe s := by
  obtain ⟨A, ds, st, h1, h2, h3⟩ := h
  exact Cl X W X.A g.pr g.w g.K rfl rfl hr rfl g.tk F.priv pins s σ H A ds st us vs Q I h1 h2 r h3
theorem plain_cons {e : Expr} {es : List Expr} (h : (e :: es).all (fun e => !isStar e) = true) : isStar e = false ∧ es.all (fun e => !isStar e) = true := by
  simp only [List.all_cons, Bool.and_eq_true] at h
  exact ⟨not_star h.1, h.2⟩
/-- f(e, ..) of a def or a class -/
theorem pe_callC (g : Good P F G cx X W u) {f : Str} {fa : Addr} {S : Spec} {l : Nat} {args : List Expr} {as' : CEs} {p pos : Pos} (hg : cx.glob f = true) (hm : X.mg f = some (.ref fa)) (hk : PySem.W.keepIn X.K (.ref fa) = true)
    (Cl : Callable F X.mg X.base l (fun us => call (.ref fa) us) S) (hr : Room l X.A) (ha : PA X args (tA F G u W as')) (hpl : args.all (fun e => !isStar e) = true) (h0 : args = [] → as' = .nil) :
    PE X (.Call (.Name f p) args [] pos) (fun σ H Q => tA F G u W as' σ H (CallQ F W S σ Q)) := by
  refine ⟨fun pins s σ H Q I h => ?_⟩
  obtain ⟨hg, hdb⟩ := g.glob hg
  refine wpAny_Call_Name_kw (ld_glob I hg hm ?_ hdb)
  cases args with
  | nil =>
    obtain ⟨A, env, st, rel, h⟩ := h
    rw [h0 rfl] at h
    unfold wpEs at h
    exact PySem.W.callWith_K0 I.kIn hk (CallQ.run g Cl hr (us := []) I .nil (h A H [] .refl rel.rs .nil))
  | cons e es =>
    obtain ⟨h1, h2⟩ := plain_cons hpl
    exact PySem.W.callWith_K (h₀ := X.base) I.ok.mod.kin hk (thn (ha.run pos pins s σ H _ I h) fun us s1 ⟨vs, H1, I1, r, q⟩ => ⟨I1.kIn, CallQ.run g Cl hr I1 r q⟩) (star_plain h1) (any_plain h2)
/-- f(e, .., k = v) -/
theorem pe_callCK (g : Good P F G cx X W u) {f k : Str} {fa : Addr} {S : Spec} {l : Nat} {args : List Expr} {e1 : Expr} {as' : CEs} {e1' : CE} {p pos kp : Pos} (hg : cx.glob f = true) (hm : X.mg f = some (.ref fa)) (hk : PySem.W.keepIn X.K (.ref fa) = true)
    (Cl : Callable F X.mg X.base l (fun us => call (.ref fa) us.dropLast [(k, us.getLastD .none)]) S) (hr : Room l X.A) (ha : PA X args (tA F G u W as')) (he1 : PE X e1 (tE F G u W e1')) (hpl : args.all (fun e => !isStar e) = true) (h0 : args ≠ []) :
    PE X (.Call (.Name f p) args [⟨some k, e1, kp⟩] pos) (fun σ H Q => tA F G u W as' σ H fun vs H1 => tE F G u W e1' σ H1 fun v H2 => CallQ F W S σ Q (vs ++ [v]) H2) := by
  refine ⟨fun pins s σ H Q I h => ?_⟩
  obtain ⟨hg, hdb⟩ := g.glob hg
  refine wpAny_Call_Name_kw (ld_glob I hg hm ?_ hdb)
  cases args with
  | nil => exact absurd rfl h0
  | cons e es =>
    obtain ⟨h1, h2⟩ := plain_cons hpl
    have hkw : PK X [⟨some k, e1, kp⟩] (tCons (tE F G u W e1') tNil) := pk_cons he1 pk_nil
    refine PySem.W.callWith_KW (h₀ := X.base) I.ok.mod.kin hk rfl (thn (ha.run pos pins s σ H _ I h) fun us s1 ⟨vs, H1, I1, r, q⟩ => ?_) ?_ (star_plain h1)
    · refine thn (hkw.run pos pins s1 σ H1 (fun zs H2 => ∃ v, zs = [v] ∧ CallQ F W S σ Q (vs ++ [v]) H2) I1 ?_) fun ws s2 ⟨zs, H2, I2, rz, v, ez, q2⟩ => ⟨I2.kIn, ?_⟩
      · obtain ⟨A, env, st, rel, q⟩ := q
        exact ⟨A, env, st, rel, wpE_mono _ _ _ (fun d s q A' H' v t r p => ⟨v, rfl, q A' H' v t r p⟩) (fun _ _ _ _ z => z) q⟩
      · subst ez
        obtain ⟨w, rfl, rw'⟩ := Vals.one rz
        have := CallQ.run g Cl hr (us := us ++ [w]) I2 (r.append (.cons rw' .nil)) q2
        rw [List.dropLast_concat, List.getLastD_concat] at this
        exact this
    · show ((backTo pos (starEach (e :: es) X.env)).any (·.1) || false) = false
      rw [any_plain hpl]; rfl
theorem tA_callQ {cs : CEs} {S : Spec} {c : CE} (hw : ∀ env st Q X1, wpE G c env st Q X1 → wpEs G cs env st (fun ds s => Clo S ds s Q X1) X1) : ∀ σ H Q, tE F G u W c σ H Q → tA F G u W cs σ H (CallQ F W S σ Q) := by
  rintro σ H Q ⟨A, env, st, rel, h⟩
  refine tA_one rel (hw _ _ _ _ h) (fun _ _ _ _ z => z) fun ds s A1 H1 vs t r p q => ⟨A1, ds, s, r, p, q.mono (fun d s q => q.stp r t) fun C f x s q => q.stp r t⟩
/-! ### methods -/
section
variable {M : Model} {AA : Around} {E : Value → Shared → Prop} {s : Shared} {env : PySem.Env}
theorem few_plain {args : List Expr} {pos : Pos} (h : args.all (fun e => !isStar e) = true) (hl : args.length < 20) : ((backTo pos (starEach args env)).all (fun x => !x.1) && (backToKw pos (keywordEach [] env)).all (fun x => x.1.isSome)
      && decide (args.length + ([] : List Keyword).length + (if ([] : List Keyword).isEmpty then 0 else 1) < 30)) = true := by
  have h1 : (backTo pos (starEach args env)).all (fun x => !x.1) = true := by
    have := any_plain (pos := pos) (env := env) h
    rw [List.all_eq_not_any_not]
    simp only [Bool.not_not]
    rw [this]; rfl
  rw [h1]
  show (true && true && decide _) = true
  simp
  omega
theorem mcall_tree {o : Expr} {name : Str} {apos pos : Pos} {args : List Expr} {Q : Value → Shared → Prop} (hbase : attributeBase o name env (eval o env) = eval o env) (hpl : args.all (fun e => !isStar e) = true) (hl : args.length < 20) (hline : (apos.endLine == pos.line) = true)
    (h : wpAny M AA (eval o env) (fun ov s₁ => wpAny M AA (getMethod ov name (do return (← importBound o env).getD true)) (fun fx s₂ => wpAny M AA (callWith pos fx.1 fx.2 (backTo pos (starEach args env)) []) Q E s₂) E s₁) E s) :
    wpAny M AA (eval (.Call (.Attribute o name apos) args [] pos) env) Q E s := by
  rw [arm_eval_Call, hbase]
  refine wpAny_bind (wpAny_mono h (fun ov s₁ h₁ => ?_) fun _ _ e => e)
  refine wpAny_bind (wpAny_standAt ?_)
  have hform : methodCallForm (args.length + ([] : List Keyword).length) (backTo pos (starEach args env)) (backToKw pos (keywordEach [] env)) = true := few_plain hpl hl
  have hpos : methodCallPos true o env apos pos = pure pos := by unfold methodCallPos; simp [hline]
  unfold methodCall
  rw [hform]
  unfold calleeOf
  simp only [if_true]
  refine wpAny_bind (wpAny_holding (wpAny_mono h₁ (fun fx s₂ h₂ => ?_) fun _ _ e => e))
  exact wpAny_bind (wpAny_of_eq hpos h₂)
end
theorem pe_mcC (g : Good P F G cx X W u) {o : Expr} {o' : CE} {C m : Str} {gf : Addr} {S : Spec} {l : Nat} {args : List Expr} {as' : CEs} {apos pos : Pos} (ho : PE X o (tE F G u W o')) (hs : isSuper o = false) (hC : C ∈ F.clss) (hm : Meth X.K (F.cad C) m gf)
    (Cl : Callable F X.mg X.base l (fun us => call (.ref gf) us) S) (hr : Room l X.A) (ha : PA X args (tA F G u W as')) (hpl : args.all (fun e => !isStar e) = true) (h0 : args = [] → as' = .nil) (hl : args.length < 20) (hline : (apos.endLine == pos.line) = true) :
    PE X (.Call (.Attribute o m apos) args [] pos) (fun σ H Q => tE F G u W o' σ H fun x H1 => (∃ a dx fvs, x = .ref a ∧ H1 a = some (.ins (F.cad C) dx fvs) ∧ fvs.lookup m = none) ∧ tA F G u W as' σ H1 fun vs H2 => CallQ F W S σ Q (x :: vs) H2) := by
  refine ⟨fun pins s σ H Q I h => ?_⟩
  refine mcall_tree (base_plain hs) hpl hl hline (thn (ho.run pins s σ H _ I h) fun w s1 ⟨x, H1, I1, rx, ⟨a, dx, fvs, ex, ea, l1⟩, q⟩ => ?_)
  subst ex
  obtain rfl : w = Value.ref a := rx
  obtain ⟨_, c1, _, _⟩ := g.facts.cls C hC
  refine getmeth_ok I1 ea (by rw [g.K]; exact c1) hm l1 ?_
  cases args with
  | nil =>
    obtain ⟨A, env, st, rel, q⟩ := q
    rw [h0 rfl] at q
    unfold wpEs at q
    exact PySem.W.callWith_K0 (first := [.ref a]) I1.kIn hm.kp (CallQ.run g Cl hr (us := [.ref a]) (vs := [.ref a]) I1 (.cons rfl .nil) (q A H1 [] .refl rel.rs .nil))
  | cons e es =>
    obtain ⟨h1, h2⟩ := plain_cons hpl
    exact PySem.W.callWith_K (first := [.ref a]) (h₀ := X.base) I1.ok.mod.kin hm.kp (thn (ha.run pos pins s1 σ H1 _ I1 q) fun us s2 ⟨vs, H2, I2, r, q2⟩ => ⟨I2.kIn, CallQ.run g Cl hr (us := .ref a :: us) (vs := .ref a :: vs) I2 (.cons rfl r) q2⟩) (star_plain h1) (any_plain h2)
theorem lookup_none : ∀ {fvs : List (Str × V)} {m : Str}, m ∉ fvs.map (·.1) → fvs.lookup m = none
  | [], _, _ => rfl
  | (f, v) :: r, m, h => by
    simp only [List.map_cons, List.mem_cons, not_or] at h
    have : (m == f) = false := by simpa using h.1
    simp [List.lookup, this, lookup_none h.2]
theorem mc_rd {o' : CE} {as' : CEs} {C m q : Str} {σ : L2.St} {H : Hp} {Q : VK} (h : tE F G u W (.mc C m q o' as') σ H Q) :
    tE F G u W o' σ H fun x H1 => (∃ a dx fvs, x = .ref a ∧ H1 a = some (.ins (F.cad C) dx fvs) ∧ fvs.lookup m = none) ∧ tA F G u W as' σ H1 fun vs H2 => CallQ F W (G.Gm q) σ Q (x :: vs) H2 := by
  obtain ⟨A, env, st, rel, h⟩ := h
  unfold wpE at h
  refine tE_one rel h (fun _ _ _ _ z => z) fun x s1 A1 H1 xv t1 r1 p1 ⟨⟨fs, xs, hi, hm⟩, q1⟩ => ?_
  obtain ⟨a, dx, fvs, rfl, _, ha, e2, _⟩ := asI_rp r1 p1 hi
  subst e2
  refine ⟨⟨a, dx, fvs, rfl, ha, lookup_none hm⟩, ?_⟩
  refine tA_one (rel.stp t1 r1) q1 (fun C f z s' q => q.stp r1 t1) fun ds s A2 H2 vs t r p q => ⟨A2, x :: ds, s, r, .cons (p1.stp t) p, q.mono (fun d s q => q.stp r (t1.trans r1 t)) fun C f x s q => q.stp r (t1.trans r1 t)⟩
end
end Mini
end
section
/-! isinstance, built-in functions, methods of built-in types, exceptions in hand. -/
namespace Mini
open PySem L2 PySem.Spec PyProof.Rows
theorem kb {a b : String} {r : Bool} (h : kitB a b = some r) {K : PySem.W.Frag} : PySem.W.kitOne K (.type a) (.type b) = some r := kit_ty h
def tyU (F : Fx) : Ty → Value
  | .int => .type "int"
  | .str => .type "str"
  | .bool => .type "bool"
  | .tuple => .type "tuple"
  | .list => .type "list"
  | .own C => .ref (F.cad C)
def tyV' (F : Fx) : Ty → V
  | .int => .ty "int"
  | .str => .ty "str"
  | .bool => .ty "bool"
  | .tuple => .ty "tuple"
  | .list => .ty "list"
  | .own C => .ref (F.cad C)
theorem tyV_cls (F : Fx) (t : Ty) : ClsV (tyV' F t) (tyU F t) := by cases t <;> constructor
section
variable {P : PInfo} {F : Fx} {G : Sg} {cx : CTX} {X : Cx} {W : WX} {u : SuiT} {n : Nat} {A A0 : List Addr} {H H0 : Hp} {st : Sto}
def tyOk (F : Fx) : Ty → Prop
  | .own C => C ∈ F.clss
  | _ => True
theorem kit_ty1 {mg : Str → Option Value} {base : Heap} {L : Nat} (fc : Facts P F G mg base L) {t : Ty} {k : Kd} (ht : tyOk F t) (hk : ∀ D, k = .ins D → D ∈ F.clss) : PySem.W.kitOne F.K (kdTy F k) (tyU F t) = some (isK G.sub t k) := by
  cases t with
  | own D =>
    cases k with
    | ins C => exact fc.sub C D (hk C rfl) ht
    | _ => exact fc.tyc D _ ht (by simp)
  | _ =>
    cases k with
    | ins C => exact fc.cty C _ (hk C rfl) (by simp)
    | _ => first | exact kb (r := true) (by decide +kernel) | exact kb (r := false) (by decide +kernel)
theorem kit_any {mg : Str → Option Value} {base : Heap} {L : Nat} (fc : Facts P F G mg base L) {k : Kd} (hk : ∀ D, k = .ins D → D ∈ F.clss) : ∀ {ts : List Ty}, (∀ t ∈ ts, tyOk F t) → PySem.W.kitAny F.K (kdTy F k) (ts.map (tyU F)) = some (ts.any fun t => isK G.sub t k)
  | [], _ => kitAny_nil
  | t :: ts, h => by
    refine kitAny_cons (kit_ty1 fc (h t List.mem_cons_self) hk) (fun e => ?_) (fun e => ?_)
    · rw [List.any_cons, e, Bool.false_or]; exact kit_any fc hk fun t ht => h t (List.mem_cons_of_mem _ ht)
    · rw [List.any_cons, e, Bool.true_or]
/-- a built-in's name as a value -/
theorem pe_bltV {x : Str} {fv : Value} {v : V} {pos : Pos} (g : Good P F G cx X W u) (hg : cx.glob x = true) (hm : X.mg x = none) (hv : bootBuiltins x = some fv) (hn : x ≠ "__name__") (r : RelV v fv) : PE X (.Name x pos) (fun _ H Q => Q v H) := by
  obtain ⟨h1, h2⟩ := g.glob hg
  exact ⟨fun pins s σ H Q I h => ld_blt I h1 hm hv ⟨v, H, I, r, h⟩ hn h2⟩
theorem pe_globV {x : Str} {fv : Value} {v : V} {pos : Pos} (g : Good P F G cx X W u) (hg : cx.glob x = true) (hm : X.mg x = some fv) (r : RelV v fv) : PE X (.Name x pos) (fun _ H Q => Q v H) := by
  obtain ⟨h1, h2⟩ := g.glob hg
  exact ⟨fun pins s σ H Q I h => ld_glob I h1 hm ⟨v, H, I, r, h⟩ h2⟩
theorem ty_pe {e : Expr} {t : Ty} (g : Good P F G cx X W u) (h : tyOf P cx e = some t) : PE X e (fun _ H Q => Q (tyV' F t) H) ∧ tyOk F t := by
  cases e <;> simp only [tyOf, reduceCtorEq] at h
  rename_i x pos
  obtain ⟨hg, h⟩ := ifB_some.mp h
  split at h
  · rename_i e; cases h; subst e
    exact ⟨pe_bltV g hg (g.facts.free _ (by simp)) (by rfl) (by decide) rfl, trivial⟩
  split at h
  · rename_i e; cases h; subst e
    exact ⟨pe_bltV g hg (g.facts.free _ (by simp)) (by rfl) (by decide) rfl, trivial⟩
  split at h
  · rename_i e; cases h; subst e
    exact ⟨pe_bltV g hg (g.facts.free _ (by simp)) (by rfl) (by decide) rfl, trivial⟩
  split at h
  · rename_i e; cases h; subst e
    exact ⟨pe_bltV g hg (g.facts.free _ (by simp)) (by rfl) (by decide) rfl, trivial⟩
  split at h
  · rename_i e; cases h; subst e
    exact ⟨pe_bltV g hg (g.facts.free _ (by simp)) (by rfl) (by decide) rfl, trivial⟩
  obtain ⟨hc, h⟩ := ifB_some.mp h
  cases h
  have hC : x ∈ F.clss := by rw [← g.facts.clss]; simpa using hc
  exact ⟨pe_globV g hg (g.facts.cls x hC).1 rfl, hC⟩
theorem tys_pa {es : List Expr} {ts : List Ty} (g : Good P F G cx X W u) (h : tysOf P cx es = some ts) : PA X es (fun _ H Q => Q (ts.map (tyV' F)) H) ∧ ∀ t ∈ ts, tyOk F t := by
  induction es generalizing ts with
  | nil => simp only [tysOf, Option.some.injEq] at h; subst h; exact ⟨pa_nil, by simp⟩
  | cons e es ih =>
    simp only [tysOf] at h
    split at h
    · rename_i t ts' h1 h2
      cases h
      obtain ⟨p1, o1⟩ := ty_pe g h1
      obtain ⟨p2, o2⟩ := ih h2
      refine ⟨pa_cons p1 p2 (star_plain ?_), ?_⟩
      · cases e <;> first | rfl | (simp [tyOf] at h1)
      · intro t ht
        rcases List.mem_cons.mp ht with rfl | ht
        · exact o1
        · exact o2 t ht
    · cases h
theorem tys_cls (F : Fx) (ts : List Ty) : Paired ClsV (ts.map (tyV' F)) (ts.map (tyU F)) := by
  induction ts with
  | nil => exact .nil
  | cons t ts ih => exact .cons (tyV_cls F t) ih
theorem gl_isi (g : Good P F G cx X W u) {x : Str} (h : cx.glob x = true) : Gl X x := (g.glob h).1
theorem tys_len {P : PInfo} {cx : CTX} : ∀ {es : List Expr} {ts : List Ty}, tysOf P cx es = some ts → ts.length = es.length
  | [], _, h => by simp only [tysOf, Option.some.injEq] at h; subst h; rfl
  | e :: es, _, h => by
    simp only [tysOf] at h
    split at h
    · rename_i h1 h2
      cases h
      simp [tys_len h2]
    · cases h
theorem sE_isiT {a : Expr} {a' : CE} {ts : List Expr} {ts' : List Ty} {k : Nat} {tp p pos : Pos} (g : Good P F G cx X W u) (ha : PE X a (tE F G u W a')) (hst : isStar a = false) (ht : tysOf P cx ts = some ts') (hl : ts.length ≤ 5) (hg : cx.glob "isinstance" = true) :
    PE X (.Call (.Name "isinstance" p) [a, .Tuple ts k tp] [] pos) (tE F G u W (.isi a' ts')) := by
  obtain ⟨p1, o1⟩ := tys_pa g ht
  have pt : PE X (.Tuple ts k tp) (tTup fun _ H Q => Q (ts'.map (tyV' F)) H) := pe_tup p1
  have pa : PA X [a, .Tuple ts k tp] (tCons (tE F G u W a') (tCons (tTup fun _ H Q => Q (ts'.map (tyV' F)) H) tNil)) := pa_cons ha (pa_cons pt pa_nil) (star_plain hst)
  refine peImp (pe_callB call_isiT (gl_isi g hg) (g.facts.free _ (by simp)) (by rfl) pa (by decide) (by decide) (star_plain hst) (any_plain rfl)) fun σ H Q ⟨A, env, st, rel, h⟩ => ?_
  unfold wpE at h
  refine tE_one rel h (fun _ _ _ _ z => z) fun x s1 A1 H1 xv t r px ⟨k, e, q⟩ => ?_
  refine ⟨by rw [List.length_map, tys_len ht]; exact Nat.le_trans hl (by decide), fun tpa htp => ?_⟩
  rw [g.K]
  have hk := tyx_rp g.facts r px e
  refine ⟨xv, tpa, _, kdTy F k, _, _, rfl, upd_same, tys_cls F ts', ?_, kit_any g.facts (fun D e' => kd_cls g.facts r px (by rw [e, e'])) o1, q A1 _ _ (t.trans r (Stp.new htp)) (r.new htp) (.bl _)⟩
  have r' := r.new (o := .tup (ts'.map (tyV' F))) htp
  exact tyx_rp g.facts r' (px.stp (Stp.new htp)) e
theorem sE_isi1 {a t : Expr} {a' : CE} {t' : Ty} {p pos : Pos} (g : Good P F G cx X W u) (ha : PE X a (tE F G u W a')) (hst : isStar a = false) (ht : tyOf P cx t = some t') (hg : cx.glob "isinstance" = true) :
    PE X (.Call (.Name "isinstance" p) [a, t] [] pos) (tE F G u W (.isi a' [t'])) := by
  obtain ⟨p1, o1⟩ := ty_pe g ht
  have hs2 : isStar t = false := by cases t <;> first | rfl | (simp [tyOf] at ht)
  have pa : PA X [a, t] (tCons (tE F G u W a') (tCons (fun _ H Q => Q (tyV' F t') H) tNil)) := pa_cons ha (pa_cons p1 pa_nil (star_plain hs2)) (star_plain hst)
  refine peImp (pe_callB call_isi (gl_isi g hg) (g.facts.free _ (by simp)) (by rfl) pa (by decide) (by decide) (star_plain hst) (any_plain (by simp [hs2]))) fun σ H Q ⟨A, env, st, rel, h⟩ => ?_
  unfold wpE at h
  refine tE_one rel h (fun _ _ _ _ z => z) fun x s1 A1 H1 xv tt r px ⟨k, e, q⟩ => ?_
  rw [g.K]
  refine ⟨xv, tyV' F t', kdTy F k, tyU F t', isK G.sub t' k, rfl, tyV_cls F t', tyx_rp g.facts r px e, kit_ty1 g.facts o1 (fun D e' => kd_cls g.facts r px (by rw [e, e'])), ?_⟩
  have := q A1 H1 _ tt r (.bl _)
  simpa using this
end
end Mini
end
section
/-! tuple(d.values()), built-in functions. -/
namespace Mini
open PySem L2 PySem.Spec PyProof.Rows
section
variable {prog : Program} {w : World} {A : Around} {E : Value → Shared → Prop} {s : Shared} {T : String} {r d : Addr} {n : Nat} {P : Nat → Value → Prop} {OK : Heap → Prop}
theorem code_tuple_kdl {Q₁ : Value → Shared → Prop} (hTI : s.TypeIs (.ref r) "dict_values") (K : PySem.W.KdlSrc prog w T r d n P OK) (hh : A.handled = none) (hok : OK s.heap) (hn : n ≤ sizeLine)
    (h : ∀ (h' : Heap) (tk : Nat) (acc : Array Value), (∀ b o, s.heap.get? b = some o → h'.get? b = some o) → ItemsOf P acc n → Q₁ (.ref h'.objs.size) { s with heap := h'.push { cls := .type "tuple", data := .seq acc }, toks := tk }) :
    codeAny (model prog w) A (.call (.builtin "tuple.__new__") ⟨[.type "tuple", .ref r], []⟩) (wants Q₁ E) s := by
  refine codeAny_of_tree ?_
  show wpAny _ A.in1 (do checkBuiltinCall "tuple.__new__" ⟨[.type "tuple", .ref r], []⟩; again (.builtin "tuple.__new__" ⟨[.type "tuple", .ref r], []⟩)) _ _ s
  refine wpAny_bind (wpAny_of_eq (F.newCall_tuple_1 _) (wpAny_pure ⟨plainId_quiet F.plain_tuple_new _, codeAny_builtin F.entry_tuple_new ?_⟩))
  rw [Around.under_plainId F.plain_tuple_new _]
  have hsub := sub_tuple_self
  have hinit := init_tuple_lookup
  have hmh := madeHere_tuple
  have hh1 : A.in1.handled = none := hh
  wp_walk using wpAny_typeOf hTI, collect_kdl (A := A.in1) K hh1 hok hn
  intro h' tk acc hk hacc
  show wpAny _ _ (Builtin.Tuple.tupleExact acc.toList.toArray >>= fun v => ret v) _ _ _
  unfold Builtin.Tuple.tupleExact
  refine wpAny_bind (wpAny_newObj_type ?_ (by show acc.toList.toArray.size ≤ sizeLine; simp only [Array.toArray_toList]; rw [hacc.1]; exact hn))
  refine wpAny_pure ?_
  have e : acc.toList.toArray = acc := by simp
  rw [e]
  exact h h' tk acc hk hacc
theorem call_tuple_kdl {Q : Value → Shared → Prop} (hTI : s.TypeIs (.ref r) "dict_values") (K : PySem.W.KdlSrc prog w T r d n P OK) (hh : A.handled = none) (hok : OK s.heap) (hn : n ≤ sizeLine)
    (hQ : ∀ (h' : Heap) (tk : Nat) (acc : Array Value), (∀ b o, s.heap.get? b = some o → h'.get? b = some o) → ItemsOf P acc n → Q (.ref h'.objs.size) { s with heap := h'.push { cls := .type "tuple", data := .seq acc }, toks := tk }) :
    wpAny (model prog w) A (call (.type "tuple") [.ref r]) Q E s := by
  refine callType_codes (Q₁ := fun obj s₁ => s₁.TypeIs obj "tuple" ∧ Q obj s₁) F.called_tuple (F.typeCall_tuple_1 _) F.entry_object_init
    (code_tuple_kdl (A := A.in1) hTI K hh hok hn fun h' tk acc hk hacc => ⟨⟨_, Heap.get?_push_size _ rfl, rfl⟩, hQ h' tk acc hk hacc⟩) fun obj s₁ h₁ => ?_
  exact ⟨h₁.1, F.args_object_init_2 obj _, object_init_meets F.called_tuple.init.lookup F.called_tuple.made (by decide) prog w A.in1 _ s₁ ⟨h₁.1, rfl, h₁.2⟩⟩
end
section
variable {P : PInfo} {F : Fx} {G : Sg} {cx : CTX} {X : Cx} {W : WX} {u : SuiT} {n : Nat} {A A0 : List Addr} {H H0 : Hp} {st : Sto}
/-- tuple(d.values()) -/
def tTupVals (td : TE) : TE := fun σ H Q => td σ H fun x H1 => ∃ a kvs, x = .ref a ∧ H1 a = some (.dK kvs) ∧ ∀ q, H1 q = none → Q (.ref q) (upd H1 q (.tup (kvs.map (·.2))))
theorem pe_tupVals (hc : X.calm = true) (hg : Gl X "tuple") (hm : X.mg "tuple" = none) {o : Expr} {td : TE} {p pos apos mpos : Pos} (hd : PE X o td) (hbase : attributeBase o "values" X.env (eval o X.env) = eval o X.env) (hline : (apos.endLine == mpos.line) = true) :
    PE X (.Call (.Name "tuple" p) [.Call (.Attribute o "values" apos) [] [] mpos] [] pos) (tTupVals td) := by
  refine ⟨fun pins s σ H Q I h => ?_⟩
  refine wpAny_Call_Name_kw (ld_blt I hg hm (u := .type "tuple") (by rfl) ?_ (by decide) (by decide))
  have hse : starEach [Expr.Call (.Attribute o "values" apos) [] [] mpos] X.env = [(false, eval (Expr.Call (.Attribute o "values" apos) [] [] mpos) X.env)] := star_plain rfl
  rw [hse]
  refine PyProof.Rows.callWith_type1 (e := Expr.Call (.Attribute o "values" apos) [] [] mpos) (rest := []) (env := X.env) ?_ hse rfl
  rw [hse]
  refine Calls.spliced_cons (wpAny_Call_method0_late hbase hline (thn (hd.run pins s σ H _ I h) fun v s1 ⟨x, H1, I1, r1, a, kvs, ex, ha, q⟩ => ?_))
  subst ex
  obtain rfl : v = Value.ref a := r1
  obtain ⟨z, hsys, vs, rel, dof⟩ := dk_of I1.hok ha
  obtain ⟨ep, dat⟩ := dof.dictAt
  have dat' := dat
  obtain ⟨ob, es, ho, ex, hdat, hko, hpr, hnd⟩ := dat'
  refine ⟨"dict", "dict.values", F.plainAttrs_dict, F.slot_dict_values, F.type_dict_values, ⟨ob, ho, ex.1⟩, fun b e => ?_, Calls.callWith_builtin rfl (PySem.evalArgs_none ?_)⟩
  · cases e
    exact ⟨ob, ho, ex.2.1⟩
  refine call_meetsIn F.slot_dict_values ⟨ob, ho, ex.1⟩ F.entry_dict_values (F.args_dict_values_1 _) (meets_dict_values (mixKind X.prog X.w) a hsys) ⟨⟨vs, dof⟩, ?_⟩
  refine Calls.spliced_nil ?_
  have k1 : ∀ b u, s1.heap.get? b = some u → (s1.heap.push { cls := .type "dict_values", data := .fields #[.ref a] }).get? b = some u := fun b u e => Heap.get?_push_of_some _ e
  have dat1 : (s1.heap.push { cls := .type "dict_values", data := .fields #[.ref a] }).DictAt (mixKind X.prog X.w) a vs ep := dat.keep k1
  have hv : (s1.heap.push { cls := .type "dict_values", data := .fields #[.ref a] }).IsValuesView s1.heap.objs.size a := ⟨_, Heap.get?_push_size _ rfl, rfl, rfl⟩
  have hne : a < s1.heap.objs.size := Heap.lt_size ho
  refine call_tuple_kdl (s := { s1 with heap := s1.heap.push { cls := .type "dict_values", data := .fields #[.ref a] } }) ⟨_, Heap.get?_push_size _ rfl, rfl⟩ (PySem.W.kdl_values (knd := mixKind X.prog X.w) (kvs := vs) (ep := ep) (r := s1.heap.objs.size) (d := a)) (I1.ok.hd hc) ⟨hv, dat1⟩ (by rw [← rel.length]; exact z) fun h' tk acc hk hacc => ?_
  have I2 : Inv X pins σ H1 { s1 with heap := h', toks := tk } := I1.kept fun b u e => hk b u (k1 b u e)
  refine ⟨.ref h'.objs.size, upd H1 h'.objs.size (.tup (kvs.map (·.2))), I2.laid (t' := tk) (fun c o e => Heap.get?_push_of_some _ e) (Nat.le_refl _) (show ObjOk X.prog X.w _ _ _ (.tup (kvs.map (·.2))) from ⟨by rw [List.length_map]; exact z, acc.toList, ?_, ?_⟩), rfl, q _ (I2.hok.fresh (Nat.le_refl _))⟩
  · have el : acc.toList.length = acc.size := by simp
    refine vals_of_at (by rw [List.length_map, el, hacc.1, rel.length]) fun j y w h1 h2 => ?_
    obtain ⟨k, hky⟩ := hacc.2 j w (by rw [← Array.getElem?_toList]; exact h2)
    obtain ⟨y', e1, e2⟩ := KV.at' rel hky
    rw [List.getElem?_map, e1] at h1
    cases h1
    exact e2
  · rw [Array.toArray_toList]; exact IsTup.new _ _
end
end Mini
end
section
/-! Built-in functions, methods of built-in types. -/
namespace Mini
open PySem L2 PySem.Spec PyProof.Rows
section
variable {P : PInfo} {F : Fx} {G : Sg} {cx : CTX} {X : Cx} {W : WX} {u : SuiT} {n : Nat} {A A0 : List Addr} {H H0 : Hp} {st : Sto}
/-- a built-in called by its name: what is asked of its rule -/
structure BiOk (X : Cx) (f : Str) (r : List V → Hp → VK → Prop) : Prop where
  pe : ∀ (args : List Expr) (t : TA) (p pos : Pos), args ≠ [] → args.all (fun e => !isStar e) = true → PA X args t → PE X (.Call (.Name f p) args [] pos) (tCB r t)
theorem biB {f : Str} {id : String} {r : List V → Hp → VK → Prop} (hc : CallR X (.builtin id) r) (hg : Gl X f) (hm : X.mg f = none) (hv : bootBuiltins f = some (.builtin id)) (hn : f ≠ "__name__") (hd : (f == ("__debug__" : Str)) = false) : BiOk X f r :=
  ⟨fun args t p pos h0 hpl ha => by
    cases args with
    | nil => exact absurd rfl h0
    | cons e es =>
      obtain ⟨h1, h2⟩ := plain_cons hpl
      exact pe_callB hc hg hm hv ha hn hd (star_plain h1) (any_plain h2)⟩
theorem biT {f : Str} {T : String} {r : List V → Hp → VK → Prop} (hc : CallR X (.type T) r) (hg : Gl X f) (hm : X.mg f = none) (hv : bootBuiltins f = some (.type T)) (hn : f ≠ "__name__") (hd : (f == ("__debug__" : Str)) = false) : BiOk X f r :=
  ⟨fun args t p pos h0 hpl ha => by
    cases args with
    | nil => exact absurd rfl h0
    | cons e es =>
      obtain ⟨h1, h2⟩ := plain_cons hpl
      exact pe_callTy hc hg hm hv ha hn hd (star_plain h1) (any_plain h2)⟩
def rBi (K : PySem.W.Frag) : BI → List V → Hp → VK → Prop
  | .len => fun xs H Q => (∃ p ys, xs = [.ref p] ∧ (SqL K H p ys ∨ SqT K H p ys) ∧ Q (.int ys.length) H) ∨ ∃ a kvs, xs = [V.ref a] ∧ H a = some (.dK kvs) ∧ Q (.int kvs.length) H
  | .list => fun xs H Q => (∃ p ys, xs = [.ref p] ∧ (SqL K H p ys ∨ SqT K H p ys) ∧ ∀ l, H l = none → Q (.ref l) (upd H l (.lst ys))) ∨ rListD xs H Q
  | .tuple => fun xs H Q => ∃ p ys, xs = [.ref p] ∧ ((SqL K H p ys ∧ ∀ l, H l = none → Q (.ref l) (upd H l (.tup ys))) ∨ (SqT K H p ys ∧ Q (.ref p) H))
  | .int => fun xs H Q => ((∃ i, xs = [.int i] ∧ Q (.int i) H) ∨ ∃ k, xs = [.bl k] ∧ Q (.int (if k then 1 else 0)) H) ∨ (∃ a n, xs = [.str a] ∧ PySem.intText? a = some n ∧ a.length ≤ 640 ∧ Q (.int n) H)
  | .str => fun xs H Q => (∃ i : Int, xs = [.int i] ∧ i.natAbs.log2 < 1920 ∧ Q (.str (toString i)) H) ∨ ∃ a, xs = [.str a] ∧ Q (.str a) H
  | .all => rAll K
  | .any => rAny K
  | .min => fun xs H Q => ∃ i j, xs = [.int i, .int j] ∧ Q (.int (if j < i then j else i)) H
  | .max => fun xs H Q => ∃ i j, xs = [.int i, .int j] ∧ Q (.int (if j > i then j else i)) H
  | .dict => fun xs H Q => ∃ (a : Addr) (kvs : List (Key × V)), xs = [.ref a] ∧ Rd H a (.dK kvs) ∧ ∀ p, H p = none → Q (.ref p) (upd H p (.dK kvs))
  | .sorted => fun xs H Q => rSortedA K xs H Q ∨ rSortedS K xs H Q
  | _ => fun _ _ _ => False
theorem cb_len {X : Cx} (hc : biCalm .len = true → X.calm = true) : CallR X (.builtin "len") (rBi X.K .len) := call_len_seq.or call_lenD
theorem bo_len : bootBuiltins ("len" : Str) = some (.builtin "len") := by rfl
theorem bi_ok_len (g : Good P F G cx X W u) (hg : cx.glob "len" = true) (hc : biCalm .len = true → X.calm = true) : BiOk X "len" (rBi X.K .len) :=
  biB (cb_len hc) (g.glob hg).1 (g.facts.free _ (by simp)) bo_len (by decide) (by decide)
theorem cb_list {X : Cx} (hc : biCalm .list = true → X.calm = true) : CallR X (.type "list") (rBi X.K .list) := call_list_of.or (call_list_dK (hc rfl))
theorem bo_list : bootBuiltins ("list" : Str) = some (.type "list") := by rfl
theorem bi_ok_list (g : Good P F G cx X W u) (hg : cx.glob "list" = true) (hc : biCalm .list = true → X.calm = true) : BiOk X "list" (rBi X.K .list) :=
  biT (cb_list hc) (g.glob hg).1 (g.facts.free _ (by simp)) bo_list (by decide) (by decide)
theorem cb_tuple {X : Cx} (hc : biCalm .tuple = true → X.calm = true) : CallR X (.type "tuple") (rBi X.K .tuple) := call_tuple_of
theorem bo_tuple : bootBuiltins ("tuple" : Str) = some (.type "tuple") := by rfl
theorem bi_ok_tuple (g : Good P F G cx X W u) (hg : cx.glob "tuple" = true) (hc : biCalm .tuple = true → X.calm = true) : BiOk X "tuple" (rBi X.K .tuple) :=
  biT (cb_tuple hc) (g.glob hg).1 (g.facts.free _ (by simp)) bo_tuple (by decide) (by decide)
theorem cb_int {X : Cx} (hc : biCalm .int = true → X.calm = true) : CallR X (.type "int") (rBi X.K .int) := call_int1.or call_int_str
theorem bo_int : bootBuiltins ("int" : Str) = some (.type "int") := by rfl
theorem bi_ok_int (g : Good P F G cx X W u) (hg : cx.glob "int" = true) (hc : biCalm .int = true → X.calm = true) : BiOk X "int" (rBi X.K .int) :=
  biT (cb_int hc) (g.glob hg).1 (g.facts.free _ (by simp)) bo_int (by decide) (by decide)
theorem cb_str {X : Cx} (hc : biCalm .str = true → X.calm = true) : CallR X (.type "str") (rBi X.K .str) := call_str_int.or SkE.call_str_str
theorem bo_str : bootBuiltins ("str" : Str) = some (.type "str") := by rfl
theorem bi_ok_str (g : Good P F G cx X W u) (hg : cx.glob "str" = true) (hc : biCalm .str = true → X.calm = true) : BiOk X "str" (rBi X.K .str) :=
  biT (cb_str hc) (g.glob hg).1 (g.facts.free _ (by simp)) bo_str (by decide) (by decide)
theorem cb_all {X : Cx} (hc : biCalm .all = true → X.calm = true) : CallR X (.builtin "all") (rBi X.K .all) := cr_all (hc rfl)
theorem bo_all : bootBuiltins ("all" : Str) = some (.builtin "all") := by rfl
theorem bi_ok_all (g : Good P F G cx X W u) (hg : cx.glob "all" = true) (hc : biCalm .all = true → X.calm = true) : BiOk X "all" (rBi X.K .all) :=
  biB (cb_all hc) (g.glob hg).1 (g.facts.free _ (by simp)) bo_all (by decide) (by decide)
theorem cb_any {X : Cx} (hc : biCalm .any = true → X.calm = true) : CallR X (.builtin "any") (rBi X.K .any) := cr_any (hc rfl)
theorem bo_any : bootBuiltins ("any" : Str) = some (.builtin "any") := by rfl
theorem bi_ok_any (g : Good P F G cx X W u) (hg : cx.glob "any" = true) (hc : biCalm .any = true → X.calm = true) : BiOk X "any" (rBi X.K .any) :=
  biB (cb_any hc) (g.glob hg).1 (g.facts.free _ (by simp)) bo_any (by decide) (by decide)
theorem cb_min {X : Cx} (hc : biCalm .min = true → X.calm = true) : CallR X (.builtin "min") (rBi X.K .min) := call_min2 (hc rfl)
theorem bo_min : bootBuiltins ("min" : Str) = some (.builtin "min") := by rfl
theorem bi_ok_min (g : Good P F G cx X W u) (hg : cx.glob "min" = true) (hc : biCalm .min = true → X.calm = true) : BiOk X "min" (rBi X.K .min) :=
  biB (cb_min hc) (g.glob hg).1 (g.facts.free _ (by simp)) bo_min (by decide) (by decide)
theorem cb_max {X : Cx} (hc : biCalm .max = true → X.calm = true) : CallR X (.builtin "max") (rBi X.K .max) := call_max2 (hc rfl)
theorem bo_max : bootBuiltins ("max" : Str) = some (.builtin "max") := by rfl
theorem bi_ok_max (g : Good P F G cx X W u) (hg : cx.glob "max" = true) (hc : biCalm .max = true → X.calm = true) : BiOk X "max" (rBi X.K .max) :=
  biB (cb_max hc) (g.glob hg).1 (g.facts.free _ (by simp)) bo_max (by decide) (by decide)
theorem cb_dict {X : Cx} (hc : biCalm .dict = true → X.calm = true) : CallR X (.type "dict") (rBi X.K .dict) := call_dictD
theorem bo_dict : bootBuiltins ("dict" : Str) = some (.type "dict") := by rfl
theorem bi_ok_dict (g : Good P F G cx X W u) (hg : cx.glob "dict" = true) (hc : biCalm .dict = true → X.calm = true) : BiOk X "dict" (rBi X.K .dict) :=
  biT (cb_dict hc) (g.glob hg).1 (g.facts.free _ (by simp)) bo_dict (by decide) (by decide)
theorem cb_sorted {X : Cx} (hc : biCalm .sorted = true → X.calm = true) : CallR X (.builtin "sorted") (rBi X.K .sorted) := CallR.or cr_sortedA cr_sortedS
theorem bo_sorted : bootBuiltins ("sorted" : Str) = some (.builtin "sorted") := by rfl
theorem bi_ok_sorted (g : Good P F G cx X W u) (hg : cx.glob "sorted" = true) (hc : biCalm .sorted = true → X.calm = true) : BiOk X "sorted" (rBi X.K .sorted) :=
  biB (cb_sorted hc) (g.glob hg).1 (g.facts.free _ (by simp)) bo_sorted (by decide) (by decide)
theorem bi_ok (g : Good P F G cx X W u) {f : Str} {b : BI} (h : biOf f = some b) (hg : cx.glob f = true) (hc : biCalm b = true → X.calm = true) : BiOk X f (rBi X.K b) ∧ b ≠ .vals := by
  unfold biOf at h
  by_cases e : f = "len"
  · subst e; rw [if_pos rfl] at h; cases h; exact ⟨bi_ok_len g hg hc, by simp⟩
  rw [if_neg e] at h; clear e
  by_cases e : f = "list"
  · subst e; rw [if_pos rfl] at h; cases h; exact ⟨bi_ok_list g hg hc, by simp⟩
  rw [if_neg e] at h; clear e
  by_cases e : f = "tuple"
  · subst e; rw [if_pos rfl] at h; cases h; exact ⟨bi_ok_tuple g hg hc, by simp⟩
  rw [if_neg e] at h; clear e
  by_cases e : f = "int"
  · subst e; rw [if_pos rfl] at h; cases h; exact ⟨bi_ok_int g hg hc, by simp⟩
  rw [if_neg e] at h; clear e
  by_cases e : f = "str"
  · subst e; rw [if_pos rfl] at h; cases h; exact ⟨bi_ok_str g hg hc, by simp⟩
  rw [if_neg e] at h; clear e
  by_cases e : f = "all"
  · subst e; rw [if_pos rfl] at h; cases h; exact ⟨bi_ok_all g hg hc, by simp⟩
  rw [if_neg e] at h; clear e
  by_cases e : f = "any"
  · subst e; rw [if_pos rfl] at h; cases h; exact ⟨bi_ok_any g hg hc, by simp⟩
  rw [if_neg e] at h; clear e
  by_cases e : f = "min"
  · subst e; rw [if_pos rfl] at h; cases h; exact ⟨bi_ok_min g hg hc, by simp⟩
  rw [if_neg e] at h; clear e
  by_cases e : f = "max"
  · subst e; rw [if_pos rfl] at h; cases h; exact ⟨bi_ok_max g hg hc, by simp⟩
  rw [if_neg e] at h; clear e
  by_cases e : f = "dict"
  · subst e; rw [if_pos rfl] at h; cases h; exact ⟨bi_ok_dict g hg hc, by simp⟩
  rw [if_neg e] at h; clear e
  by_cases e : f = "sorted"
  · subst e; rw [if_pos rfl] at h; cases h; exact ⟨bi_ok_sorted g hg hc, by simp⟩
  rw [if_neg e] at h; clear e
  cases h
theorem bools_rp : ∀ {xs : List D} {bs : List Bool} {vs : List V}, bools xs = some bs → Rps F A H xs vs → vs = bs.map V.bl
  | [], _, _, h, .nil => by simp only [bools, Option.some.injEq] at h; subst h; rfl
  | x :: xs, bs, _, h, .cons p t => by
    cases x <;> simp only [bools, reduceCtorEq] at h
    split at h
    · rename_i bs' e
      cases h
      cases p
      rw [bools_rp e t]; rfl
    · cases h
theorem leafs_kV {ks xs : List D} {kvs : List (Key × V)} {a : Addr} (h : ks = kvs.map fun q => dKey q.1) : Rps F A H ks (kvs.map fun kv => kV kv.1) := by
  subst h
  induction kvs with
  | nil => exact .nil
  | cons p r ih => exact .cons (key_rp p.1) ih
theorem ints_rps (ns : List Int) : Rps F A H (ns.map Mini.D.int) (ns.map V.int) := by
  induction ns with
  | nil => exact .nil
  | cons n ns ih => exact .cons (.int n) ih
theorem its_rp : ∀ {xs : List D} {vs : List V} {k : List (Int ⊕ Str)}, Rps F A H xs vs → itsOf xs = some k → vs = k.map itV
  | [], _, _, .nil, h => by cases h; rfl
  | x :: xs, _, k, .cons p t, h => by
    unfold itsOf at h
    split at h
    · rename_i y ys e1 e2
      cases h
      rw [its_rp t e2]
      cases p <;> simp only [itOf, reduceCtorEq, Option.some.injEq] at e1 <;> subst e1 <;> rfl
    · cases h
theorem tks_rp : ∀ {xs : List D} {vs : List V} {ks : List (List (Int ⊕ Str))}, Rps F A H xs vs → tksOf xs = some ks → ∃ l : List (Addr × List (Int ⊕ Str)), vs = l.map (fun p => V.ref p.1) ∧ l.map (·.2) = ks ∧ ∀ p ∈ l, SqT F.K H p.1 (p.2.map itV)
  | [], _, _, .nil, h => by cases h; exact ⟨[], rfl, rfl, fun _ h => nomatch h⟩
  | x :: xs, _, ks, .cons p t, h => by
    cases x with
    | tup ys =>
      simp only [tksOf] at h
      split at h
      · rename_i y ys' e1 e2
        cases h
        obtain ⟨l, h1, h2, h3⟩ := tks_rp t e2
        cases p with | tup tt q =>
        rename_i ad us
        rw [its_rp q e1] at tt
        exact ⟨(ad, y) :: l, by rw [h1]; rfl, by simp [h2], fun p hp => by
          rcases List.mem_cons.mp hp with rfl | hp
          · exact tt.sq
          · exact h3 p hp⟩
      · cases h
    | _ => simp [tksOf] at h
theorem asc_pw : ∀ {ks : List (List (Int ⊕ Str))}, ascB ks = true → ks.Pairwise (fun x y => PyProof.Rows.lexLt PyProof.Rows.itemOrd (x.map itK) (y.map itK) = true)
  | [], _ => .nil
  | x :: r, h => by
    simp only [ascB, Bool.and_eq_true] at h
    exact .cons (fun y hy => List.all_eq_true.mp h.1 y hy) (asc_pw h.2)
theorem strs_rp : ∀ {xs : List D} {vs : List V} {ss : List Str}, Rps F A H xs vs → strsD xs = some ss → vs = ss.map V.str
  | [], _, _, .nil, h => by cases h; rfl
  | x :: xs, _, ss, .cons p t, h => by
    cases x <;> simp only [strsD, reduceCtorEq] at h
    split at h
    · rename_i bs e
      cases h
      cases p
      rw [strs_rp t e]; rfl
    · cases h
theorem ascS_pw : ∀ {ss : List Str}, ascS ss = true → ss.Pairwise (fun x y => PySem.Spec.ltCps y.cps.toList x.cps.toList = false)
  | [], _ => .nil
  | x :: r, h => by
    simp only [ascS, Bool.and_eq_true] at h
    exact .cons (fun y hy => by have := List.all_eq_true.mp h.1 y hy; simpa using this) (ascS_pw h.2)
theorem rising_pw : ∀ {r : List Str} {p : Str}, PyProof.Rows.risingS p r = true → (p :: r).Pairwise (fun x y => PySem.Spec.ltCps y.cps.toList x.cps.toList = false)
  | [], p, _ => .cons (fun _ h => nomatch h) .nil
  | x :: r, p, h => by
    unfold PyProof.Rows.risingS at h
    simp only [Bool.and_eq_true, Bool.not_eq_true'] at h
    have ih := rising_pw h.2
    refine .cons (fun y hy => ?_) ih
    rcases List.mem_cons.mp hy with rfl | hy
    · exact h.1
    · have h2 := (List.pairwise_cons.mp ih).1 y hy
      have h1 := h.1
      rw [PyProof.Rows.ltCps_eq, decide_eq_false_iff_not] at h1 h2 ⊢
      exact fun hlt => h1 (by
        have a1 : p.cps.toList ≤ x.cps.toList := h1
        have a2 : x.cps.toList ≤ y.cps.toList := h2
        exact absurd hlt (List.not_lt.mpr (List.le_trans a1 a2)))
theorem sortedS_pw {ss : List Str} (h : PyProof.Rows.sortedS ss = true) : ss.Pairwise (fun x y => PySem.Spec.ltCps y.cps.toList x.cps.toList = false) := by
  cases ss with
  | nil => exact .nil
  | cons p r => exact rising_pw h
theorem sorted_same {ss ys : List Str} (h : ascS ss = true) (hp : ys.Perm ss) (hy : PyProof.Rows.sortedS ys = true) : ys = ss := by
  refine List.Perm.eq_of_pairwise (fun a b _ _ h1 h2 => ?_) (sortedS_pw hy) (ascS_pw h) hp
  rw [PyProof.Rows.ltCps_eq, decide_eq_false_iff_not] at h1 h2
  have e : a.cps.toList = b.cps.toList := List.le_antisymm h1 h2
  cases a with | mk ca =>
  cases b with | mk cb =>
  congr 1
  exact Array.ext' e
theorem bi_fin {m : Bool} {b : BI} {ds : List D} {vs : List V} {d : D} {Q : VK} (r : RelSt F A H st) (t : Stp A0 H0 A H) (p : Rps F A H ds vs) (e : biD st b ds = some d) (h : retM m d st (QLink F A0 H0 Q)) : b = .vals ∨ rBi F.K b vs H Q := by
  unfold biD at e
  split at e
  · -- len
    cases p with | cons px tl =>
    cases tl
    refine .inr ?_
    split at e
    · rename_i xs es
      obtain ⟨a, us, rfl, hs, rs⟩ := asS_rp r px es
      cases e
      have h := retM_nl h (by intro; simp) (by intro _; simp)
      exact .inl ⟨a, us, rfl, hs.symm.imp_left SqL.of, rs.length ▸ h A H _ t r (.int _)⟩
    · rename_i ks xs _ ec
      split at e
      · rename_i hl
        cases e
        obtain ⟨a, rfl, ob⟩ := asC_rp r px ec
        obtain ⟨kvs, e1, e2, _⟩ := ob_dct hl ob
        have h := retM_nl h (by intro; simp) (by intro _; simp)
        have hk : ks.length = kvs.length := by rw [e2, List.length_map]
        exact .inr ⟨a, kvs, rfl, e1, hk ▸ h A H _ t r (.int _)⟩
      · cases e
    · cases e
  · -- list
    cases p with | cons px tl =>
    cases tl
    refine .inr ?_
    split at e
    · rename_i xs es
      obtain ⟨a, us, rfl, hs, rs⟩ := asS_rp r px es
      cases e
      exact .inl ⟨a, us, rfl, hs.symm.imp_left SqL.of, fun l hl => ret_lst r t rs hl h⟩
    · rename_i ks xs _ ec
      split at e
      · rename_i hl
        cases e
        obtain ⟨a, rfl, ob⟩ := asC_rp r px ec
        obtain ⟨kvs, e1, e2, _⟩ := ob_dct hl ob
        exact .inr ⟨a, kvs, rfl, e1, fun l hl => ret_lst r t (leafs_kV (xs := xs) (a := a) e2) hl h⟩
      · cases e
    · split at e
      · cases e
        cases px with | scr hs => exact .inl ⟨_, _, rfl, .inl hs.sq, fun l hl => ret_lst r t (ints_rps _) hl h⟩
      · cases e
  · -- tuple
    cases p with | cons px tl =>
    cases tl
    refine .inr ?_
    obtain ⟨xs, es, rfl⟩ := Option.map_eq_some_iff.mp e
    have h := retM_nl h (by intro; simp) (by intro _; simp)
    rename_i dx _ _
    cases dx with
    | tup ys =>
      simp only [asS, Option.some.injEq] at es
      subst es
      cases px with | tup tt q => exact ⟨_, _, rfl, .inr ⟨tt.sq, h A H _ t r (.tup tt q)⟩⟩
    | _ =>
      simp only [asS] at es
      obtain ⟨a, us, rfl, ha, q⟩ := asL_rp r px es
      exact ⟨a, us, rfl, .inl ⟨SqL.of ha, fun l hl => q_new_tup r t q hl h⟩⟩
  · cases p with | cons px tl =>
    cases tl; cases px; cases e
    exact .inr (.inl (.inl ⟨_, rfl, (retM_nl h (by intro; simp) (by intro _; simp)) A H _ t r (.int _)⟩))
  · cases p with | cons px tl =>
    cases tl; cases px; cases e
    exact .inr (.inl (.inr ⟨_, rfl, (retM_nl h (by intro; simp) (by intro _; simp)) A H _ t r (.int _)⟩))
  · cases p with | cons px tl =>
    cases tl; cases px
    split at e
    · rename_i hl
      obtain ⟨i, ei, rfl⟩ := Option.map_eq_some_iff.mp e
      exact .inr (.inr ⟨_, i, rfl, ei, hl, (retM_nl h (by intro; simp) (by intro _; simp)) A H _ t r (.int _)⟩)
    · cases e
  · cases p with | cons px tl =>
    cases tl; cases px; cases e
    exact .inr (.inr ⟨_, rfl, (retM_nl h (by intro; simp) (by intro _; simp)) A H _ t r (.str _)⟩)
  · cases p with | cons px tl =>
    cases tl; cases px
    split at e
    · rename_i hl
      cases e
      exact .inr (.inl ⟨_, rfl, hl, (retM_nl h (by intro; simp) (by intro _; simp)) A H _ t r (.str _)⟩)
    · cases e
  · -- all
    cases p with | cons px tl =>
    cases tl
    split at e
    · rename_i xs el
      obtain ⟨bs, eb, rfl⟩ := Option.map_eq_some_iff.mp e
      obtain ⟨a, us, rfl, ha, q⟩ := asL_rp r px el
      have := bools_rp eb q
      subst this
      exact .inr ⟨a, bs, rfl, SqL.of ha, (retM_nl h (by intro; simp) (by intro _; simp)) A H _ t r (.bl _)⟩
    · cases e
  · -- any
    cases p with | cons px tl =>
    cases tl
    split at e
    · rename_i xs el
      obtain ⟨bs, eb, rfl⟩ := Option.map_eq_some_iff.mp e
      obtain ⟨a, us, rfl, ha, q⟩ := asL_rp r px el
      have := bools_rp eb q
      subst this
      exact .inr ⟨a, bs, rfl, SqL.of ha, (retM_nl h (by intro; simp) (by intro _; simp)) A H _ t r (.bl _)⟩
    · cases e
  · cases p with | cons px tl =>
    cases tl with | cons py tl =>
    cases tl; cases px; cases py; cases e
    exact .inr ⟨_, _, rfl, (retM_nl h (by intro; simp) (by intro _; simp)) A H _ t r (.int _)⟩
  · cases p with | cons px tl =>
    cases tl with | cons py tl =>
    cases tl; cases px; cases py; cases e
    exact .inr ⟨_, _, rfl, (retM_nl h (by intro; simp) (by intro _; simp)) A H _ t r (.int _)⟩
  · -- dict
    cases p with | cons px tl =>
    cases tl
    split at e
    · rename_i ks xs ec
      split at e
      · rename_i hl
        cases e
        obtain ⟨a, rfl, ob⟩ := asC_rp r px ec
        obtain ⟨kvs, e1, e2, q⟩ := ob_dct hl ob
        exact .inr ⟨a, kvs, rfl, Rd.of e1, fun l hl => ret_dct r t e2 q hl h⟩
      · cases e
    · cases e
  · exact .inl rfl
  · -- sorted
    cases p with | cons px tl =>
    cases tl
    refine .inr ?_
    split at e
    · rename_i xs el
      split at e
      · rename_i hs
        cases e
        obtain ⟨a, us, rfl, ha, q⟩ := asL_rp r px el
        rcases Bool.or_eq_true_iff.mp hs with h1 | h1
        · left
          unfold tupS at h1
          split at h1
          · rename_i ks ek
            simp only [Bool.and_eq_true] at h1
            obtain ⟨l, rfl, e2, e3⟩ := tks_rp q ek
            subst e2
            refine ⟨a, l, rfl, SqL.of ha, fun p hp => ?_, ?_, fun b hb => ret_lst r t q hb h⟩
            · have := List.all_eq_true.mp h1.1 p.2 (List.mem_map.mpr ⟨p, hp, rfl⟩)
              simp only [Bool.and_eq_true, Bool.not_eq_true'] at this
              exact ⟨e3 p hp, this.1, fun e => by rw [e] at this; simp at this⟩
            · exact List.pairwise_map.mp (asc_pw h1.2)
          · cases h1
        · right
          unfold strS at h1
          split at h1
          · rename_i ss es
            simp only [Bool.and_eq_true, decide_eq_true_eq] at h1
            have e1 := strs_rp q es
            subst e1
            refine ⟨a, ss, rfl, SqL.of ha, h1.1, fun ys b hp hy hb => ?_⟩
            rw [sorted_same h1.2 hp hy]
            exact ret_lst r t q hb h
          · cases h1
      · cases e
    · cases e
  · cases e
theorem sE_bi (g : Good P F G cx X W u) {m : Bool} {f : Str} {b : BI} {args : List Expr} {as' : CEs} {p pos : Pos} (hb : biOf f = some b) (hg : cx.glob f = true) (hc : biCalm b = true → X.calm = true) (h0 : args ≠ []) (hpl : args.all (fun e => !isStar e) = true)
    (ha : PA X args (tA F G u W as')) : PE X (.Call (.Name f p) args [] pos) (tE F G u W (.bi m b as')) := by
  obtain ⟨ok, hv⟩ := bi_ok g hb hg hc
  refine peImp (ok.pe args _ p pos h0 hpl ha) fun σ H Q ⟨A, env, st, rel, h⟩ => ?_
  unfold wpE at h
  refine tA_one rel h (fun _ _ _ _ z => z) fun ds s A1 H1 vs t r px ⟨d, e, q⟩ => ?_
  rcases bi_fin r t px e q with e' | q
  · exact absurd e' hv
  · rw [g.K]; exact q
end
end Mini
end
section
/-! Methods of built-in types; exceptions in hand. -/
namespace Mini
open PySem L2 PySem.Spec PyProof.Rows
section
variable {P : PInfo} {F : Fx} {G : Sg} {cx : CTX} {X : Cx} {W : WX} {u : SuiT} {n : Nat} {A A0 : List Addr} {H H0 : Hp} {st : Sto}
theorem flat_rp {d : D} {v : V} (p : Rp F A H d v) (h : isFlat d = true) : flatV v = true := by cases p <;> first | rfl | (simp [isFlat] at h)
theorem eqF_rp {d e : D} {v w : V} (p : Rp F A H d v) (q : Rp F A H e w) (h : isFlat d = true) (h' : isFlat e = true) : eqF d e = eqV v w := by
  cases p <;> simp [isFlat] at h <;> cases q <;> simp [isFlat] at h' <;> rfl
theorem flats_rp : ∀ {ds : List D} {vs : List V}, Rps F A H ds vs → ds.all isFlat = true → vs.all flatV = true
  | [], _, .nil, _ => rfl
  | d :: ds, _, .cons p t, h => by
    simp only [List.all_cons, Bool.and_eq_true] at h ⊢
    exact ⟨flat_rp p h.1, flats_rp t h.2⟩
theorem Rps.dropLast : ∀ {ds : List D} {vs : List V}, Rps F A H ds vs → Rps F A H ds.dropLast vs.dropLast
  | _, _, .nil => .nil
  | _, _, .cons _ .nil => .nil
  | _, _, .cons p (.cons q t) => .cons p (Rps.dropLast (.cons q t))
def rMt (K : PySem.W.Frag) : MT → V → List V → Hp → VK → Prop
  | .append => rAppend
  | .extend => rExtend
  | .pop => rPop
  | .reverse => rReverse
  | .index => rIndex K
  | .get => fun x xs H Q => ∃ a y d o, x = .ref a ∧ xs = [y, d] ∧ DGet H a y o ∧ Q (o.getD d) H
  | .split => fun x xs H Q => ∃ a b, x = .str a ∧ xs = [.str b] ∧ (b.length == 0) = false ∧ a.length + 2 ≤ sizeLine ∧ rNewStrs (Txt.split a b) H Q
  | .join => fun x xs H Q => ∃ a p, ∃ ys : List Str, x = .str a ∧ xs = [.ref p] ∧ (SqL K H p (ys.map V.str) ∨ SqT K H p (ys.map V.str)) ∧ (ys.map (·.length)).sum + ys.length * a.length ≤ 16777216 ∧ Q (.str (Txt.join a ys)) H
  | .strip => fun x xs H Q => ∃ a b, x = .str a ∧ xs = [.str b] ∧ a.length ≤ sizeLine ∧ Q (.str (Txt.stripChars a b)) H
  | _ => fun _ _ _ _ => False
def mtId : MT → String
  | .append => "list.append"
  | .extend => "list.extend"
  | .pop => "list.pop"
  | .reverse => "list.reverse"
  | .index => "list.index"
  | .split => "str.split"
  | .join => "str.join"
  | .strip => "str.strip"
  | _ => "dict.get"
def mtTy : MT → String
  | .get => "dict"
  | .split => "str"
  | .join => "str"
  | .strip => "str"
  | _ => "list"
structure MtOk (X : Cx) (f : Str) (b : MT) : Prop where
  pa : PlainAttrs (mtTy b)
  slot : Slot (mtTy b) f (mtId b)
  ty : typeOf (.builtin (mtId b)) = pure (.type "method_descriptor")
  ok : MtR X (mtId b) (rMt X.K b)
theorem mt_get (hu : X.A.units + 1 < cLine) : MtR X "dict.get" (rMt X.K .get) := by
  intro pins s σ H x xs v us Q I rx rxs ⟨a, y, d, o, e1, e2, g, q⟩
  subst e1; subst e2
  cases rx
  obtain ⟨u1, u2, rfl, r1, r2⟩ := Vals.two rxs
  exact d_get2 hu I g r1 r2 fun w' s' I' rw' => ⟨_, H, I', rw', q⟩
theorem mt_ok (g : Good P F G cx X W u) {f : Str} {b : MT} {k : Nat} (h : mtOf f = some (b, k)) : MtOk X f b ∧ b ≠ .setd := by
  unfold mtOf at h
  by_cases e : f = "append"
  · subst e; rw [if_pos rfl] at h; cases h
    exact ⟨⟨PySem.F.plainAttrs_list, PySem.F.slot_list_append, PySem.F.type_list_append, mt_append⟩, by simp⟩
  rw [if_neg e] at h; clear e
  by_cases e : f = "extend"
  · subst e; rw [if_pos rfl] at h; cases h
    exact ⟨⟨PySem.F.plainAttrs_list, PySem.F.slot_list_extend, PySem.F.type_list_extend, mt_extend⟩, by simp⟩
  rw [if_neg e] at h; clear e
  by_cases e : f = "pop"
  · subst e; rw [if_pos rfl] at h; cases h
    exact ⟨⟨PySem.F.plainAttrs_list, PySem.F.slot_list_pop, PySem.F.type_list_pop, mt_pop⟩, by simp⟩
  rw [if_neg e] at h; clear e
  by_cases e : f = "reverse"
  · subst e; rw [if_pos rfl] at h; cases h
    exact ⟨⟨PySem.F.plainAttrs_list, PySem.F.slot_list_reverse, PySem.F.type_list_reverse, mt_reverse⟩, by simp⟩
  rw [if_neg e] at h; clear e
  by_cases e : f = "index"
  · subst e; rw [if_pos rfl] at h; cases h
    exact ⟨⟨PySem.F.plainAttrs_list, PySem.F.slot_list_index, PySem.F.type_list_index, mt_index⟩, by simp⟩
  rw [if_neg e] at h; clear e
  by_cases e : f = "get"
  · subst e; rw [if_pos rfl] at h; cases h
    exact ⟨⟨PySem.F.plainAttrs_dict, PySem.F.slot_dict_get, PySem.F.type_dict_get, mt_get (by have := g.units; omega)⟩, by simp⟩
  rw [if_neg e] at h; clear e
  by_cases e : f = "split"
  · subst e; rw [if_pos rfl] at h; cases h
    exact ⟨⟨PySem.F.plainAttrs_str, PySem.F.slot_str_split, PySem.F.type_str_split, mt_split⟩, by simp⟩
  rw [if_neg e] at h; clear e
  by_cases e : f = "join"
  · subst e; rw [if_pos rfl] at h; cases h
    exact ⟨⟨PySem.F.plainAttrs_str, PySem.F.slot_str_join, PySem.F.type_str_join, mt_join⟩, by simp⟩
  rw [if_neg e] at h; clear e
  by_cases e : f = "strip"
  · subst e; rw [if_pos rfl] at h; cases h
    exact ⟨⟨PySem.F.plainAttrs_str, PySem.F.slot_str_strip, PySem.F.type_str_strip, mt_stripChars⟩, by simp⟩
  rw [if_neg e] at h; clear e
  cases h
theorem ty_mt {b : MT} {o : D} {v : V} (hb : b ≠ .setd) (r : RelSt F A H st) (p : Rp F A H o v) (h : tyM b o st = true) : tyV F.K (mtTy b) v H := by
  cases b
  case get =>
    simp only [tyM] at h
    split at h
    · rename_i ks xs e
      obtain ⟨a, rfl, ob⟩ := asC_rp r p e
      obtain ⟨kvs, e1, _⟩ := ob_dct h ob
      exact .inr (.inr (.inl ⟨rfl, .inl ⟨kvs, e1⟩⟩))
    · cases h
  all_goals first
    | exact absurd rfl hb
    | (cases p <;> first | (simp [tyM] at h; done) | rfl)
    | (simp only [tyM] at h
       obtain ⟨xs, e⟩ := Option.isSome_iff_exists.mp h
       obtain ⟨a, vs, rfl, ha, _⟩ := asL_rp r p e
       exact .inl ⟨rfl, vs, SqL.of ha⟩)
theorem st_ob {k : Nat} {a : Addr} {so : SO} (r : RelSt F A H st) (p : Rp F A H (.ref k) (.ref a)) (h : st[k]? = some so) : A[k]? = some a ∧ Ob F A H so a := by
  cases p with | ref e =>
  obtain ⟨a', ha, ob⟩ := r.2.2 _ _ h
  rw [e] at ha; cases ha
  exact ⟨e, ob⟩
theorem findIdx_sp {ds : List D} {vs : List V} {d : D} {v : V} {j : Nat} (rs : Rps F A H ds vs) (p : Rp F A H d v) (hf : isFlat d = true) (hfs : ds.all isFlat = true) (h : ds.findIdx? (fun z => eqF z d) = some j) :
    ∃ z, vs[j]? = some z ∧ eqV z v = true ∧ ∀ (m : Nat) (z' : V), m < j → vs[m]? = some z' → eqV z' v = false := by
  rw [List.findIdx?_eq_some_iff_getElem] at h
  obtain ⟨hj, h1, h2⟩ := h
  obtain ⟨z, hz, pz⟩ := rs.get (List.getElem?_eq_getElem hj)
  refine ⟨z, hz, by rw [← eqF_rp pz p (List.all_eq_true.mp hfs _ (List.getElem_mem hj)) hf]; exact h1, fun m z' hm hz' => ?_⟩
  obtain ⟨d', hd', pd'⟩ := rs.getV hz'
  obtain ⟨hl, e⟩ := List.getElem?_eq_some_iff.mp hd'
  rw [← eqF_rp pd' p (by rw [← e]; exact List.all_eq_true.mp hfs _ (List.getElem_mem hl)) hf]
  have := h2 m hm
  rw [e] at this
  simpa using this
theorem mt_fin {b : MT} {o : D} {ds : List D} {xv : V} {vs : List V} {Q : VK} (r : RelSt F A H st) (t : Stp A0 H0 A H) (px : Rp F A H o xv) (p : Rps F A H ds vs) (h : wpM b o ds st (QLink F A0 H0 Q)) : rMt F.K b xv vs H Q := by
  unfold wpM at h
  split at h
  · obtain ⟨k, xs, rfl, hs, hl, q⟩ := h
    cases p with | cons pv tl =>
    cases tl
    obtain ⟨a, rfl⟩ : ∃ a, xv = .ref a := by cases px; exact ⟨_, rfl⟩
    obtain ⟨ha, ob⟩ := st_ob r px hs
    cases ob with | lst e rs =>
    have ts : ∀ {o : HO}, Stp A H A (upd H a o) := Stp.set ha
    exact ⟨a, _, _, rfl, rfl, e, by rw [← rs.length]; exact hl, q A _ _ (t.trans r ts) (r.set ha (.lst upd_same ((rs.append (.cons pv .nil)).stp ts))) .non⟩
  · obtain ⟨k, xs, zs, rfl, hs, hz, hl, q⟩ := h
    cases p with | cons pv tl =>
    cases tl
    obtain ⟨a, rfl⟩ : ∃ a, xv = .ref a := by cases px; exact ⟨_, rfl⟩
    obtain ⟨ha, ob⟩ := st_ob r px hs
    obtain ⟨c, ws, rfl, hc, rz⟩ := asL_rp r pv hz
    cases ob with | lst e rs =>
    have ts : ∀ {o : HO}, Stp A H A (upd H a o) := Stp.set ha
    exact ⟨a, c, _, _, rfl, rfl, e, hc, by rw [← rs.length, ← rz.length]; exact hl, q A _ _ (t.trans r ts) (r.set ha (.lst upd_same ((rs.append rz).stp ts))) .non⟩
  · obtain ⟨k, xs, y, rfl, hs, hy, q⟩ := h
    cases p
    obtain ⟨a, rfl⟩ : ∃ a, xv = .ref a := by cases px; exact ⟨_, rfl⟩
    obtain ⟨ha, ob⟩ := st_ob r px hs
    cases ob with | lst e rs =>
    rw [List.getLast?_eq_getElem?] at hy
    obtain ⟨z, hz, pz⟩ := rs.get hy
    rw [rs.length] at hz
    have ts : ∀ {o : HO}, Stp A H A (upd H a o) := Stp.set ha
    exact ⟨a, _, z, rfl, rfl, e, hz, q A _ _ (t.trans r ts) (r.set ha (.lst upd_same (rs.dropLast.stp ts))) (pz.stp ts)⟩
  · obtain ⟨k, xs, rfl, hs, q⟩ := h
    cases p
    obtain ⟨a, rfl⟩ : ∃ a, xv = .ref a := by cases px; exact ⟨_, rfl⟩
    obtain ⟨ha, ob⟩ := st_ob r px hs
    cases ob with | lst e rs =>
    have ts : ∀ {o : HO}, Stp A H A (upd H a o) := Stp.set ha
    exact ⟨a, _, rfl, rfl, e, q A _ _ (t.trans r ts) (r.set ha (.lst upd_same (rs.reverse.stp ts))) .non⟩
  · obtain ⟨xs, j, hx, hf, hfs, hj, q⟩ := h
    cases p with | cons pv tl =>
    cases tl
    obtain ⟨a, ws, rfl, ha, rs⟩ := asL_rp r px hx
    obtain ⟨z, h1, h2, h3⟩ := findIdx_sp rs pv hf hfs hj
    exact ⟨a, ws, _, j, z, rfl, rfl, SqL.of ha, flat_rp pv hf, flats_rp rs hfs, h1, h2, h3, q A H _ t r (.int _)⟩
  · obtain ⟨ks, xs, hc, hk, q⟩ := h
    cases p with | cons pk tl =>
    cases tl with | cons pd tl =>
    cases tl
    obtain ⟨a, rfl, ob⟩ := asC_rp r px hc
    simp only [keyOk, Bool.and_eq_true] at hk
    obtain ⟨k, rfl⟩ := leaf_key hk.1
    cases rp_key pk
    obtain ⟨kvs, e1, e2, qs⟩ := ob_dct hk.2 ob
    subst e2
    rcases look_d k qs with ⟨h1, h2⟩ | ⟨d', v, h1, h2, h3⟩
    · rw [h1] at q
      exact ⟨a, _, _, none, rfl, rfl, h2 ▸ DGet.k e1, q A H _ t r pd⟩
    · rw [h1] at q
      exact ⟨a, _, _, some v, rfl, rfl, h2 ▸ DGet.k e1, q A H _ t r h3⟩
  · obtain ⟨a, b, rfl, rfl, h1, h2, q⟩ := h
    cases px
    cases p with | cons pv tl =>
    cases tl; cases pv
    exact ⟨a, b, rfl, rfl, h1, (by rw [sizeLine_eq]; exact h2), fun l hl => by
      have hr : Rps F A H ((Txt.split a b).map D.str) ((Txt.split a b).map V.str) := by
        generalize Txt.split a b = ss
        induction ss with
        | nil => exact .nil
        | cons s r ih => exact .cons (.str s) ih
      exact ret_lst (m := false) r t hr hl q⟩
  · obtain ⟨a, xs, ss, rfl, h1, h2, h3, q⟩ := h
    cases px
    cases p with | cons pv tl =>
    cases tl
    obtain ⟨c, ws, rfl, hs, rs⟩ := asS_rp r pv h1
    have := strs_rp rs h2
    subst this
    exact ⟨a, c, ss, rfl, rfl, hs.symm.imp_left SqL.of, h3, q A H _ t r (.str _)⟩
  · obtain ⟨a, b, rfl, rfl, h1, q⟩ := h
    cases px
    cases p with | cons pv tl =>
    cases tl; cases pv
    exact ⟨a, b, rfl, rfl, (by rw [sizeLine_eq]; exact h1), q A H _ t r (.str _)⟩
  · exact h.elim
theorem sE_mt (g : Good P F G cx X W u) {f : Str} {b : MT} {k : Nat} {o : Expr} {o' : CE} {args : List Expr} {as' : CEs} {apos pos : Pos} (hb : mtOf f = some (b, k)) (ho : PE X o (tE F G u W o')) (hs : isSuper o = false) (ha : PA X args (tA F G u W as')) (hpl : args.all (fun e => !isStar e) = true)
    (h0 : args = [] → as' = .nil) (hl : args.length < 20) (hline : (apos.endLine == pos.line) = true) : PE X (.Call (.Attribute o f apos) args [] pos) (tE F G u W (.mt b o' as')) := by
  obtain ⟨ok, hne⟩ := mt_ok g hb
  have rd : ∀ σ H Q, tE F G u W (.mt b o' as') σ H Q → tBM X.K (mtTy b) (rMt X.K b) (tE F G u W o') (tA F G u W as') σ H Q := by
    rintro σ H Q ⟨A, env, st, rel, h⟩
    unfold wpE at h
    refine tE_one rel h (fun _ _ _ _ z => z) fun x s1 A1 H1 xv t1 r1 p1 ⟨ht, q1⟩ => ?_
    refine ⟨by rw [g.K]; exact ty_mt hne r1 p1 ht, ?_⟩
    rw [g.K]
    exact tA_one (rel.stp t1 r1) q1 (fun C f z s' q => q.stp r1 t1) fun ds s A2 H2 vs t r p q => mt_fin r (t1.trans r1 t) (p1.stp t) p q
  cases args with
  | nil =>
    rw [h0 rfl] at rd ⊢
    refine peImp (pe_bm0 ok.pa ok.slot ok.ty ok.ok ho (base_plain hs) hline) fun σ H Q q => ?_
    obtain ⟨A, env, st, rel, h⟩ := rd σ H Q q
    refine ⟨A, env, st, rel, wpE_mono _ _ _ (fun d s q A' H' v t r p => ?_) (fun _ _ _ _ z => z) h⟩
    obtain ⟨ht, A2, env2, st2, rel2, q2⟩ := q A' H' v t r p
    unfold wpEs at q2
    exact ⟨ht, q2 A2 H' [] .refl rel2.rs .nil⟩
  | cons e es =>
    obtain ⟨h1, h2⟩ := plain_cons hpl
    exact peImp (pe_bm ok.pa ok.slot ok.ty ok.ok ho ha (base_plain hs) (few_plain hpl hl) hline (star_plain h1) (any_plain h2)) rd
end
end Mini
end
section
/-! What is walked: lists and tuples alike; enumerate, zip. -/
namespace Mini
open PySem L2 PySem.Spec PyProof.Rows
/-- a list (false) or a tuple (true) -/
def SqK (K : PySem.W.Frag) (H : Hp) (k : Bool) (a : Addr) (xs : List V) : Prop := if k then SqT K H a xs else SqL K H a xs
def ItK (h : Heap) (k : Bool) (it a : Addr) (i : Nat) : Prop := if k then h.IsTupleIter it a i else h.IsListIter it a i
def PlK (h : Heap) (k : Bool) (a : Addr) (its : Array Value) : Prop := if k then h.IsTuple a its else h.IsList a its
section
variable {P : Program} {w : World} {K : PySem.W.Frag} {k k2 : Bool}
theorem ItK.at {h h' : Heap} {it a : Addr} {i : Nat} (x : ItK h k it a i) (e : ∀ o, h.get? it = some o → h'.get? it = some o) : ItK h' k it a i := by
  cases k with
  | false => exact Heap.IsListIter.at (show h.IsListIter it a i from x) e
  | true => exact Heap.IsTupleIter.at (show h.IsTupleIter it a i from x) e
theorem ItK.get {h : Heap} {it a : Addr} {i : Nat} (x : ItK h k it a i) : ∃ o, h.get? it = some o ∧ ∀ v, o.data ≠ .cell v := by
  cases k with
  | false => obtain ⟨o, ho, _, hd⟩ := x; exact ⟨o, ho, fun v q => by rw [hd] at q; cases q⟩
  | true => obtain ⟨o, ho, _, hd⟩ := x; exact ⟨o, ho, fun v q => by rw [hd] at q; cases q⟩
theorem PlK.get {h : Heap} {a : Addr} {its : Array Value} (x : PlK h k a its) : ∃ o n, h.get? a = some o ∧ o.data = .seq its n := by
  cases k with
  | false => obtain ⟨o, ho, _, n, hd⟩ := x; exact ⟨o, n, ho, hd⟩
  | true => obtain ⟨o, ho, _, n, hd⟩ := x; exact ⟨o, n, ho, hd⟩
theorem drawsK {A : Around} (hh : A.handled = none) (it a : Addr) (hne : a ≠ it) (its : Array Value) : Draws P w A it [it, a] its.size (fun i v => its[i]? = some v) (fun i h => ItK h k it a i ∧ PlK h k a its) := by
  cases k with
  | false => exact Draws.list hh it a hne its
  | true => exact Draws.tuple hh it a hne its
def itO (k : Bool) (a : Addr) : Obj := if k then { cls := .type "tuple_iterator", data := .fields #[.ref a, .int 0 0] } else { cls := .type "list_iterator", data := .fields #[.ref a, .int 0 0] }
theorem beginsK (a : Addr) (its : Array Value) : Begins (.ref a) (itO k a) fun h => PlK h k a its := by
  cases k with
  | false => exact begins_list a its
  | true => exact begins_tuple a its
theorem itO_at {h : Heap} {it a : Addr} (e : h.get? it = some (itO k a)) : ItK h k it a 0 := by
  cases k with
  | false => exact ⟨_, e, rfl, rfl⟩
  | true => exact ⟨_, e, rfl, rfl⟩
theorem seqK {X : Cx} {pins : List (Addr × Obj)} {σ : L2.St} {H : Hp} {s : Shared} {a : Addr} {xs : List V} (I : Inv X pins σ H s) (h : SqK X.K H k a xs) : ∃ its : List Value, Vals xs its ∧ PlK s.heap k a its.toArray ∧ xs.length ≤ sizeLine := by
  cases k with
  | false => obtain ⟨its, r, p, z⟩ := I.list h; exact ⟨its, r, p.isList, z⟩
  | true => obtain ⟨its, r, p, z⟩ := I.tuple h; exact ⟨its, r, p, z⟩
theorem seqK_inj {X : Cx} {pins : List (Addr × Obj)} {σ : L2.St} {H : Hp} {s : Shared} {a : Addr} {xs ys : List V} (I : Inv X pins σ H s) (h : SqK X.K H k a xs) (h' : SqK X.K H k a ys) : xs = ys := by
  cases k with
  | false => exact I.list_inj h h'
  | true => exact I.tuple_inj h h'
/-! ### enumerate -/
def IteS (K : PySem.W.Frag) (k : Bool) (a : Addr) : It :=
  ⟨fun i H => ∃ (xs : List V) (x : V), SqK K H k a xs ∧ xs[i]? = some x, fun i H v H' => ∃ T x, v = .ref T ∧ H T = none ∧ H' = upd H T (.tup [.int (i : Nat), x]) ∧ ∀ xs, SqK K H k a xs → xs[i]? = some x, fun i H => ∃ xs : List V, SqK K H k a xs ∧ xs.length = i⟩
theorem turn_enumS {elts : List Expr} {kk : Nat} {tpos : Pos} (a e it : Addr) (hae : a ≠ e) (hai : a ≠ it) :
    Turn P w K (.Tuple elts kk tpos) (IteS K k a) [e, it] e (fun i h => (∃ old, IsEnum h e it ((i : Nat) : Int) old) ∧ ItK h k it a i ∧ e ≠ it) where
  mem := by simp
  obj := fun i h st b hb => by
    obtain ⟨⟨old, he⟩, hi, _⟩ := st
    have e' : b = e ∨ b = it := by simpa using hb
    rcases e' with z | z
    · rw [z]; exact ⟨_, he, fun v q => nomatch q⟩
    · rw [z]; exact hi.get
  keep := fun i h h' st k => let ⟨⟨old, he⟩, hi, hne⟩ := st; ⟨⟨old, k e (by simp) _ he⟩, hi.at fun o q => k it (by simp) o q, hne⟩
  item := by
    intro X hP hw hK hc i pins s σ H E I hf st hg
    subst hP hw hK
    obtain ⟨⟨old, he⟩, hit, hne⟩ := st
    obtain ⟨xs, x, hq, hx⟩ := hg
    obtain ⟨its, rv, p, hz⟩ := seqK I hq
    obtain ⟨u, hu, ru⟩ := rv.get hx
    have hel : e < s.heap.objs.size := Heap.lt_size he
    have hil : it < s.heap.objs.size := by obtain ⟨_, q, _⟩ := hit.get; exact Heap.lt_size q
    refine wpAny_pyNext_enum_itemD (drawsK (k := k) (A := X.A.in1) (I.ok.hd hc) it a hai its.toArray) he ⟨hit, p⟩ (by have := (List.getElem?_eq_some_iff.mp hu).1; simpa using this) hne (by simp [hne, Ne.symm hae]) fun y h' tk hy ho hit' hT hsz hk => ?_
    have hy' : y = u := by
      have : its[i]? = some y := by simpa using hy
      rw [hu] at this; exact (Option.some.inj this).symm
    subst hy'
    refine ⟨_, rfl, wpAny_letOwnedTupleGo_enum (s := { s with heap := h', toks := tk + 1 }) ho fun h'' he' sb => ?_⟩
    have hT2 : h''.get? s.heap.objs.size = some { cls := .type "tuple", data := .seq #[.int i tk, y] } := (sb.2 _ (Nat.ne_of_gt hel)).trans hT
    have new : ObjOk X.prog X.w (upd H s.heap.objs.size (.tup [.int (i : Nat), x])) h'' s.heap.objs.size (.tup [.int (i : Nat), x]) :=
      ⟨by show 2 ≤ sizeLine; decide, [.int i tk, y], .cons ⟨_, rfl⟩ (.cons ru .nil), ⟨_, hT2, rfl, _, rfl⟩⟩
    have I1 : Inv X pins σ (upd H s.heap.objs.size (.tup [.int (i : Nat), x])) { s with heap := h'', toks := tk + 1 } :=
      I.turnedNew (ch := [e, it]) (fun b ob hb q => (sb.2 b (fun z => hb (by simp [z]))).trans (hk b ob (fun z => hb (by simp [z])) (fun z => hb (by simp [z])) q)) hf (Nat.le_refl _) new
    refine ⟨.ref s.heap.objs.size, _, I1, rfl, ⟨_, x, rfl, I.hok.fresh (Nat.le_refl _), rfl, fun ys hy => by rw [seqK_inj I hy hq]; exact hx⟩, ⟨⟨y, ?_⟩, hit'.1.at fun o q => (sb.2 it (Ne.symm hne)).trans q, hne⟩, fun b hb => ?_⟩
    · have e1 : ((i + 1 : Nat) : Int) = (i : Int) + 1 := by omega
      rw [e1]; exact he'
    · have hb' : b < s.heap.objs.size := by
        have e' : b = e ∨ b = it := by simpa using hb
        rcases e' with z | z
        · rw [z]; exact hel
        · rw [z]; exact hil
      rw [upd_ne (Nat.ne_of_lt hb')]
      exact (hf b hb).1
  done := by
    intro X hP hw hK hc i pins s σ H E I hf st hg
    subst hP hw hK
    obtain ⟨⟨old, he⟩, hit, hne⟩ := st
    obtain ⟨xs, hq, hx⟩ := hg
    obtain ⟨its, rv, p, hz⟩ := seqK I hq
    obtain ⟨f0, f1, f2, f3, f4, f5⟩ := hf it (by simp)
    have hl := rv.length
    refine wpAny_pyNext_enum_endD (drawsK (k := k) (A := X.A.in1) (I.ok.hd hc) it a hai its.toArray) he ⟨?_, p⟩ fun h' eb => ⟨rfl, I.turned (t' := s.toks) (fun b o hb q => eb b o hb q) f0 f1 f3 f4 f5⟩
    have : its.toArray.size = i := by simp; omega
    rw [this]; exact hit
  self := fun A i s Q E st h => let ⟨⟨_, he⟩, _⟩ := st; wpAny_pyIter_enum he h
set_option maxHeartbeats 1000000 in
theorem meets_enumerate_newB1 {v : Value} {o : Obj} {H : Heap → Prop} (B : Begins v o H) :
    Meets (Builtin.«enumerate.__new__» ⟨[.type "enumerate", v], []⟩) (fun _ R s => H s.heap ∧
      R (.ok (.ret (.ref (s.heap.push o).objs.size))) { s with heap := (s.heap.push o).push { cls := .type "enumerate", data := .fields #[.none, .bool false, .ref s.heap.objs.size, rawInt 0, .none, .none] } }) :=
  .of_wp fun prog w A R s h => by
    obtain ⟨hp, g, d, tk, os⟩ := s; obtain ⟨h1, h⟩ := h
    have hsub := sub_enumerate
    have q1 : ∀ {A' : Around} {E : Value → Shared → Prop} {Q : Value → Shared → Prop}, Q (.ref hp.objs.size) ⟨hp.push o, g, d, tk, os⟩ → wpAny (model prog w) A' (pyIter v) Q E ⟨hp, g, d, tk, os⟩ :=
      fun q => B.iter prog w _ _ ⟨hp, g, d, tk, os⟩ _ h1 q
    wp_walk using q1
    refine wpAny_stack_any fun st => wpAny_pure ?_
    split
    · rename_i c _ _ _ _ _
      cases (c == Value.type "enumerate")
      · wp_walk using q1
        exact ⟨_, rfl, h⟩
      · wp_walk using q1
        exact ⟨_, rfl, h⟩
    · wp_walk using q1
      exact ⟨_, rfl, h⟩
theorem enum_begins1 {A : Around} {E : Value → Shared → Prop} {s : Shared} {v : Value} {o : Obj} {H : Heap → Prop} {Q : Value → Shared → Prop} (B : Begins v o H) (h1 : H s.heap)
    (h : ∀ h', IsEnum h' (s.heap.objs.size + 1) s.heap.objs.size 0 .none → h'.get? s.heap.objs.size = some o → h'.objs.size = s.heap.objs.size + 2 →
      (∀ b o, s.heap.get? b = some o → h'.get? b = some o) → Q (.ref (s.heap.objs.size + 1)) { s with heap := h' }) :
    wpAny (model P w) A (call (.type "enumerate") [v]) Q E s := by
  refine callType_new F.called_enumerate (by decide) (F.typeCall_enumerate_1 _) (F.newCall_enumerate_1 _) (fun obj => F.args_object_init_2 obj _) F.entry_enumerate_new
    (meets_enumerate_newB1 B) ⟨h1, ?_⟩
  have hz : (s.heap.push o).objs.size = s.heap.objs.size + 1 := Heap.size_push ..
  show _ ∧ _
  rw [hz]
  have he : IsEnum ((s.heap.push o).push { cls := .type "enumerate", data := .fields #[.none, .bool false, .ref s.heap.objs.size, rawInt 0, .none, .none] }) (s.heap.objs.size + 1) s.heap.objs.size 0 .none := by
    have := Heap.get?_push_size (s.heap.push o) (o := { cls := .type "enumerate", data := .fields #[.none, .bool false, .ref s.heap.objs.size, rawInt 0, .none, .none] }) rfl
    rw [hz] at this; exact this
  refine ⟨⟨_, he, rfl⟩, h _ he (Heap.get?_push_of_some _ (Heap.get?_push_size _ B.free)) (by rw [Heap.size_push, hz]) fun b o x => Heap.get?_push_of_some _ (Heap.get?_push_of_some _ x)⟩
def iEnumS (K : PySem.W.Frag) (ta : TE) : TI := fun σ H R => ta σ H fun v H1 => ∃ k a xs, v = .ref a ∧ SqK K H1 k a xs ∧ R (IteS K k a) H1
theorem pi_enumS {X : Cx} {e : Expr} {ta : TE} {p pos tpos : Pos} {elts : List Expr} {kk : Nat} (hg : Gl X "enumerate") (hm : X.mg "enumerate" = none) (ha : PE X e ta) (hs : isStar e = false) :
    PI X (.Tuple elts kk tpos) (.Call (.Name "enumerate" p) [e] [] pos) (iEnumS X.K ta) := by
  refine ⟨fun pins s σ H R I h => ?_⟩
  have hse : starEach [e] X.env = (false, eval e X.env) :: starEach [] X.env := star_plain hs
  refine Call_ (ld_blt I hg hm boot_enumerate (PyProof.Rows.callWith_type1 (one_arg ha I h (fun v s1 x H1 I1 r q => ?_) hse) hse rfl))
  obtain ⟨k, a, xs, ex, hq, q⟩ := q
  subst ex
  cases r
  obtain ⟨its, rv, p', hz⟩ := seqK I1 hq
  obtain ⟨oa, na, hoa, _⟩ := p'.get
  have hal : a < s1.heap.objs.size := Heap.lt_size hoa
  refine enum_begins1 (beginsK (k := k) a its.toArray) p' fun h' he hit hsz hk => wpAny_pyIter_enum he ?_
  have I2 : Inv X pins σ H1 { s1 with heap := h' } := I1.kept (t' := s1.toks) hk
  refine ⟨s1.heap.objs.size + 1, [s1.heap.objs.size + 1, s1.heap.objs.size], _, _, H1, rfl, I2, turn_enumS a (s1.heap.objs.size + 1) s1.heap.objs.size (Nat.ne_of_lt (Nat.lt_succ_of_lt hal)) (Nat.ne_of_lt hal), ⟨⟨.none, he⟩, itO_at hit, Nat.succ_ne_self _⟩, fun b hb => ?_, q⟩
  have e' : b = s1.heap.objs.size + 1 ∨ b = s1.heap.objs.size := by simpa using hb
  have hle : s1.heap.objs.size ≤ b := by
    rcases e' with z | z
    · rw [z]; exact Nat.le_add_right _ _
    · rw [z]; exact Nat.le_refl _
  exact I1.fpOk hle (I1.hok.fresh hle)
/-! ### lists and tuples -/
def JsK (K : PySem.W.Frag) (k : Bool) (a : Addr) : It := if k then Itt K a else Itl K a
def iSeqS (K : PySem.W.Frag) (ta : TE) : TI := fun σ H R => ta σ H fun v H1 => ∃ k a xs, v = .ref a ∧ SqK K H1 k a xs ∧ R (JsK K k a) H1
theorem pi_seqS {X : Cx} {tg l : Expr} {tl : TE} (hl : PE X l tl) : PI X tg l (iSeqS X.K tl) := by
  refine ⟨fun pins s σ H R I h => ?_⟩
  refine thn (hl.run pins s σ H _ I h) fun v s1 ⟨x, H1, I1, r1, q1⟩ => ?_
  obtain ⟨k, a, xs, e, hq, q⟩ := q1
  subst e
  cases r1
  have fp : ∀ b ∈ [s1.heap.objs.size], FpOk X pins H1 b := fun b hb => by
    have e : b = s1.heap.objs.size := by simpa using hb
    subst e
    exact I1.fpOk (Nat.le_refl _) (I1.hok.fresh (Nat.le_refl _))
  cases k with
  | false =>
    obtain ⟨its, rv, p, hz⟩ := I1.list hq
    refine wpAny_pyIter_list p.isList ?_
    exact ⟨s1.heap.objs.size, [s1.heap.objs.size], _, _, H1, rfl, I1.kept (t' := s1.toks) fun b o e => Heap.get?_push_of_some _ e, turn_list a _, ⟨_, Heap.get?_push_size _ rfl, rfl, rfl⟩, fp, q⟩
  | true =>
    obtain ⟨its, rv, p, hz⟩ := I1.tuple hq
    refine wpAny_pyIter_tuple (show s1.heap.IsTuple a its.toArray from p) ?_
    exact ⟨s1.heap.objs.size, [s1.heap.objs.size], _, _, H1, rfl, I1.kept (t' := s1.toks) fun b o e => Heap.get?_push_of_some _ e, turn_tuple a _, ⟨_, Heap.get?_push_size _ rfl, rfl, rfl⟩, fp, q⟩
/-! ### zip -/
def ItzS (K : PySem.W.Frag) (k k2 : Bool) (a b : Addr) : It :=
  ⟨fun i H => ∃ (xs ys : List V) (x y : V), SqK K H k a xs ∧ SqK K H k2 b ys ∧ xs[i]? = some x ∧ ys[i]? = some y,
    fun i H v H' => ∃ T x y, v = .ref T ∧ H T = none ∧ H' = upd H T (.tup [x, y]) ∧ (∀ xs, SqK K H k a xs → xs[i]? = some x) ∧ ∀ ys, SqK K H k2 b ys → ys[i]? = some y,
    fun i H => ∃ xs ys : List V, SqK K H k a xs ∧ SqK K H k2 b ys ∧ i ≤ xs.length ∧ i ≤ ys.length ∧ (i = xs.length ∨ i = ys.length)⟩
theorem sep_of {z TI TO i1 i2 a b : Addr} (D : ZipApart z TI TO i1 i2 a b) : ZipSep2 z TI TO i1 i2 [i1, a] [i2, b] where
  TIz := D.TIz
  TOz := D.TOz
  TITO := D.TITO
  TIi1 := D.TIi1
  mem1 := by simp
  zf1 := by simp [Ne.symm D.i1z, Ne.symm D.l1z]
  Tf1 := by simp [D.TOi1, Ne.symm D.l1TO]
  TIi2 := D.TIi2
  mem2 := by simp
  zf2 := by simp [Ne.symm D.i2z, Ne.symm D.l2z]
  Tf2 := by simp [D.TOi2, Ne.symm D.l2TO]
  sep1_2 := by simp [D.i12, Ne.symm D.l2i1]
  sep2_1 := by simp [Ne.symm D.i12, Ne.symm D.l1i2]
theorem turn_zipS {elts : List Expr} {kk : Nat} {tpos : Pos} {a b z TI TO i1 i2 : Addr} (D : ZipApart z TI TO i1 i2 a b) :
    Turn P w K (.Tuple elts kk tpos) (ItzS K k k2 a b) [z, TI, TO, i1, i2] z (fun i h => IsZip h z TI TO .none ∧ IsPair h TI (.ref i1) (.ref i2) ∧ (∃ x y, IsPair h TO x y) ∧ ItK h k i1 a i ∧ ItK h k2 i2 b i) where
  mem := by simp
  obj := fun i h st c hc => by
    obtain ⟨hz, hTI, ⟨x, y, hTO⟩, h1, h2⟩ := st
    have e' : c = z ∨ c = TI ∨ c = TO ∨ c = i1 ∨ c = i2 := by simpa using hc
    rcases e' with q | q | q | q | q
    · rw [q]; exact ⟨_, hz, fun v q => nomatch q⟩
    · rw [q]; exact ⟨_, hTI, fun v q => nomatch q⟩
    · rw [q]; exact ⟨_, hTO, fun v q => nomatch q⟩
    · rw [q]; exact h1.get
    · rw [q]; exact h2.get
  keep := fun i h h' st k => by
    obtain ⟨hz, hTI, ⟨x, y, hTO⟩, h1, h2⟩ := st
    exact ⟨k z (by simp) _ hz, k TI (by simp) _ hTI, ⟨x, y, k TO (by simp) _ hTO⟩, h1.at fun o q => k i1 (by simp) o q, h2.at fun o q => k i2 (by simp) o q⟩
  item := by
    intro X hP hw hK hc i pins s σ H E I hf st hg
    subst hP hw hK
    obtain ⟨hz, hTI, ⟨x0, y0, hTO⟩, h1, h2⟩ := st
    obtain ⟨xs, ys, x, y, hqx, hqy, hx, hy⟩ := hg
    obtain ⟨its, rv, p, _⟩ := seqK I hqx
    obtain ⟨its2, rv2, p2, _⟩ := seqK I hqy
    obtain ⟨u, hu, ru⟩ := rv.get hx
    obtain ⟨u2, hu2, ru2⟩ := rv2.get hy
    have hzl : z < s.heap.objs.size := Heap.lt_size hz
    refine wpAny_pyNext_zipD2_item (sep_of D) (drawsK (k := k) (A := X.A.in1) (I.ok.hd hc) i1 a D.l1i1 its.toArray) (drawsK (k := k2) (A := X.A.in1) (I.ok.hd hc) i2 b D.l2i2 its2.toArray) hz hTI hTO ⟨h1, p⟩ ⟨h2, p2⟩
      (by have := (List.getElem?_eq_some_iff.mp hu).1; simpa using this) (by have := (List.getElem?_eq_some_iff.mp hu2).1; simpa using this) fun y1 y2 h' tk e1 e2 z' TO' h1' h2' hT hsz hk => ?_
    have e1' : y1 = u := by
      have : its[i]? = some y1 := by simpa using e1
      rw [hu] at this; exact (Option.some.inj this).symm
    have e2' : y2 = u2 := by
      have : its2[i]? = some y2 := by simpa using e2
      rw [hu2] at this; exact (Option.some.inj this).symm
    subst e1' e2'
    refine ⟨_, rfl, wpAny_letOwnedTupleGo_zip (s := { s with heap := h', toks := tk }) z' fun h'' z'' sb => ?_⟩
    have hT2 : h''.get? s.heap.objs.size = some { cls := .type "tuple", data := .seq #[y1, y2] } := (sb.2 _ (Nat.ne_of_gt hzl)).trans hT
    have new : ObjOk X.prog X.w (upd H s.heap.objs.size (.tup [x, y])) h'' s.heap.objs.size (.tup [x, y]) :=
      ⟨by show 2 ≤ sizeLine; decide, [y1, y2], .cons ru (.cons ru2 .nil), ⟨_, hT2, rfl, _, rfl⟩⟩
    have I1 : Inv X pins σ (upd H s.heap.objs.size (.tup [x, y])) { s with heap := h'', toks := tk } :=
      I.turnedNew (t' := tk) (ch := [z, TI, TO, i1, i2]) (fun c o hb q => (sb.2 c (fun q' => hb (by simp [q']))).trans (hk c o (fun q' => hb (by simp [q'])) (fun q' => hb (by simp [q'])) (fun q' => hb (by simp [q'])) (fun q' => hb (by simp [q'])) q)) hf (Nat.le_refl _) new
    refine ⟨.ref s.heap.objs.size, _, I1, rfl, ⟨_, x, y, rfl, I.hok.fresh (Nat.le_refl _), rfl, fun l hl => by rw [seqK_inj I hl hqx]; exact hx, fun l hl => by rw [seqK_inj I hl hqy]; exact hy⟩, ⟨z'', ?_, ⟨y1, y2, ?_⟩, ?_, ?_⟩, fun c hcm => ?_⟩
    · exact (sb.2 _ D.TIz).trans (hk _ _ D.TIz D.TITO D.TIi1 D.TIi2 hTI)
    · exact (sb.2 _ D.TOz).trans TO'
    · exact h1'.1.at fun o q => (sb.2 _ D.i1z).trans q
    · exact h2'.1.at fun o q => (sb.2 _ D.i2z).trans q
    · have hlt : c < s.heap.objs.size := by
        have e' : c = z ∨ c = TI ∨ c = TO ∨ c = i1 ∨ c = i2 := by simpa using hcm
        rcases e' with q | q | q | q | q
        · rw [q]; exact hzl
        · rw [q]; exact Heap.lt_size hTI
        · rw [q]; exact Heap.lt_size hTO
        · rw [q]; obtain ⟨_, e1, _⟩ := h1.get; exact Heap.lt_size e1
        · rw [q]; obtain ⟨_, e2, _⟩ := h2.get; exact Heap.lt_size e2
      rw [upd_ne (Nat.ne_of_lt hlt)]
      exact (hf c hcm).1
  done := by
    intro X hP hw hK hc i pins s σ H E I hf st hg
    subst hP hw hK
    obtain ⟨hz, hTI, ⟨x0, y0, hTO⟩, h1, h2⟩ := st
    obtain ⟨xs, ys, hqx, hqy, g1, g2, hend⟩ := hg
    obtain ⟨its, rv, p, _⟩ := seqK I hqx
    obtain ⟨its2, rv2, p2, _⟩ := seqK I hqy
    have l1 := rv.length
    have l2 := rv2.length
    exact wpAny_pyNext_zipD2_end (sep_of D) (drawsK (k := k) (A := X.A.in1) (I.ok.hd hc) i1 a D.l1i1 its.toArray) (drawsK (k := k2) (A := X.A.in1) (I.ok.hd hc) i2 b D.l2i2 its2.toArray) hz hTI hTO ⟨h1, p⟩ ⟨h2, p2⟩ (by simp; omega) (by simp; omega) (by simp; omega)
      fun h' tk hk => ⟨rfl, I.turnedL (t' := tk) (ch := [z, TI, TO, i1, i2]) (fun c o hb q => hk c o (fun q' => hb (by simp [q'])) (fun q' => hb (by simp [q'])) (fun q' => hb (by simp [q'])) (fun q' => hb (by simp [q'])) q) hf⟩
  self := fun A i s Q E st h => wpAny_pyIter_zip st.1 h
def iZipS (K : PySem.W.Frag) (ta tb : TE) : TI := fun σ H R => ta σ H fun x H1 => tb σ H1 fun y H2 => ∃ x' y', [x, y] = [x', y'] ∧ ∃ k k2 a b xs ys, x' = .ref a ∧ y' = .ref b ∧ SqK K H2 k a xs ∧ SqK K H2 k2 b ys ∧ R (ItzS K k k2 a b) H2
theorem pi_zipS {X : Cx} {e e2 : Expr} {ta tb : TE} {p pos tpos : Pos} {elts : List Expr} {kk : Nat} (hg : Gl X "zip") (hm : X.mg "zip" = none) (ha : PE X e ta) (hb : PE X e2 tb) (hs : isStar e = false) (hs2 : isStar e2 = false) :
    PI X (.Tuple elts kk tpos) (.Call (.Name "zip" p) [e, e2] [] pos) (iZipS X.K ta tb) := by
  refine ⟨fun pins s σ H R I h => ?_⟩
  have hse : starEach [e, e2] X.env = (false, eval e X.env) :: starEach [e2] X.env := star_plain hs
  have hse2 : starEach [e2] X.env = (false, eval e2 X.env) :: starEach [] X.env := star_plain hs2
  have pa : PA X [e, e2] (tCons ta (tCons tb tNil)) := pa_cons ha (pa_cons hb pa_nil hse2) hse
  refine Call_ (ld_blt I hg hm PyProof.Rows.boot_zip (PyProof.Rows.callWith_type1 (thn (pa.run pos pins s σ H (fun vs H1 => ∃ x y, vs = [x, y] ∧ ∃ k k2 a b xs ys, x = .ref a ∧ y = .ref b ∧ SqK X.K H1 k a xs ∧ SqK X.K H1 k2 b ys ∧ R (ItzS X.K k k2 a b) H1) I ?_) fun us s1 ⟨vs, H1, I1, r1, q1⟩ => ?_) hse (any_plain (by simp [hs2]))))
  · exact h
  obtain ⟨_, _, ex, k, k2, a, b, xs, ys, rfl, rfl, hqx, hqy, q⟩ := q1
  subst ex
  obtain ⟨u1, u2, rfl, r, r'⟩ := Vals.two r1
  cases r
  cases r'
  obtain ⟨its, rv, p1, _⟩ := seqK I1 hqx
  obtain ⟨its2, rv2, p2, _⟩ := seqK I1 hqy
  have la : a < s1.heap.objs.size := by obtain ⟨o, n, e, _⟩ := p1.get; exact Heap.lt_size e
  have lb : b < s1.heap.objs.size := by obtain ⟨o, n, e, _⟩ := p2.get; exact Heap.lt_size e
  refine zip_begins2 (beginsK (k := k) a its.toArray) (beginsK (k := k2) b its2.toArray) p1 p2 fun h' hz hTI hTO h1 h2 hsz hk => wpAny_pyIter_zip hz ?_
  have I2 : Inv X pins σ H1 { s1 with heap := h' } := I1.kept (t' := s1.toks) hk
  refine ⟨s1.heap.objs.size + 4, [s1.heap.objs.size + 4, s1.heap.objs.size + 2, s1.heap.objs.size + 3, s1.heap.objs.size, s1.heap.objs.size + 1], _, _, H1, rfl, I2, turn_zipS (PySem.W.ktu_apart s1.heap.objs.size a b la lb), ⟨hz, hTI, ⟨_, _, hTO⟩, itO_at h1, itO_at h2⟩, fun c hcm => ?_, q⟩
  have e' : c = s1.heap.objs.size + 4 ∨ c = s1.heap.objs.size + 2 ∨ c = s1.heap.objs.size + 3 ∨ c = s1.heap.objs.size ∨ c = s1.heap.objs.size + 1 := by simpa using hcm
  have hle : s1.heap.objs.size ≤ c := by
    rcases e' with z | z | z | z | z
    · rw [z]; exact Nat.le_add_right _ _
    · rw [z]; exact Nat.le_add_right _ _
    · rw [z]; exact Nat.le_add_right _ _
    · rw [z]; exact Nat.le_refl _
    · rw [z]; exact Nat.le_add_right _ _
  exact I1.fpOk hle (I1.hok.fresh hle)
end
end Mini
end
section
/-! What is walked: the readings. -/
namespace Mini
open PySem L2 PySem.Spec PyProof.Rows
section
variable {P : PInfo} {F : Fx} {G : Sg} {cx : CTX} {X : Cx} {W : WX} {u : SuiT} {n : Nat} {A A0 A1 : List Addr} {H H0 H1 : Hp} {st s1 : Sto}
theorem depL_now {d : D} {xs : List D} (e : asS s1 d = some xs) : depL d xs s1 := by
  cases d <;> try trivial
  simp only [asS, asL] at e
  simp only [depL]
  split at e
  · rename_i h; cases e; exact h
  · cases e
/-- where a sequence stands, and that it stays as long as dep holds -/
theorem mp_ofq {ps : List Addr} (hp : ∀ b ∈ ps, b ∈ F.priv ∨ H1 b = none) (t : Stq ps A1 H1 A H) : Mp F ps A1 H1 A H :=
  ⟨fun _ _ h => t.at h, fun b o hb h => by
    have hn : b ∉ ps := fun hm => by
      rcases hp b hm with e | e
      · exact hb.2 e
      · rw [e] at h; cases h
    exact ⟨⟨(t.out hb.1 hn h).1, hn⟩, (t.out hb.1 hn h).2⟩⟩
theorem mp_of {ps : List Addr} (hp : ∀ b ∈ ps, b ∈ F.priv ∨ H1 b = none) (t : Stp A1 H1 A H) : Mp F ps A1 H1 A H := mp_ofq hp t.toq
theorem seq_it {d : D} {v : V} {xs : List D} (r1 : RelSt F A1 H1 s1) (p : Rp F A1 H1 d v) (e : asS s1 d = some xs) :
    ∃ k a, v = .ref a ∧ ∀ ps A H s, (∀ b ∈ ps, b ∈ F.priv ∨ H1 b = none) → Stq ps A1 H1 A H → RelSt (F.pv ps) A H s → depL d xs s → ∃ vs, SqK F.K H k a vs ∧ Rps (F.pv ps) A H xs vs := by
  cases p with
  | tup t q =>
    simp only [asS, Option.some.injEq] at e
    subst e
    exact ⟨true, _, rfl, fun ps A H s hp t' r _ => ⟨_, (t.mp (mp_ofq hp t')).sq, q.mp (mp_ofq hp t')⟩⟩
  | lst o hp =>
    simp only [asS, asL, Option.some.injEq] at e
    subst e
    cases o with | lst h q => exact ⟨false, _, rfl, fun ps A H s hps t' r _ => ⟨_, SqL.of ((mp_ofq hps t').out _ _ hp h).2, q.mp (mp_ofq hps t')⟩⟩
  | ref h =>
    rename_i m a
    refine ⟨false, a, rfl, fun ps A H s hps t' r dp => ?_⟩
    obtain ⟨a', ha, ob⟩ := r.2.2 m _ dp
    rw [t'.at h] at ha; cases ha
    cases ob with | lst h q => exact ⟨_, SqL.of h, q⟩
  | _ => simp [asS, asL] at e
theorem itok_seq {k : Bool} {a : Addr} {xs : List D} {dep : Sto → Prop} (h : ∀ ps A H s, (∀ b ∈ ps, b ∈ F.priv ∨ H1 b = none) → Stq ps A1 H1 A H → RelSt (F.pv ps) A H s → dep s → ∃ vs, SqK F.K H k a vs ∧ Rps (F.pv ps) A H xs vs) : ItOk F (JsK F.K k a) xs dep A1 H1 := by
  constructor
  · intro ps i A H s hp t r d hi
    obtain ⟨vs, h1, h2⟩ := h ps A H s hp t r d
    obtain ⟨v, hv, _⟩ := h2.get (List.getElem?_eq_getElem hi)
    cases k with
    | false => exact ⟨vs, v, h1, hv⟩
    | true => exact ⟨vs, v, h1, hv⟩
  · intro ps i A H s v H' hp t r d hi hy
    obtain ⟨vs, h1, h2⟩ := h ps A H s hp t r d
    obtain ⟨w, hw, pw⟩ := h2.get (List.getElem?_eq_getElem hi)
    cases k with
    | false =>
      obtain ⟨rfl, hy⟩ := hy
      have := hy vs h1
      rw [hw] at this; cases this
      exact ⟨_, List.getElem?_eq_getElem hi, .refl, r, pw⟩
    | true =>
      obtain ⟨rfl, hy⟩ := hy
      have := hy vs h1
      rw [hw] at this; cases this
      exact ⟨_, List.getElem?_eq_getElem hi, .refl, r, pw⟩
  · intro ps i A H s hp t r d hi
    obtain ⟨vs, h1, h2⟩ := h ps A H s hp t r d
    have := h2.length
    cases k with
    | false => exact ⟨vs, h1, by omega⟩
    | true => exact ⟨vs, h1, by omega⟩
theorem enm_len : ∀ (k : Nat) (xs : List D), (enmD k xs).length = xs.length
  | _, [] => rfl
  | k, x :: xs => by simp [enmD, enm_len]
theorem enm_get : ∀ (k : Nat) (xs : List D) (i : Nat) (d : D), xs[i]? = some d → (enmD k xs)[i]? = some (.tup [.int ((k + i : Nat) : Int), d])
  | _, [], _, _, h => by simp at h
  | k, x :: xs, 0, d, h => by simp at h; subst h; simp [enmD]
  | k, x :: xs, i + 1, d, h => by
    have := enm_get (k + 1) xs i d (by simpa using h)
    simp only [enmD, List.getElem?_cons_succ, this]
    have e : k + 1 + i = k + (i + 1) := by omega
    rw [e]
theorem pair_new {T : Addr} {a b : D} {x y : V} (r : RelSt F A H st) (hT : H T = none) (pa : Rp F A H a x) (pb : Rp F A H b y) :
    Stp A H A (upd H T (.tup [x, y])) ∧ RelSt F A (upd H T (.tup [x, y])) st ∧ Rp F A (upd H T (.tup [x, y])) (.tup [a, b]) (.ref T) :=
  ⟨Stp.new hT, r.new hT, .tup (.inl ⟨upd_same, r.out hT⟩) (.cons (pa.stp (Stp.new hT)) (.cons (pb.stp (Stp.new hT)) .nil))⟩
theorem itok_enm {k : Bool} {a : Addr} {xs : List D} {dep : Sto → Prop} (h : ∀ ps A H s, (∀ b ∈ ps, b ∈ F.priv ∨ H1 b = none) → Stq ps A1 H1 A H → RelSt (F.pv ps) A H s → dep s → ∃ vs, SqK F.K H k a vs ∧ Rps (F.pv ps) A H xs vs) : ItOk F (IteS F.K k a) (enmD 0 xs) dep A1 H1 := by
  constructor
  · intro ps i A H s hp t r d hi
    rw [enm_len] at hi
    obtain ⟨vs, h1, h2⟩ := h ps A H s hp t r d
    obtain ⟨v, hv, _⟩ := h2.get (List.getElem?_eq_getElem hi)
    exact ⟨vs, v, h1, hv⟩
  · intro ps i A H s v H' hp t r d hi hy
    rw [enm_len] at hi
    obtain ⟨vs, h1, h2⟩ := h ps A H s hp t r d
    obtain ⟨w, hw, pw⟩ := h2.get (List.getElem?_eq_getElem hi)
    obtain ⟨T, x, rfl, hT, rfl, hx⟩ := hy
    have := hx vs h1
    rw [hw] at this; cases this
    obtain ⟨q1, q2, q3⟩ := pair_new r hT (.int (i : Int)) pw
    refine ⟨_, enm_get 0 xs i _ (List.getElem?_eq_getElem hi), q1, q2, ?_⟩
    rw [Nat.zero_add]; exact q3
  · intro ps i A H s hp t r d hi
    rw [enm_len] at hi
    obtain ⟨vs, h1, h2⟩ := h ps A H s hp t r d
    exact ⟨vs, h1, by rw [← h2.length]; exact hi.symm⟩
theorem zip_len : ∀ (xs ys : List D), (zipD xs ys).length = min xs.length ys.length
  | [], ys => by simp [zipD]
  | x :: xs, [] => by simp [zipD]
  | x :: xs, y :: ys => by
    have := zip_len xs ys
    simp only [zipD, List.length_cons, this]
    omega
theorem zip_get : ∀ (xs ys : List D) (i : Nat) (a b : D), xs[i]? = some a → ys[i]? = some b → (zipD xs ys)[i]? = some (.tup [a, b])
  | [], _, _, _, _, h, _ => by simp at h
  | _ :: _, [], _, _, _, _, h => by simp at h
  | x :: xs, y :: ys, 0, a, b, h, h' => by simp at h h'; subst h; subst h'; simp [zipD]
  | x :: xs, y :: ys, i + 1, a, b, h, h' => by
    simp only [zipD, List.getElem?_cons_succ]
    exact zip_get xs ys i a b (by simpa using h) (by simpa using h')
theorem itok_zip {k k2 : Bool} {a b : Addr} {xs ys : List D} {dep : Sto → Prop} (h : ∀ ps A H s, (∀ b ∈ ps, b ∈ F.priv ∨ H1 b = none) → Stq ps A1 H1 A H → RelSt (F.pv ps) A H s → dep s → ∃ vs, SqK F.K H k a vs ∧ Rps (F.pv ps) A H xs vs)
    (h' : ∀ ps A H s, (∀ b ∈ ps, b ∈ F.priv ∨ H1 b = none) → Stq ps A1 H1 A H → RelSt (F.pv ps) A H s → dep s → ∃ vs, SqK F.K H k2 b vs ∧ Rps (F.pv ps) A H ys vs) : ItOk F (ItzS F.K k k2 a b) (zipD xs ys) dep A1 H1 := by
  constructor
  · intro ps i A H s hp t r d hi
    rw [zip_len] at hi
    obtain ⟨vs, h1, h2⟩ := h ps A H s hp t r d
    obtain ⟨ws, g1, g2⟩ := h' ps A H s hp t r d
    obtain ⟨v, hv, _⟩ := h2.get (List.getElem?_eq_getElem (show i < xs.length by omega))
    obtain ⟨w, hw, _⟩ := g2.get (List.getElem?_eq_getElem (show i < ys.length by omega))
    exact ⟨vs, ws, v, w, h1, g1, hv, hw⟩
  · intro ps i A H s v H' hp t r d hi hy
    rw [zip_len] at hi
    obtain ⟨vs, h1, h2⟩ := h ps A H s hp t r d
    obtain ⟨ws, g1, g2⟩ := h' ps A H s hp t r d
    have hx := List.getElem?_eq_getElem (show i < xs.length by omega)
    have hy2 := List.getElem?_eq_getElem (show i < ys.length by omega)
    obtain ⟨v1, hv, pv⟩ := h2.get hx
    obtain ⟨w1, hw, pw⟩ := g2.get hy2
    obtain ⟨T, x, y, rfl, hT, rfl, hx', hy'⟩ := hy
    have e1 := hx' vs h1
    rw [hv] at e1; cases e1
    have e2 := hy' ws g1
    rw [hw] at e2; cases e2
    obtain ⟨q1, q2, q3⟩ := pair_new r hT pv pw
    exact ⟨_, zip_get xs ys i _ _ hx hy2, q1, q2, q3⟩
  · intro ps i A H s hp t r d hi
    rw [zip_len] at hi
    obtain ⟨vs, h1, h2⟩ := h ps A H s hp t r d
    obtain ⟨ws, g1, g2⟩ := h' ps A H s hp t r d
    have := h2.length
    have := g2.length
    exact ⟨vs, ws, h1, g1, by omega, by omega, by omega⟩
theorem itok_rng {i j : Int} {dep : Sto → Prop} : ItOk F (Itr i (j - i).toNat) (rngD i j) dep A1 H1 := by
  have hl : (rngD i j).length = (j - i).toNat := by simp [rngD]
  constructor
  · intro ps m A H s hp t r d hi
    rw [hl] at hi
    exact hi
  · intro ps m A H s v H' hp t r d hi hy
    rw [hl] at hi
    obtain ⟨rfl, rfl⟩ := hy
    refine ⟨.int (i + (m : Nat)), ?_, .refl, r, .int _⟩
    unfold rngD
    rw [List.getElem?_map, List.getElem?_range hi]
    rfl
  · intro ps m A H s hp t r d hi
    rw [hl] at hi
    show _ ≤ m
    omega
theorem sI_val {tg e : Expr} {a' : CE} (g : Good P F G cx X W u) (ha : PE X e (tE F G u W a')) : PI X tg e (tI F G u W (.val a')) := by
  refine piImp (pi_seqS ha) fun σ H R ⟨A, env, st, rel, h⟩ => ?_
  unfold wpI at h
  refine tE_one rel h (fun _ _ _ _ z => z) fun d s1 A1 H1 v t r p ⟨xs, e, q⟩ => ?_
  obtain ⟨k, a, rfl, hs⟩ := seq_it r p e
  obtain ⟨vs, h1, _⟩ := hs F.priv A1 H1 s1 (fun _ h => .inl h) Stp.refl.toq r (depL_now e)
  rw [g.K]
  exact ⟨k, a, vs, rfl, h1, q A1 H1 _ t r (itok_seq hs)⟩
theorem sI_enm {e : Expr} {a' : CE} {p pos tpos : Pos} {elts : List Expr} {kk : Nat} (g : Good P F G cx X W u) (hg : cx.glob "enumerate" = true) (ha : PE X e (tE F G u W a')) (hs : isStar e = false) : PI X (.Tuple elts kk tpos) (.Call (.Name "enumerate" p) [e] [] pos) (tI F G u W (.enm a')) := by
  refine piImp (pi_enumS (g.glob hg).1 (g.facts.free _ (by simp)) ha hs) fun σ H R ⟨A, env, st, rel, h⟩ => ?_
  unfold wpI at h
  refine tE_one rel h (fun _ _ _ _ z => z) fun d s1 A1 H1 v t r p ⟨xs, e, q⟩ => ?_
  obtain ⟨k, a, rfl, hs⟩ := seq_it r p e
  obtain ⟨vs, h1, _⟩ := hs F.priv A1 H1 s1 (fun _ h => .inl h) Stp.refl.toq r (depL_now e)
  rw [g.K]
  exact ⟨k, a, vs, rfl, h1, q A1 H1 _ t r (itok_enm hs)⟩
theorem sI_zip {e e2 : Expr} {a' b' : CE} {p pos tpos : Pos} {elts : List Expr} {kk : Nat} (g : Good P F G cx X W u) (hg : cx.glob "zip" = true) (ha : PE X e (tE F G u W a')) (hb : PE X e2 (tE F G u W b')) (hs : isStar e = false) (hs2 : isStar e2 = false) :
    PI X (.Tuple elts kk tpos) (.Call (.Name "zip" p) [e, e2] [] pos) (tI F G u W (.zip a' b')) := by
  refine piImp (pi_zipS (g.glob hg).1 (g.facts.free _ (by simp)) ha hb hs hs2) fun σ H R ⟨A, env, st, rel, h⟩ => ?_
  unfold wpI at h
  refine tE_two rel h (fun _ _ _ _ z => z) fun x y s2 A2 H2 xv yv t r px py ⟨xs, ys, ex, ey, q⟩ => ?_
  obtain ⟨k, a, rfl, hs⟩ := seq_it r px ex
  obtain ⟨k2, b, rfl, hs2⟩ := seq_it r py ey
  obtain ⟨vs, h1, _⟩ := hs F.priv A2 H2 s2 (fun _ h => .inl h) Stp.refl.toq r (depL_now ex)
  obtain ⟨ws, g1, _⟩ := hs2 F.priv A2 H2 s2 (fun _ h => .inl h) Stp.refl.toq r (depL_now ey)
  refine ⟨_, _, rfl, k, k2, a, b, vs, ws, rfl, rfl, by rw [g.K]; exact h1, by rw [g.K]; exact g1, ?_⟩
  rw [g.K]
  exact q A2 H2 _ t r (itok_zip (fun ps A H s hp t r d => hs ps A H s hp t r d.1) (fun ps A H s hp t r d => hs2 ps A H s hp t r d.2))
theorem sI_rng2 {tg a b : Expr} {a' b' : CE} {p pos : Pos} (g : Good P F G cx X W u) (hg : cx.glob "range" = true) (ha : PE X a (tE F G u W a')) (hb : PE X b (tE F G u W b')) (hs : isStar a = false) (hs2 : isStar b = false) :
    PI X tg (.Call (.Name "range" p) [a, b] [] pos) (tI F G u W (.rng a' b')) := by
  have pa : PA X [a, b] (tCons (tE F G u W a') (tCons (tE F G u W b') tNil)) := pa_cons ha (pa_cons hb pa_nil (star_plain hs2)) (star_plain hs)
  refine piImp (pi_range2 (g.glob hg).1 (g.facts.free _ (by simp)) pa (by rw [star_plain hs, star_plain hs2]; rfl) (star_plain hs2)) fun σ H R ⟨A, env, st, rel, h⟩ => ?_
  unfold wpI at h
  refine tE_two rel h (fun _ _ _ _ z => z) fun x y s2 A2 H2 xv yv t r px py ⟨i, j, ei, ej, h1, h2, h3, h4, q⟩ => ?_
  subst ei
  subst ej
  cases px
  cases py
  exact ⟨i, j, rfl, ⟨h1, h2, h3, h4⟩, q A2 H2 _ t r itok_rng⟩
theorem sI_rng1 {tg a : Expr} {a' : CE} {p pos : Pos} (g : Good P F G cx X W u) (hg : cx.glob "range" = true) (ha : PE X a (tE F G u W a')) (hs : isStar a = false) : PI X tg (.Call (.Name "range" p) [a] [] pos) (tI F G u W (.rng (.cst (.int 0)) a')) := by
  have pa : PA X [a] (tCons (tE F G u W a') tNil) := pa_cons ha pa_nil (star_plain hs)
  refine piImp (pi_range1 (g.glob hg).1 (g.facts.free _ (by simp)) pa (star_plain hs)) fun σ H R ⟨A, env, st, rel, h⟩ => ?_
  unfold wpI at h
  unfold wpE at h
  refine tE_one rel h (fun _ _ _ _ z => z) fun y s2 A2 H2 yv t r py ⟨i, j, ei, ej, h1, h2, h3, h4, q⟩ => ?_
  cases ei
  subst ej
  cases py
  refine ⟨j, rfl, h3, h4, ?_⟩
  have := q A2 H2 (Itr 0 (j - 0).toNat) t r itok_rng
  simpa using this
theorem tup_of {tg : Expr} (h : isTupE tg = true) : ∃ elts k p, tg = .Tuple elts k p := by
  cases tg <;> first | exact ⟨_, _, _, rfl⟩ | (simp [isTupE] at h)
theorem sI (ih : SndAt P F G n) {tg e : Expr} {c : CI} (h : compI P (n + 1) cx tg e = some c) (g : Good P F G cx X W u) : PI X tg e (tI F G u W c) := by
  simp only [compI] at h
  split at h
  · cases h
  · rename_i f p args pos
    obtain ⟨_, h⟩ := ifB_some.mp h
    by_cases e1 : f = "range"
    · subst e1
      rw [if_pos rfl] at h
      obtain ⟨hg, h⟩ := ifB_some.mp h
      match args, h with
      | [a], h =>
        obtain ⟨hs, h⟩ := ifB_some.mp h
        obtain ⟨a', ha, rfl⟩ := Option.map_eq_some_iff.mp h
        exact sI_rng1 g hg (ih.e ha g) (not_star hs)
      | [a, b], h =>
        obtain ⟨hs, h⟩ := ifB_some.mp h
        simp only [Bool.and_eq_true] at hs
        obtain ⟨a', ha, h⟩ := Option.bind_eq_some_iff.mp h
        obtain ⟨b', hb, rfl⟩ := Option.map_eq_some_iff.mp h
        exact sI_rng2 g hg (ih.e ha g) (ih.e hb g) (not_star hs.1) (not_star hs.2)
      | [], h => cases h
      | _ :: _ :: _ :: _, h => cases h
    rw [if_neg e1] at h
    by_cases e2 : f = "enumerate"
    · subst e2
      rw [if_pos rfl] at h
      obtain ⟨hg, h9⟩ := ifB_some.mp h
      clear h
      simp only [Bool.and_eq_true] at hg
      obtain ⟨elts, k, p', rfl⟩ := tup_of hg.2
      match args, h9 with
      | [a], h =>
        obtain ⟨hs, h⟩ := ifB_some.mp h
        obtain ⟨a', ha, rfl⟩ := Option.map_eq_some_iff.mp h
        exact sI_enm g hg.1 (ih.e ha g) (not_star hs)
      | [], h => cases h
      | _ :: _ :: _, h => cases h
    rw [if_neg e2] at h
    by_cases e3 : f = "zip"
    · subst e3
      rw [if_pos rfl] at h
      obtain ⟨hg, h9⟩ := ifB_some.mp h
      clear h
      simp only [Bool.and_eq_true] at hg
      obtain ⟨elts, k, p', rfl⟩ := tup_of hg.2
      match args, h9 with
      | [a, b], h =>
        obtain ⟨hs, h⟩ := ifB_some.mp h
        simp only [Bool.and_eq_true] at hs
        obtain ⟨a', ha, h⟩ := Option.bind_eq_some_iff.mp h
        obtain ⟨b', hb, rfl⟩ := Option.map_eq_some_iff.mp h
        exact sI_zip g hg.1 (ih.e ha g) (ih.e hb g) (not_star hs.1) (not_star hs.2)
      | [], h => cases h
      | [_], h => cases h
      | _ :: _ :: _ :: _, h => cases h
    rw [if_neg e3] at h
    obtain ⟨a', ha, rfl⟩ := Option.map_eq_some_iff.mp h
    exact sI_val g (ih.e ha g)
  · split at h
    · cases h
    · obtain ⟨a', ha, rfl⟩ := Option.map_eq_some_iff.mp h
      exact sI_val g (ih.e ha g)
  · obtain ⟨a', ha, rfl⟩ := Option.map_eq_some_iff.mp h
    exact sI_val g (ih.e ha g)
end
end Mini
end
section
/-! Targets. -/
namespace Mini
open PySem L2 PySem.Spec PyProof.Rows
theorem assign_plain {e : Expr} {es : List Expr} {env : PySem.Env} (h : isStar e = false) : assignEach (e :: es) env = (false, assign e env) :: assignEach es env := by
  cases e <;> first | rfl | (simp [isStar] at h)
theorem assign_len : ∀ {es : List Expr} {env : PySem.Env}, (assignEach es env).length = es.length
  | [], _ => rfl
  | e :: es, env => by
    cases e <;> (simp only [assignEach, List.length_cons]; rw [assign_len])
theorem assign_nostar : ∀ {es : List Expr} {env : PySem.Env}, es.all (fun e => !isStar e) = true → (assignEach es env).findIdx? (·.1) = none
  | [], _, _ => rfl
  | e :: es, env, h => by
    simp only [List.all_cons, Bool.and_eq_true] at h
    rw [assign_plain (not_star h.1), List.findIdx?_cons]
    simp [assign_nostar h.2]
section
variable {P : PInfo} {F : Fx} {G : Sg} {cx : CTX} {X : Cx} {W : WX} {u : SuiT} {n : Nat} {A A0 A1 : List Addr} {H H0 H1 : Hp} {st s1 : Sto} {env : Env} {σ : L2.St}
theorem Rel.setv {d : D} {v : V} {i : Nat} (r : Rel F u A H env st σ) (p : Rp F A H d v) (hu : ¬ u.is i) : Rel F u A H (env.set i (some d)) st (σ.set i (some v)) := by
  refine ⟨r.rs, ⟨by simp [r.re.1], fun k d' e => ?_⟩, ?_⟩
  · by_cases hk : k = i
    · subst hk
      have hl : k < env.length := by
        rcases Nat.lt_or_ge k env.length with h | h
        · exact h
        · rw [List.getElem?_eq_none (by simpa using h)] at e; cases e
      rw [List.getElem?_set_self hl] at e
      cases e
      exact .inr ⟨v, List.getElem?_set_self (by rw [← r.re.1]; exact hl), p⟩
    · rw [List.getElem?_set_ne (Ne.symm hk)] at e
      rcases r.re.2 k d' e with h | ⟨w, h1, h2⟩
      · exact .inl h
      · exact .inr ⟨w, by rw [List.getElem?_set_ne (Ne.symm hk)]; exact h1, h2⟩
  · have := r.su
    cases u with
    | none => trivial
    | some q =>
      obtain ⟨j, a, cls, dd⟩ := q
      have hj : j ≠ i := hu
      obtain ⟨h1, C, fs, xs, h2, h3⟩ := this
      exact ⟨by rw [List.getElem?_set_ne (Ne.symm hj)]; exact h1, C, fs, xs, by rw [List.getElem?_set_ne (Ne.symm hj)]; exact h2, h3⟩
theorem Off.set (i : Nat) (v : Option V) : Off [i] σ (σ.set i v) := ⟨by simp, fun j hj => by rw [List.getElem?_set_ne]; intro e; exact hj (by simp [e])⟩
theorem Off.refl {sl : List Nat} : Off sl σ σ := ⟨rfl, fun _ _ => rfl⟩
theorem Off.trans {sl sl' : List Nat} {σ' σ'' : L2.St} (a : Off sl σ σ') (b : Off sl' σ' σ'') : Off (sl ++ sl') σ σ'' :=
  ⟨b.1.trans a.1, fun j hj => (b.2 j fun h => hj (List.mem_append_right _ h)).trans (a.2 j fun h => hj (List.mem_append_left _ h))⟩
theorem nameG_rd {i : Nat} {v : V} {σ : L2.St} {H : Hp} {Q : L2.St → Hp → Prop} (g : Good P F G cx X W u) (hs : (match cx.sui with | some (_, j) => i != j | none => true) = true) (h : tG F G u (.name i) v σ H Q) : gName i v σ H Q := by
  obtain ⟨A, env, st, d, rel, p, h⟩ := h
  unfold wpG at h
  obtain ⟨hl, qq⟩ := h
  have hu : ¬ u.is i := by
    have := g.sui
    cases u with
    | none => exact fun z => z
    | some q =>
      obtain ⟨j, a, cls, dd⟩ := q
      cases hc : cx.sui with
      | none => rw [hc] at this; exact this.elim
      | some q2 =>
        obtain ⟨y, k⟩ := q2
        rw [hc] at this hs
        obtain ⟨e, _⟩ := this
        intro z
        have z' : j = i := z
        simp only [bne_iff_ne, ne_eq] at hs
        exact hs (by rw [e]; exact z'.symm)
  unfold slotsG at qq
  exact qq A H _ .refl (rel.setv p hu) (Off.set i _)
theorem sG_name {x : Str} {pos : Pos} {i : Nat} (g : Good P F G cx X W u) (h : cx.tgt x = some i) (hs : (match cx.sui with | some (_, j) => i != j | none => true) = true) : PG X (.Name x pos) (tG F G u (.name i)) := by
  obtain ⟨h1, h2, h3⟩ := g.tgt h
  exact pgImp (pg_name g.nd h1 h2 h3) fun v σ H Q h => nameG_rd g hs h
theorem compGs_plain : ∀ {es : List Expr} {n : Nat} {gs : CGs}, compGs P n cx es = some gs → es.all (fun e => !isStar e) = true ∧ lenGs gs = es.length
  | [], 0, _, h => by simp [compGs] at h
  | [], n + 1, _, h => by simp only [compGs, Option.some.injEq] at h; subst h; exact ⟨rfl, rfl⟩
  | e :: es, 0, _, h => by simp [compGs] at h
  | e :: es, n + 1, gs, h => by
    simp only [compGs] at h
    obtain ⟨hs, h⟩ := ifB_some.mp h
    obtain ⟨g', hg, h⟩ := Option.bind_eq_some_iff.mp h
    obtain ⟨gs', hgs, rfl⟩ := Option.map_eq_some_iff.mp h
    obtain ⟨h1, h2⟩ := compGs_plain hgs
    exact ⟨by simp only [List.all_cons, Bool.and_eq_true]; exact ⟨hs, h1⟩, by simp [lenGs, h2]⟩
theorem sG_tup {es : List Expr} {k : Nat} {pos : Pos} {gs : CGs} (g : Good P F G cx X W u) (hc : cx.calm = true) (hgs : compGs P n cx es = some gs) (h : PGs X es (tGs F G u gs)) : PG X (.Tuple es k pos) (tG F G u (.tup gs)) := by
  obtain ⟨hpl, hlen⟩ := compGs_plain hgs
  refine pgImp (pgOr (pg_tup (n := es.length) (g.calm hc) h assign_len (assign_nostar hpl)) (pg_unl (n := es.length) (g.calm hc) h assign_len (assign_nostar hpl))) fun v σ H Q ⟨A, env, st, d, rel, p, h⟩ => ?_
  unfold wpG at h
  obtain ⟨xs, e, hl, q⟩ := h
  obtain ⟨a, vs, rfl, hs, rs⟩ := asS_rp rel.rs p e
  have hl' : vs.length = es.length := by rw [← rs.length, hl, hlen]
  have hr : tGs F G u gs vs σ H Q := ⟨A, env, st, xs, rel, rs, by unfold slotsG at q; exact q⟩
  rcases hs with hs | hs
  · exact .inl ⟨a, vs, rfl, by rw [g.K]; exact hs, hl', hr⟩
  · exact .inr ⟨a, vs, rfl, SqL.of hs, hl', hr⟩
/-- several targets -/
theorem sGs (ih : SndAt P F G n) {es : List Expr} {gs : CGs} (h : compGs P (n + 1) cx es = some gs) (g : Good P F G cx X W u) : PGs X es (tGs F G u gs) := by
  cases es with
  | nil =>
    simp only [compGs, Option.some.injEq] at h
    subst h
    refine pgsImp pgs_nil fun vs σ H Q ⟨A, env, st, ds, rel, p, h⟩ => ?_
    unfold wpGs at h
    obtain ⟨e, q⟩ := h
    subst e
    cases p
    exact ⟨rfl, q A H σ .refl rel .refl⟩
  | cons e es =>
    simp only [compGs] at h
    obtain ⟨hs, h⟩ := ifB_some.mp h
    obtain ⟨g', hg, h⟩ := Option.bind_eq_some_iff.mp h
    obtain ⟨gs', hgs, rfl⟩ := Option.map_eq_some_iff.mp h
    refine pgsImp (pgs_cons (ih.g hg g) (ih.gs hgs g) (by rw [assign_plain (not_star hs)]; rfl)) fun vs σ H Q ⟨A, env, st, ds, rel, p, h⟩ => ?_
    unfold wpGs at h
    obtain ⟨y, r, e, q⟩ := h
    subst e
    cases p with
    | cons py pr =>
      rename_i v vr
      refine ⟨_, _, rfl, A, env, st, y, rel, py, wpG_mono _ _ _ _ (fun env2 s2 q A2 H2 σ2 t2 rel2 o2 => ?_) (fun _ _ _ _ z => z) q⟩
      refine ⟨A2, env2, s2, r, rel2, pr.stp t2, wpGs_mono _ _ _ _ (fun env3 s3 q A3 H3 σ3 t3 rel3 o3 => ?_) (fun _ _ _ _ z => z) q⟩
      unfold slotsGs at q
      exact q A3 H3 σ3 (t2.trans rel2.rs t3) rel3 (o2.trans o3)

/-! ### fields and items -/
def gFldV (K : PySem.W.Frag) (to : TE) (f : Str) : TG := fun v σ H Q => to σ H fun x H1 => ∃ a C dx fs, x = .ref a ∧ H1 a = some (.ins C dx fs) ∧ Cls K C ∧ NoAttr K C f ∧ fs.length < 1000 ∧ Q σ (upd H1 a (.ins C dx (L2.putF f v fs)))
theorem pg_fldV {o : Expr} {f : Str} {to : TE} {pos : Pos} (ho : PE X o to) : PG X (.Attribute o f pos) (gFldV X.K to f) := by
  refine ⟨fun pins s σ H v u Q I r h => ?_⟩
  show wpAny _ _ (holding [u] (eval o X.env) >>= _) _ _ _
  refine wpAny_bind (wpAny_holding (thn (ho.run pins s σ H _ I h) fun ov s1 ⟨x, H1, I1, r1, a, C, dx, fs, ex, ea, c, n, l, q⟩ => ?_))
  subst ex
  obtain rfl : ov = Value.ref a := r1
  refine wpAny_bind (wpAny_standAt (wpAny_bind (wpAny_holding ?_)))
  exact setattr_ok I1 ea c n l r fun s3 I3 => wpAny_release ⟨σ, _, I3, q⟩
theorem putF_rp {f : Str} {d : D} {v : V} (p : Rp F A H d v) : ∀ {fvs : List (Str × V)} {xs : List D}, Rps F A H xs (fvs.map (·.2)) →
    (L2.putF f v fvs).map (·.1) = (putF (fvs.map (·.1)) xs f d).1 ∧ Rps F A H (putF (fvs.map (·.1)) xs f d).2 ((L2.putF f v fvs).map (·.2))
  | [], _, .nil => ⟨rfl, .cons p .nil⟩
  | (g, w) :: r, x :: xs, .cons q t => by
    simp only [List.map_cons, putF, L2.putF]
    by_cases e : g = f
    · subst e
      simp only [if_true, List.map_cons]
      exact ⟨trivial, .cons p t⟩
    · obtain ⟨h1, h2⟩ := putF_rp p t
      simp only [e, if_false, List.map_cons]
      exact ⟨by rw [h1], .cons q h2⟩
theorem sG_fld {o : Expr} {o' : CE} {f : Str} {pos : Pos} (g : Good P F G cx X W u) (hf : P.flds.contains f = true) (ho : PE X o (tE F G u W o')) : PG X (.Attribute o f pos) (tG F G u (.fld o' f)) := by
  refine pgImp (pg_fldV ho) fun v σ H Q ⟨A, env, st, d, rel, p, h⟩ => ?_
  unfold wpG at h
  refine tE_one rel h (fun _ _ _ _ z => z.elim) fun x s1 A1 H1 xv t r px ⟨k, C, fs, xs, e, hk, hl, q⟩ => ?_
  subst e
  obtain ⟨a, rfl⟩ : ∃ a, xv = .ref a := by cases px; exact ⟨_, rfl⟩
  obtain ⟨ha, ob⟩ := st_ob r px hk
  cases ob with
  | ins c e1 e2 rs =>
    rename_i dx fvs
    obtain ⟨_, c1, _, _⟩ := g.facts.cls C c
    have na : NoAttr F.K (F.cad C) f := g.facts.noat C f c (by simpa using hf)
    have ts : ∀ {o : HO}, Stp A1 H1 A1 (upd H1 a o) := Stp.set ha
    obtain ⟨z1, z2⟩ := putF_rp (f := f) (p.stp t) rs
    subst e2
    refine ⟨a, F.cad C, dx, fvs, rfl, e1, by rw [g.K]; exact c1, by rw [g.K]; exact na, by rw [List.length_map] at hl; omega, ?_⟩
    have rs' : RelSt F A1 (upd H1 a (.ins (F.cad C) dx (L2.putF f v fvs))) (s1.set k (.ins C (putF (fvs.map (·.1)) xs f d).1 (putF (fvs.map (·.1)) xs f d).2)) :=
      r.set ha (.ins c upd_same z1.symm (z2.stp ts))
    exact q A1 _ σ (t.trans r ts) ((rel.stp t r).stp ts rs') (by unfold slotsG; exact .refl)
def rSetS : V → V → V → Hp → (Hp → Prop) → Prop := fun o i v H Q => rSetL o i v H Q ∨ ∃ a H', o = .ref a ∧ DPut H a i v H' ∧ Q H'
theorem set_seq (hu : X.A.units + 1 < cLine) : PSet X rSetS := by
  intro pins s σ H o i v ov iv w Q I ro ri rv h
  rcases h with h | ⟨a, H', rfl, g, q⟩
  · exact set_list pins s σ H o i v ov iv w Q I ro ri rv h
  · obtain rfl : ov = Value.ref a := ro
    exact d_setItem hu I g ri rv fun s' I' => ⟨H', I', q⟩
theorem putK_rp {k : Key} {d : D} {v : V} (p : Rp F A H d v) {kvs : List (Key × V)} {xs : List D} (r : Rps F A H xs (kvs.map (·.2))) :
    (putK kvs k v).map (fun q => dKey q.1) = (putD (kvs.map fun q => dKey q.1) xs (dKey k) d).1 ∧ Rps F A H (putD (kvs.map fun q => dKey q.1) xs (dKey k) d).2 ((putK kvs k v).map (·.2)) := by
  have hany : ((kvs.map fun q => dKey q.1).any fun j => keyB j (dKey k)) = kvs.any fun kv => decide (kv.1 = k) := by
    rw [List.any_map]
    congr 1
    funext q
    exact keyB_d q.1 k
  unfold putK putD
  rw [hany]
  by_cases hc : (kvs.any fun kv => decide (kv.1 = k)) = true
  · rw [if_pos hc, if_pos hc]
    refine ⟨?_, ?_⟩
    · rw [List.map_map]
      congr 1
      funext q
      by_cases e : q.1 = k <;> simp [e]
    · clear hc hany
      induction kvs generalizing xs with
      | nil => cases r; exact .nil
      | cons q t ih =>
        cases r with
        | cons pq tq =>
          simp only [List.map_cons, List.zipWith_cons_cons, keyB_d, decide_eq_true_eq]
          by_cases e : q.1 = k
          · simp only [e, if_true]; exact .cons p (ih tq)
          · simp only [e, if_false]; exact .cons pq (ih tq)
  · rw [if_neg hc, if_neg hc]
    exact ⟨by simp, by rw [List.map_append]; exact r.append (.cons p .nil)⟩
theorem sG_sub {o i : Expr} {o' i' : CE} {pos : Pos} (g : Good P F G cx X W u) (hp : plainIx i = true) (ho : PE X o (tE F G u W o')) (hi : PE X i (tE F G u W i')) : PG X (.Subscript o i pos) (tG F G u (.sub o' i')) := by
  refine pgImp (pg_sub ho hi (set_seq (by have := g.units; omega)) (by intro v; cases i <;> first | rfl | (simp [plainIx] at hp))) fun v σ H Q ⟨A, env, st, d, rel, p, h⟩ => ?_
  unfold wpG at h
  refine tE_two rel h (fun _ _ _ _ z => z.elim) fun x y s1 A1 H1 xv yv t r px py q => ?_
  unfold setI at q
  split at q
  · rename_i k
    obtain ⟨a, rfl⟩ : ∃ a, xv = .ref a := by cases px; exact ⟨_, rfl⟩
    have ts : ∀ {k : Nat} {o : HO}, A1[k]? = some a → Stp A1 H1 A1 (upd H1 a o) := fun ha => Stp.set ha
    split at q
    · rename_i xs j hk
      obtain ⟨m, hm, q⟩ := q
      obtain ⟨ha, ob⟩ := st_ob r px hk
      cases py
      cases ob with
      | lst e1 rs =>
        rename_i vs
        refine .inl ⟨a, vs, _, m, rfl, rfl, e1, by rw [← rs.length]; exact hm, ?_⟩
        have rs' : RelSt F A1 (upd H1 a (.lst (vs.set m v))) (s1.set k (.lst (xs.set m d))) := r.set ha (.lst upd_same ((rs.set (p.stp t) m).stp (ts ha)))
        exact q A1 _ σ (t.trans r (ts ha)) ((rel.stp t r).stp (ts ha) rs') (by unfold slotsG; exact .refl)
    · rename_i ks xs hk
      obtain ⟨hkk, hl, q⟩ := q
      obtain ⟨ha, ob⟩ := st_ob r px hk
      simp only [keyOk, Bool.and_eq_true] at hkk
      obtain ⟨j, rfl⟩ := leaf_key hkk.1
      cases rp_key py
      obtain ⟨kvs, e1, e2, rs⟩ := ob_dct hkk.2 ob
      subst e2
      obtain ⟨z1, z2⟩ := putK_rp (k := j) (p.stp t) rs
      refine .inr ⟨a, _, rfl, DPut.k e1 (by rw [List.length_map] at hl; exact hl), ?_⟩
      have rs' : RelSt F A1 (upd H1 a (.dK (putK kvs j v))) (s1.set k (.dct (putD (kvs.map fun q => dKey q.1) xs (dKey j) d).1 (putD (kvs.map fun q => dKey q.1) xs (dKey j) d).2)) := r.set ha (.dctK upd_same z1.symm (z2.stp (ts ha)))
      exact q A1 _ σ (t.trans r (ts ha)) ((rel.stp t r).stp (ts ha) rs') (by unfold slotsG; exact .refl)
    · exact q.elim
  · exact q.elim
theorem sG (ih : SndAt P F G n) {e : Expr} {gt : CG} (h : compG P (n + 1) cx e = some gt) (g : Good P F G cx X W u) : PG X e (tG F G u gt) := by
  simp only [compG] at h
  split at h
  · obtain ⟨i, hi, h⟩ := Option.bind_eq_some_iff.mp h
    obtain ⟨hs, h⟩ := ifB_some.mp h
    cases h
    exact sG_name g hi hs
  · obtain ⟨hc, h⟩ := ifB_some.mp h
    obtain ⟨gs, hgs, rfl⟩ := Option.map_eq_some_iff.mp h
    exact sG_tup g hc hgs (ih.gs hgs g)
  · obtain ⟨hs, h⟩ := ifB_some.mp h
    simp only [Bool.and_eq_true] at hs
    obtain ⟨a', ha, rfl⟩ := Option.map_eq_some_iff.mp h
    exact sG_fld g hs.2 (ih.e ha g)
  · obtain ⟨hs, h⟩ := ifB_some.mp h
    obtain ⟨a', ha, h⟩ := Option.bind_eq_some_iff.mp h
    obtain ⟨b', hb, rfl⟩ := Option.map_eq_some_iff.mp h
    exact sG_sub g hs (ih.e ha g) (ih.e hb g)
  · cases h
end
end Mini
end
section
/-! Comprehensions. -/
namespace Mini
open PySem L2 PySem.Spec PyProof.Rows
theorem wipe_ne {σ : L2.St} {i : Nat} : ∀ {vs : List Nat}, i ∉ vs → (wipe σ vs)[i]? = σ[i]?
  | [], _ => rfl
  | v :: vs, h => by
    simp only [List.mem_cons, not_or] at h
    unfold wipe
    rw [List.getElem?_set_ne (Ne.symm h.1), wipe_ne h.2]
theorem wipeE_len (env : Env) : ∀ vs : List Nat, (wipeE env vs).length = env.length
  | [] => rfl
  | v :: vs => by
    show ((wipeE env vs).set v none).length = _
    rw [List.length_set, wipeE_len env vs]
theorem wipeE_some {env : Env} {i : Nat} {d : D} : ∀ {vs : List Nat}, (wipeE env vs)[i]? = some (some d) → env[i]? = some (some d) ∧ i ∉ vs
  | [], h => ⟨h, by simp⟩
  | v :: vs, h => by
    have h : ((wipeE env vs).set v none)[i]? = some (some d) := h
    by_cases hi : v = i
    · subst hi
      by_cases hv : v < (wipeE env vs).length
      · rw [List.getElem?_set_self hv] at h; cases h
      · rw [List.getElem?_eq_none (by simpa using hv)] at h; cases h
    · rw [List.getElem?_set_ne hi] at h
      obtain ⟨h1, h2⟩ := wipeE_some h
      exact ⟨h1, by simp [h2, Ne.symm hi]⟩
/-- what stands off the slots is wiped alike -/
theorem wipe_off {sl vs : List Nat} (hs : ∀ i ∈ sl, i ∈ vs) {σ σ' : L2.St} (o : Off sl (wipe σ vs) σ') : wipe σ' vs = wipe σ vs := by
  apply List.ext_getElem?
  intro i
  by_cases hi : i ∈ vs
  · have key : ∀ (τ : L2.St) (vs : List Nat), i ∈ vs → (wipe τ vs)[i]? = if i < τ.length then some none else none := by
      intro τ vs
      induction vs with
      | nil => intro h; cases h
      | cons v vs ih =>
        intro h
        unfold wipe
        by_cases hv : v = i
        · subst hv
          by_cases hl : v < τ.length
          · rw [List.getElem?_set_self (by rw [wipe_length]; exact hl), if_pos hl]
          · rw [List.getElem?_eq_none (by rw [List.length_set, wipe_length]; omega), if_neg hl]
        · rw [List.getElem?_set_ne hv]
          rcases List.mem_cons.mp h with e | h
          · exact absurd e.symm hv
          · exact ih h
    rw [key _ _ hi, key _ _ hi, o.1, wipe_length]
  · rw [wipe_ne hi, o.2 i (fun h => hi (hs i h))]
section
variable {P : PInfo} {F : Fx} {G : Sg} {cx : CTX} {X : Cx} {W : WX} {u : SuiT} {n : Nat} {A A0 A1 : List Addr} {H H0 H1 : Hp} {st s1 : Sto} {env : Env} {σ : L2.St}
theorem EnvR.wipe (r : EnvR F none A H env σ) (vs : List Nat) : EnvR F none A H (wipeE env vs) (wipe σ vs) := by
  refine ⟨by rw [wipeE_len, wipe_length, r.1], fun i d e => ?_⟩
  obtain ⟨h1, h2⟩ := wipeE_some e
  rcases r.2 i d h1 with h | ⟨v, hv, p⟩
  · exact h.elim
  · exact .inr ⟨v, by rw [wipe_ne h2]; exact hv, p⟩
theorem EnvR.mp {ps : List Addr} (r : EnvR F none A1 H1 env σ) (hp : ∀ b ∈ ps, b ∈ F.priv ∨ H1 b = none) (t : Stp A1 H1 A H) : EnvR (F.pv ps) none A H env σ :=
  ⟨r.1, fun i d e => (r.2 i d e).elim (fun z => z.elim) fun ⟨v, hv, p⟩ => .inr ⟨v, hv, p.mp (mp_of hp t)⟩⟩
theorem Good.nosui (g : Good P F G cx X W u) (hc : cx.calm = true) : u = none ∧ cx.sui = none := by
  have := g.sui
  cases h : cx.sui with
  | none =>
    rw [h] at this
    cases u with
    | none => exact ⟨rfl, rfl⟩
    | some q => exact this.elim
  | some q =>
    rw [h] at this
    cases u with
    | none => exact this.elim
    | some q2 =>
      obtain ⟨x, i⟩ := q
      obtain ⟨j, a, cls, dd⟩ := q2
      rw [this.2.2.1] at hc; cases hc
theorem Good.blk (g : Good P F G cx X W u) (hc : cx.calm = true) (ps : List Addr) (scope : Scope) (s : Shared) (H : Hp) (C : Addr) (cl : List (Str × Addr)) (fp : List Addr) :
    Good P (F.pv ps) G (cx.inner scope) (X.blk s H scope (compEnvC scope cl C X.env) fp) (fun _ _ _ _ => False) none where
  pr := g.pr
  w := g.w
  K := g.K
  N := g.N
  nd := g.nd
  sc := by
    show blkScope scope X.env.scope = blkScope scope cx.sc
    rw [g.sc]
  calm := g.calm
  fnd := fun h => nomatch h
  fnb := fun _ x h => by
    have h : scope.names.lookup x = some .cell := h
    show (scope.names.lookup x == some .cell) = true
    rw [h]; rfl
  room := g.room
  units := g.units
  tk := fun u s' ⟨_, _, _, _, _, _, _, _, _, _, _, _, _, _, _, _, w⟩ => w.elim
  po := fun h => nomatch h
  facts := g.facts.pv ps
  stk := fun h => nomatch h
  sui := by
    show (match cx.sui, (none : SuiT) with
      | none, none => True
      | some (x, i), some (j, a, cls, dd) => _
      | _, _ => False)
    rw [(g.nosui hc).2]
    trivial
theorem blkOk_of {N : List Str} {sc scope : Scope} {own : List (Str × Nat)} (h : blkB N sc scope own = true) : BlkOk N sc scope own := blkOk_by h
/-- the thing that is made is written -/
theorem Stp.pset {p : Addr} {o : HO} (t : Stp A1 H1 A H) (hp : H1 p = none) : Stp A1 H1 A (upd H p o) :=
  ⟨t.ext, fun b u hb h => by
    rw [upd_ne]; exact t.keep b u hb h
    rintro rfl
    rw [hp] at h; cases h⟩
theorem none_back {st : Sto} (r : RelSt F A1 H1 st) (t : Stp A0 H0 A1 H1) {p : Addr} (hp : H1 p = none) : H0 p = none := by
  cases e : H0 p with
  | none => rfl
  | some o =>
    exfalso
    by_cases hA : p ∈ A0
    · obtain ⟨B, eB, _⟩ := t.ext
      obtain ⟨o', h⟩ := r.there (b := p) (by rw [eB]; exact List.mem_append_left _ hA)
      rw [hp] at h; cases h
    · rw [t.keep p o hA e] at hp; cases hp
/-- the made list, as a value -/
theorem lc_done {m : Bool} {D : Addr} {acc : List Mini.D} {accV : List V} {Q : VK} (r1 : RelSt F A1 H1 s1) (hD : H1 D = none) (t0 : Stp A0 H0 A1 H1) (t : Stp A1 H1 A H) (r : RelSt (F.pv (D :: F.priv)) A H st) (e : H D = some (.lst accV)) (ra : Rps (F.pv (D :: F.priv)) A H acc accV)
    (h : retM m (.lst acc) st (QLink F A0 H0 Q)) : Q (.ref D) H := by
  have oD : Out F A1 D := r1.out hD
  have nD : D ∉ A := (r.2.1.2 D List.mem_cons_self).1
  cases m with
  | false =>
    have h' : QLink F A0 H0 Q (.lst acc) st := h
    exact h' A H _ (t0.trans r1 t) r.unpriv (.lst (.lst e ra.unpriv) ⟨nD, oD.2⟩)
  | true =>
    have h' : QLink F A0 H0 Q (.ref st.length) (st ++ [.lst acc]) := h
    have m2 : Mp (F.pv (D :: F.priv)) F.priv A H (A ++ [D]) H := ⟨fun n a h => by rw [List.getElem?_append_left (List.getElem?_eq_some_iff.mp h).1]; exact h, fun b o hb h => ⟨⟨fun hm => by
      rcases List.mem_append.mp hm with hm | hm
      · exact hb.1 hm
      · rw [List.mem_singleton.mp hm] at hb; exact hb.2 List.mem_cons_self, fun hm => hb.2 (List.mem_cons_of_mem _ hm)⟩, h⟩⟩
    have rr : RelSt F (A ++ [D]) H (st ++ [.lst acc]) := by
      refine ⟨by simp [r.1], ⟨?_, fun b hb => ?_⟩, fun n so en => ?_⟩
      · refine List.nodup_append.mpr ⟨r.2.1.1, by simp, fun a ha b hb => ?_⟩
        rw [List.mem_singleton.mp hb]
        rintro rfl
        exact nD ha
      · obtain ⟨h1, o, h2⟩ := r.2.1.2 b (List.mem_cons_of_mem _ hb)
        refine ⟨fun hm => ?_, o, h2⟩
        rcases List.mem_append.mp hm with hm | hm
        · exact h1 hm
        · rw [List.mem_singleton.mp hm] at hb; exact oD.2 hb
      · by_cases hn : n < st.length
        · rw [List.getElem?_append_left hn] at en
          obtain ⟨a, ha, ob⟩ := r.2.2 n so en
          exact ⟨a, m2.at_ _ _ ha, ob.mp' m2 rfl⟩
        · have hn' : n = st.length := by
            have := (List.getElem?_eq_some_iff.mp en).1
            simp at this; omega
          subst hn'
          simp at en; subst en
          exact ⟨D, by rw [← r.1]; simp, .lst e (ra.mp m2)⟩
    have tt : Stp A1 H1 (A ++ [D]) H := by
      obtain ⟨B, eB, hB⟩ := t.ext
      refine ⟨⟨B ++ [D], by rw [eB, List.append_assoc], fun b hb => ?_⟩, t.keep⟩
      rcases List.mem_append.mp hb with hb | hb
      · exact hB b hb
      · rw [List.mem_singleton.mp hb]; exact hD
    exact h' (A ++ [D]) H _ (t0.trans r1 tt) rr (.ref (by rw [← r.1]; simp))
theorem loopA_at {dep : Sto → Prop} {body : Mini.D → List Mini.D → Sto → (List Mini.D → Sto → Prop) → Prop} {xs : List Mini.D} {i : Nat} {acc : List Mini.D} {st : Sto} {Q : List Mini.D → Sto → Prop} (h : loopA dep body (xs.drop i) acc st Q) :
    dep st ∧ ((xs.length ≤ i ∧ Q acc st) ∨ ∃ x, xs[i]? = some x ∧ body x acc st fun acc' st' => loopA dep body (xs.drop (i + 1)) acc' st' Q) := by
  by_cases hi : i < xs.length
  · rw [List.drop_eq_getElem_cons hi] at h
    exact ⟨h.1, .inr ⟨xs[i], List.getElem?_eq_getElem hi, h.2⟩⟩
  · rw [List.drop_eq_nil_of_le (by omega)] at h
    exact ⟨h.1, .inl ⟨by omega, h.2⟩⟩
theorem yes_pts {ps : List Addr} : PTs X [] (tT (F.pv ps) G none (fun _ _ _ _ => False) (.cst (.bl true))) := ⟨fun pins s σ H Q I ⟨A, env, st, rel, h⟩ => by
  unfold wpE at h
  obtain ⟨b, e, q⟩ := h
  cases e
  exact pts_nil.run pins s σ H Q I (q A H .refl rel.rs)⟩
/-- one clause -/
theorem lc_fin {m : Bool} {own : List Nat} {tg : CG} {it : CI} {tt el : CE} {σ : L2.St} {H : Hp} {Q : VK} (hu : u = none) (hsl : ∀ i ∈ slotsG tg, i ∈ own) (h : tE F G u W (.comp m own tg it tt el) σ H Q) :
    ∃ R : It → Hp → Prop, tI F G u W it σ H R ∧ ∀ J H1, R J H1 → ∀ D, H1 D = none → ∃ Wv : Nat → Nat → Hp → Prop, (∃ m, Wv 0 m (upd H1 D (.lst []))) ∧ ∀ i m H, Wv i m H →
      (J.stop i H ∧ Q (.ref D) H) ∨ (J.go i H ∧ ∃ Nx : Hp → Prop, (∀ H', Nx H' → ∃ m', m' < m ∧ Wv (i + 1) m' H') ∧ ∀ x H', J.yld i H x H' →
        tG (F.pv (D :: F.priv)) G none tg x (wipe σ own) H' fun σ2 H2 => wipe σ2 own = wipe σ own ∧ tT (F.pv (D :: F.priv)) G none (fun _ _ _ _ => False) tt σ2 H2 fun b H3 =>
          if b = true then tE (F.pv (D :: F.priv)) G none (fun _ _ _ _ => False) el σ2 H3 fun y H4 => ∃ acc, H4 D = some (.lst acc) ∧ acc.length < sizeLine ∧ Nx (upd H4 D (.lst (acc ++ [y]))) else Nx H3) := by
  subst hu
  obtain ⟨A, env, st, rel, h⟩ := h
  unfold wpE at h
  refine ⟨fun J H1 => ∃ A1 s1 xs dep, Stp A H A1 H1 ∧ RelSt F A1 H1 s1 ∧ ItOk F J xs dep A1 H1 ∧ loopA dep (fun x acc s k => wpG G tg x (wipeE env own) s (fun e2 s2 => wpE G tt e2 s2 (fun b s3 => ∃ c, b = .bl c ∧
          if c then wpE G el e2 s3 (fun y s4 => acc.length < line ∧ k (acc ++ [y]) s4) noX else k acc s3) noX) noX)
        xs [] s1 (fun ys s => retM m (.lst ys) s (QLink F A H Q)), ⟨A, env, st, rel, wpI_mono _ _ _ (fun xs dep s q A' H' J t r ok => ⟨A', s, xs, dep, t, r, ok, q⟩) (fun _ _ _ _ z => z) h⟩, ?_⟩
  rintro J H1 ⟨A1, s1, xs, dep, t1, r1, ok, hl⟩ D hD
  have hps : ∀ b ∈ D :: F.priv, b ∈ F.priv ∨ H1 b = none := fun b hb => by
    rcases List.mem_cons.mp hb with e | hb
    · subst e; exact .inr hD
    · exact .inl hb
  refine ⟨fun i m' H2 => m' = xs.length - i ∧ i ≤ xs.length ∧ ∃ A2 s2 acc accV, Stp A1 H1 A2 H2 ∧ RelSt (F.pv (D :: F.priv)) A2 H2 s2 ∧ H2 D = some (.lst accV) ∧ Rps (F.pv (D :: F.priv)) A2 H2 acc accV ∧
    loopA dep (fun x acc s k => wpG G tg x (wipeE env own) s (fun e2 s2 => wpE G tt e2 s2 (fun b s3 => ∃ c, b = .bl c ∧
          if c then wpE G el e2 s3 (fun y s4 => acc.length < line ∧ k (acc ++ [y]) s4) noX else k acc s3) noX) noX) (xs.drop i) acc s2 (fun ys s => retM m (.lst ys) s (QLink F A H Q)), ⟨_, rfl, Nat.zero_le _, A1, s1, [], [], Stp.refl.pset hD, r1.priv hD, upd_same, .nil, hl⟩, ?_⟩
  rintro i m' H2 ⟨hm, hi, A2, s2, acc, accV, t2, r2, e2, ra, hl2⟩
  obtain ⟨hdep, hl2⟩ := loopA_at hl2
  rcases hl2 with ⟨hge, q⟩ | ⟨x, hx, hb⟩
  · have : i = xs.length := by omega
    exact .inl ⟨ok.stop _ i A2 H2 s2 hps t2.toq r2 hdep this, lc_done r1 hD t1 t2 r2 e2 ra q⟩
  · have hlt : i < xs.length := (List.getElem?_eq_some_iff.mp hx).1
    refine .inr ⟨ok.go _ i A2 H2 s2 hps t2.toq r2 hdep hlt, _, fun H' hN => hN, fun v H3 hy => ?_⟩
    obtain ⟨d, hd, t3, r3, p3⟩ := ok.yld _ i A2 H2 s2 v H3 hps t2.toq r2 hdep hlt hy
    rw [hx] at hd; cases hd
    have t13 := t2.trans (F := F.pv (D :: F.priv)) r2 t3
    have re : EnvR (F.pv (D :: F.priv)) none A2 H2 env σ := (rel.re.stp t1).mp hps t2
    have rel3 : Rel (F.pv (D :: F.priv)) none A2 H3 (wipeE env own) s2 (wipe σ own) := ⟨r3, (re.stp t3).wipe own, trivial⟩
    have nD : D ∉ A2 := (r2.2.1.2 D List.mem_cons_self).1
    have hDp : D ∈ (F.pv (D :: F.priv)).priv := List.mem_cons_self
    refine ⟨A2, wipeE env own, s2, x, rel3, p3, wpG_mono tg x _ _ (fun e4 s4 q4 A4 H4 σ4 t4 rel4 o4 => ⟨wipe_off hsl o4, A4, e4, s4, rel4, wpE_mono tt e4 s4 (fun b s5 ⟨c, eb, qc⟩ => ⟨c, eb, fun A5 H5 t5 r5 => ?_⟩) (fun _ _ _ _ z => z.elim) q4⟩) (fun _ _ _ _ z => z) hb⟩
    have T5 : Stp A2 H2 A5 H5 := (t3.trans r3 t4).trans rel4.rs t5
    cases c with
    | false =>
      have e5 := (T5.out nD e2).2
      exact ⟨xs.length - (i + 1), by omega, rfl, by omega, A5, s5, acc, accV, t2.trans r2 T5, r5, e5, ra.stp T5, qc⟩
    | true =>
      refine ⟨A5, e4, s5, rel4.stp t5 r5, wpE_mono el e4 s5 (fun y s6 ⟨hl6, q6⟩ A6 H6 v6 t6 r6 p6 => ?_) (fun _ _ _ _ z => z.elim) qc⟩
      have T6 : Stp A2 H2 A6 H6 := T5.trans r5 t6
      have e6 := (T6.out nD e2).2
      refine ⟨accV, e6, by rw [← ra.length]; exact hl6, xs.length - (i + 1), by omega, rfl, by omega, A6, s6, acc ++ [y], accV ++ [v6], (t2.trans r2 T6).pset hD, r6.pupd hDp, upd_same, ?_, q6⟩
      exact ((ra.stp T6).append (.cons p6 .nil)).mv (Mv.pupd hDp)
theorem pgEx {X : Cx} {e : Expr} {t : List Addr → TG} (h : ∀ ps, PG X e (t ps)) : PG X e (fun v σ H Q => ∃ ps, t ps v σ H Q) := ⟨fun pins s σ H v u Q I r ⟨ps, q⟩ => (h ps).run pins s σ H v u Q I r q⟩
theorem ptsEx {X : Cx} {e : List Expr} {t : List Addr → TT} (h : ∀ ps, PTs X e (t ps)) : PTs X e (fun σ H Q => ∃ ps, t ps σ H Q) := ⟨fun pins s σ H Q I ⟨ps, q⟩ => (h ps).run pins s σ H Q I q⟩
theorem peEx {X : Cx} {e : Expr} {t : List Addr → TE} (h : ∀ ps, PE X e (t ps)) : PE X e (fun σ H Q => ∃ ps, t ps σ H Q) := ⟨fun pins s σ H Q I ⟨ps, q⟩ => (h ps).run pins s σ H Q I q⟩
theorem piEx {X : Cx} {tg e : Expr} {t : List Addr → TI} (h : ∀ ps, PI X tg e (t ps)) : PI X tg e (fun σ H Q => ∃ ps, t ps σ H Q) := ⟨fun pins s σ H Q I ⟨ps, q⟩ => (h ps).run pins s σ H Q I q⟩
theorem tI_mono {it : CI} {σ : L2.St} {H : Hp} {R R' : It → Hp → Prop} (h : tI F G u W it σ H R) (hr : ∀ J H1, R J H1 → R' J H1) : tI F G u W it σ H R' := by
  obtain ⟨A, env, st, rel, h⟩ := h
  exact ⟨A, env, st, rel, wpI_mono _ _ _ (fun xs dep s q A' H' J t r ok => hr J H' (q A' H' J t r ok)) (fun _ _ _ _ z => z) h⟩
theorem noset {tg it : Expr} {c : CI} {env : PySem.Env} (h : compI P n cx tg it = some c) : ∀ x, foldedSetIterable it env x = pure x := by
  intro x
  cases it <;> first | rfl | (cases n <;> simp [compI] at h)
theorem lc_parts (ih : SndAt P F G n) (ih' : ∀ ps, SndAt P (F.pv ps) G n) {m : Bool} {el tg it : Expr} {ifs : List Expr} {scope : Scope} {it' : CI} {tg' : CG} {t' el' : CE} (g : Good P F G cx X W u) (hc : cx.calm = true)
    (hb : blkB cx.N cx.sc scope (ownOf cx.N scope.names) = true) (hi : compI P n cx tg it = some it') (hg : compG P n (cx.inner scope) tg = some tg')
    (ht : (match ifs with
      | [] => some (CE.cst (.bl true))
      | [t] => compT P n (cx.inner scope) t
      | _ => none) = some t') (he : compE P n (cx.inner scope) false el = some el') (hsl : ((slotsG tg').all fun i => ((ownOf cx.N scope.names).map (·.2)).contains i) = true) :
    ∃ (wi : TI) (gg : TG) (tt : TT) (te : TE), PI X tg it wi ∧ BlkOk X.N X.env.scope scope (ownOf cx.N scope.names) ∧
      (∀ (s : Shared) (H : Hp) (C : Addr) (cl : List (Str × Addr)) (fp : List Addr), PG (X.blk s H scope (compEnvC scope cl C X.env) fp) tg gg) ∧
      (∀ (s : Shared) (H : Hp) (C : Addr) (cl : List (Str × Addr)) (fp : List Addr), PTs (X.blk s H scope (compEnvC scope cl C X.env) fp) ifs tt) ∧
      (∀ (s : Shared) (H : Hp) (C : Addr) (cl : List (Str × Addr)) (fp : List Addr), PE (X.blk s H scope (compEnvC scope cl C X.env) fp) el te) ∧
      ∀ σ H Q, tE F G u W (.comp m ((ownOf cx.N scope.names).map (·.2)) tg' it' t' el') σ H Q → tLc wi gg tt te ((ownOf cx.N scope.names).map (·.2)) σ H Q := by
  have ok : BlkOk X.N X.env.scope scope (ownOf cx.N scope.names) := by rw [g.N, g.sc]; exact blkOk_of hb
  refine ⟨tI F G u W it', fun v σ H Q => ∃ ps, tG (F.pv ps) G none tg' v σ H Q, fun σ H Q => ∃ ps, tT (F.pv ps) G none (fun _ _ _ _ => False) t' σ H Q, fun σ H Q => ∃ ps, tE (F.pv ps) G none (fun _ _ _ _ => False) el' σ H Q,
    ih.i hi g, ok, (fun s H C cl fp => pgEx fun ps => (ih' ps).g hg (g.blk hc ps scope s H C cl fp)), (fun s H C cl fp => ptsEx fun ps => ?_), (fun s H C cl fp => peEx fun ps => (ih' ps).e he (g.blk hc ps scope s H C cl fp)), fun σ H Q q => ?_⟩
  · match ifs, ht with
    | [], ht => cases ht; exact yes_pts
    | [t], ht => exact pts_one ((ih' ps).t ht (g.blk hc ps scope s H C cl fp))
    | _ :: _ :: _, ht => cases ht
  · obtain ⟨R, h1, h2⟩ := lc_fin (g.nosui hc).1 (by
      intro i hi
      have := List.all_eq_true.mp hsl i hi
      simpa using this) q
    refine tI_mono h1 fun J H1 hr D hD => ?_
    obtain ⟨Wv, w0, w1⟩ := h2 J H1 hr D hD
    refine ⟨Wv, w0, fun i m H hw => ?_⟩
    rcases w1 i m H hw with h | ⟨h3, Nx, h4, h5⟩
    · exact .inl h
    · refine .inr ⟨h3, Nx, h4, fun x H' hy => ⟨D :: F.priv, ?_⟩⟩
      obtain ⟨A, env, st, d, rel, p, hh⟩ := h5 x H' hy
      refine ⟨A, env, st, d, rel, p, wpG_mono _ _ _ _ (fun e s q A' H' σ' t r o => ?_) (fun _ _ _ _ z => z) hh⟩
      obtain ⟨q1, q2⟩ := q A' H' σ' t r o
      refine ⟨q1, D :: F.priv, ?_⟩
      obtain ⟨A, env, st, rel, hh⟩ := q2
      refine ⟨A, env, st, rel, wpE_mono _ _ _ (fun d s ⟨b, e, q⟩ => ⟨b, e, fun A' H' t r => ?_⟩) (fun _ _ _ _ z => z) hh⟩
      have q := q A' H' t r
      cases b with
      | true => exact ⟨D :: F.priv, q⟩
      | false => exact q
theorem sE_lc (ih : SndAt P F G n) (ih' : ∀ ps, SndAt P (F.pv ps) G n) {m : Bool} {el tg it : Expr} {ifs : List Expr} {scope : Scope} {pos : Pos} {it' : CI} {tg' : CG} {t' el' : CE} (g : Good P F G cx X W u) (hc : cx.calm = true)
    (hb : blkB cx.N cx.sc scope (ownOf cx.N scope.names) = true) (hi : compI P n cx tg it = some it') (hg : compG P n (cx.inner scope) tg = some tg')
    (ht : (match ifs with
      | [] => some (CE.cst (.bl true))
      | [t] => compT P n (cx.inner scope) t
      | _ => none) = some t') (he : compE P n (cx.inner scope) false el = some el') (hsl : ((slotsG tg').all fun i => ((ownOf cx.N scope.names).map (·.2)).contains i) = true) :
    PE X (.ListComp el [⟨tg, it, ifs, 0⟩] scope pos) (tE F G u W (.comp m ((ownOf cx.N scope.names).map (·.2)) tg' it' t' el')) := by
  obtain ⟨wi, gg, tt, te, h1, h2, h3, h4, h5, h6⟩ := lc_parts ih ih' (m := m) g hc hb hi hg ht he hsl
  exact peImp (pe_lc (g.calm hc) g.nd h1 h2 h3 h4 h5 (noset hi)) h6
end
end Mini
end
section
/-! Comprehensions of dicts. -/
namespace Mini
open PySem L2 PySem.Spec PyProof.Rows
section
variable {P : PInfo} {F : Fx} {G : Sg} {cx : CTX} {X : Cx} {W : WX} {u : SuiT} {n : Nat} {A A0 A1 : List Addr} {H H0 H1 : Hp} {st s1 : Sto} {env : Env} {σ : L2.St}
theorem Mp.push {p : Addr} : Mp (F.pv (p :: F.priv)) F.priv A H (A ++ [p]) H := ⟨fun n a h => by rw [List.getElem?_append_left (List.getElem?_eq_some_iff.mp h).1]; exact h, fun b o hb h => ⟨⟨fun hm => by
      rcases List.mem_append.mp hm with hm | hm
      · exact hb.1 hm
      · rw [List.mem_singleton.mp hm] at hb; exact hb.2 List.mem_cons_self, fun hm => hb.2 (List.mem_cons_of_mem _ hm)⟩, h⟩⟩
theorem made_push {p : Addr} {so : SO} (r1 : RelSt F A1 H1 s1) (hD : H1 p = none) (t : Stp A1 H1 A H) (r : RelSt (F.pv (p :: F.priv)) A H st) (ob : Ob F (A ++ [p]) H so p) :
    RelSt F (A ++ [p]) H (st ++ [so]) ∧ Stp A1 H1 (A ++ [p]) H ∧ (A ++ [p])[st.length]? = some p := by
  have oD : Out F A1 p := r1.out hD
  have nD : p ∉ A := (r.2.1.2 p List.mem_cons_self).1
  refine ⟨⟨by simp [r.1], ⟨?_, fun b hb => ?_⟩, fun n so en => ?_⟩, ?_, by rw [← r.1]; simp⟩
  · refine List.nodup_append.mpr ⟨r.2.1.1, by simp, fun a ha b hb => ?_⟩
    rw [List.mem_singleton.mp hb]
    rintro rfl
    exact nD ha
  · obtain ⟨h1, o, h2⟩ := r.2.1.2 b (List.mem_cons_of_mem _ hb)
    refine ⟨fun hm => ?_, o, h2⟩
    rcases List.mem_append.mp hm with hm | hm
    · exact h1 hm
    · rw [List.mem_singleton.mp hm] at hb; exact oD.2 hb
  · by_cases hn : n < st.length
    · rw [List.getElem?_append_left hn] at en
      obtain ⟨a, ha, ob'⟩ := r.2.2 n so en
      exact ⟨a, (Mp.push (F := F) (H := H)).at_ _ _ ha, ob'.mp' Mp.push rfl⟩
    · have hn' : n = st.length := by
        have := (List.getElem?_eq_some_iff.mp en).1
        simp at this; omega
      subst hn'
      simp at en; subst en
      exact ⟨p, by rw [← r.1]; simp, ob⟩
  · obtain ⟨B, eB, hB⟩ := t.ext
    refine ⟨⟨B ++ [p], by rw [eB, List.append_assoc], fun b hb => ?_⟩, t.keep⟩
    rcases List.mem_append.mp hb with hb | hb
    · exact hB b hb
    · rw [List.mem_singleton.mp hb]; exact hD
theorem dc_done {m : Bool} {D : Addr} {ks xs : List Mini.D} {kvs : List (Key × V)} {Q : VK} (r1 : RelSt F A1 H1 s1) (hD : H1 D = none) (t0 : Stp A0 H0 A1 H1) (t : Stp A1 H1 A H) (r : RelSt (F.pv (D :: F.priv)) A H st) (e : H D = some (.dK kvs))
    (ek : ks = kvs.map fun q => dKey q.1) (ra : Rps (F.pv (D :: F.priv)) A H xs (kvs.map (·.2))) (h : retM m (.dct ks xs) st (QLink F A0 H0 Q)) : Q (.ref D) H := by
  have oD : Out F A1 D := r1.out hD
  have nD : D ∉ A := (r.2.1.2 D List.mem_cons_self).1
  cases m with
  | false =>
    have h' : QLink F A0 H0 Q (.dct ks xs) st := h
    exact h' A H _ (t0.trans r1 t) r.unpriv (.dct (.dctK e ek ra.unpriv) ⟨nD, oD.2⟩)
  | true =>
    have h' : QLink F A0 H0 Q (.ref st.length) (st ++ [.dct ks xs]) := h
    obtain ⟨z1, z2, z3⟩ := made_push r1 hD t r (.dctK e ek (ra.mp Mp.push))
    exact h' (A ++ [D]) H _ (t0.trans r1 z2) z1 (.ref z3)
def PairsD (l : List D) : Prop := ∀ x ∈ l, ∃ a b, x = .tup [a, b]
theorem kv_app : ∀ {l : List D} {a b : D}, PairsD l → keysOf (l ++ [Mini.D.tup [a, b]]) = keysOf l ++ [a] ∧ valsOf (l ++ [Mini.D.tup [a, b]]) = valsOf l ++ [b] ∧ PairsD (l ++ [Mini.D.tup [a, b]])
  | [], a, b, _ => ⟨rfl, rfl, fun x hx => ⟨a, b, by simpa using hx⟩⟩
  | x :: l, a, b, h => by
    obtain ⟨c, d, rfl⟩ := h x List.mem_cons_self
    obtain ⟨h1, h2, h3⟩ := kv_app (a := a) (b := b) fun y hy => h y (List.mem_cons_of_mem _ hy)
    refine ⟨by simp [keysOf, h1], by simp [valsOf, h2], fun y hy => ?_⟩
    rcases List.mem_cons.mp hy with rfl | hy
    · exact ⟨c, d, rfl⟩
    · exact h3 y hy
theorem put_fresh {kvs : List (Key × V)} {k : Key} {v : V} (h : (kvs.map fun q => dKey q.1).all (fun j => !keyB j (dKey k)) = true) : putK kvs k v = kvs ++ [(k, v)] := by
  unfold putK
  rw [if_neg]
  intro hc
  obtain ⟨q, hq, e⟩ := List.any_eq_true.mp hc
  have e' : q.1 = k := by simpa using e
  have := List.all_eq_true.mp h (dKey q.1) (List.mem_map.mpr ⟨q, hq, rfl⟩)
  rw [keyB_d, e'] at this
  simp at this
theorem dc_fin {m : Bool} {own : List Nat} {tg : CG} {it : CI} {ke ve : CE} {σ : L2.St} {H : Hp} {Q : VK} (hu : u = none) (hsl : ∀ i ∈ slotsG tg, i ∈ own) (h : tE F G u W (.dcomp m own tg it ke ve) σ H Q) :
    ∃ R : It → Hp → Prop, tI F G u W it σ H R ∧ ∀ J H1, R J H1 → ∀ D, H1 D = none → ∃ Wv : Nat → Nat → Hp → Prop, (∃ m, Wv 0 m (upd H1 D (.dK []))) ∧ ∀ i m H, Wv i m H →
      (J.stop i H ∧ Q (.ref D) H) ∨ (J.go i H ∧ ∃ Nx : Hp → Prop, (∀ H', Nx H' → ∃ m', m' < m ∧ Wv (i + 1) m' H') ∧ ∀ x H', J.yld i H x H' →
        tG (F.pv (D :: F.priv)) G none tg x (wipe σ own) H' fun σ2 H2 => wipe σ2 own = wipe σ own ∧
          tE (F.pv (D :: F.priv)) G none (fun _ _ _ _ => False) ke σ2 H2 fun y H4 => tE (F.pv (D :: F.priv)) G none (fun _ _ _ _ => False) ve σ2 H4 fun z H5 => ∃ kvs k, y = kV k ∧ H5 D = some (.dK kvs) ∧ kvs.length < sizeLine ∧ Nx (upd H5 D (.dK (putK kvs k z)))) := by
  subst hu
  obtain ⟨A, env, st, rel, h⟩ := h
  unfold wpE at h
  refine ⟨fun J H1 => ∃ A1 s1 xs dep, Stp A H A1 H1 ∧ RelSt F A1 H1 s1 ∧ ItOk F J xs dep A1 H1 ∧ loopA dep (fun x acc s k => wpG G tg x (wipeE env own) s (fun e2 s2 => wpE G ke e2 s2 (fun a s3 => wpE G ve e2 s3 (fun b s4 =>
          keyOk (keysOf acc) a = true ∧ (keysOf acc).all (fun j => !keyB j a) = true ∧ acc.length < line ∧ k (acc ++ [Mini.D.tup [a, b]]) s4) noX) noX) noX)
        xs [] s1 (fun ys s => retM m (.dct (keysOf ys) (valsOf ys)) s (QLink F A H Q)), ⟨A, env, st, rel, wpI_mono _ _ _ (fun xs dep s q A' H' J t r ok => ⟨A', s, xs, dep, t, r, ok, q⟩) (fun _ _ _ _ z => z) h⟩, ?_⟩
  rintro J H1 ⟨A1, s1, xs, dep, t1, r1, ok, hl⟩ D hD
  have hps : ∀ b ∈ D :: F.priv, b ∈ F.priv ∨ H1 b = none := fun b hb => by
    rcases List.mem_cons.mp hb with e | hb
    · subst e; exact .inr hD
    · exact .inl hb
  refine ⟨fun i m' H2 => m' = xs.length - i ∧ i ≤ xs.length ∧ ∃ A2 s2 acc kvs, Stp A1 H1 A2 H2 ∧ RelSt (F.pv (D :: F.priv)) A2 H2 s2 ∧ H2 D = some (.dK kvs) ∧ PairsD acc ∧ acc.length = kvs.length ∧ keysOf acc = kvs.map (fun q => dKey q.1) ∧ Rps (F.pv (D :: F.priv)) A2 H2 (valsOf acc) (kvs.map (·.2)) ∧
    loopA dep (fun x acc s k => wpG G tg x (wipeE env own) s (fun e2 s2 => wpE G ke e2 s2 (fun a s3 => wpE G ve e2 s3 (fun b s4 =>
          keyOk (keysOf acc) a = true ∧ (keysOf acc).all (fun j => !keyB j a) = true ∧ acc.length < line ∧ k (acc ++ [Mini.D.tup [a, b]]) s4) noX) noX) noX) (xs.drop i) acc s2 (fun ys s => retM m (.dct (keysOf ys) (valsOf ys)) s (QLink F A H Q)),
    ⟨_, rfl, Nat.zero_le _, A1, s1, [], [], Stp.refl.pset hD, r1.priv hD, upd_same, (fun x hx => by cases hx), rfl, rfl, .nil, hl⟩, ?_⟩
  rintro i m' H2 ⟨hm, hi, A2, s2, acc, kvs, t2, r2, e2, pd, lk, ek, ra, hl2⟩
  obtain ⟨hdep, hl2⟩ := loopA_at hl2
  rcases hl2 with ⟨hge, q⟩ | ⟨x, hx, hb⟩
  · have : i = xs.length := by omega
    exact .inl ⟨ok.stop _ i A2 H2 s2 hps t2.toq r2 hdep this, dc_done r1 hD t1 t2 r2 e2 ek ra q⟩
  · have hlt : i < xs.length := (List.getElem?_eq_some_iff.mp hx).1
    refine .inr ⟨ok.go _ i A2 H2 s2 hps t2.toq r2 hdep hlt, _, fun H' hN => hN, fun v H3 hy => ?_⟩
    obtain ⟨d, hd, t3, r3, p3⟩ := ok.yld _ i A2 H2 s2 v H3 hps t2.toq r2 hdep hlt hy
    rw [hx] at hd; cases hd
    have re : EnvR (F.pv (D :: F.priv)) none A2 H2 env σ := (rel.re.stp t1).mp hps t2
    have rel3 : Rel (F.pv (D :: F.priv)) none A2 H3 (wipeE env own) s2 (wipe σ own) := ⟨r3, (re.stp t3).wipe own, trivial⟩
    have nD : D ∉ A2 := (r2.2.1.2 D List.mem_cons_self).1
    have hDp : D ∈ (F.pv (D :: F.priv)).priv := List.mem_cons_self
    refine ⟨A2, wipeE env own, s2, x, rel3, p3, wpG_mono tg x _ _ (fun e4 s4 q4 A4 H4 σ4 t4 rel4 o4 => ⟨wipe_off hsl o4, tE_one rel4 q4 (fun _ _ _ _ z => z.elim) fun a s5 A5 H5 av t5 r5 p5 q5 => tE_one (rel4.stp t5 r5) q5 (fun _ _ _ _ z => z.elim) fun b s6 A6 H6 bv t6 r6 p6 ⟨hk, hf, hlen, q6⟩ => ?_⟩) (fun _ _ _ _ z => z) hb⟩
    have T6 : Stp A2 H2 A6 H6 := ((t3.trans r3 t4).trans rel4.rs t5).trans r5 t6
    have e6 := (T6.out nD e2).2
    simp only [keyOk, Bool.and_eq_true] at hk
    obtain ⟨j, rfl⟩ := leaf_key hk.1
    cases rp_key p5
    rw [ek] at hf
    obtain ⟨k1, k2, k3⟩ := kv_app (a := dKey j) (b := b) pd
    have hput := put_fresh (v := bv) hf
    refine ⟨kvs, j, rfl, e6, by rw [← lk]; exact hlen, xs.length - (i + 1), by omega, rfl, by omega, A6, s6, acc ++ [Mini.D.tup [dKey j, b]], kvs ++ [(j, bv)], (t2.trans r2 T6).pset hD, r6.pupd hDp, by rw [hput]; exact upd_same, k3, by simp [lk], by rw [k1, ek]; simp, ?_, q6⟩
    rw [k2, List.map_append]
    exact ((ra.stp T6).append (.cons p6 .nil)).mv (Mv.pupd hDp)
theorem dc_parts (ih : SndAt P F G n) (ih' : ∀ ps, SndAt P (F.pv ps) G n) {m : Bool} {ke ve tg it : Expr} {scope : Scope} {it' : CI} {tg' : CG} {k' v' : CE} (g : Good P F G cx X W u) (hc : cx.calm = true)
    (hb : blkB cx.N cx.sc scope (ownOf cx.N scope.names) = true) (hi : compI P n cx tg it = some it') (hg : compG P n (cx.inner scope) tg = some tg')
    (hk : compE P n (cx.inner scope) false ke = some k') (hv : compE P n (cx.inner scope) true ve = some v') (hsl : ((slotsG tg').all fun i => ((ownOf cx.N scope.names).map (·.2)).contains i) = true) :
    ∃ (wi : TI) (gg : TG) (tt : TT) (tk tv : TE), PI X tg it wi ∧ BlkOk X.N X.env.scope scope (ownOf cx.N scope.names) ∧
      (∀ (s : Shared) (H : Hp) (C : Addr) (cl : List (Str × Addr)) (fp : List Addr), PG (X.blk s H scope (compEnvC scope cl C X.env) fp) tg gg) ∧
      (∀ (s : Shared) (H : Hp) (C : Addr) (cl : List (Str × Addr)) (fp : List Addr), PTs (X.blk s H scope (compEnvC scope cl C X.env) fp) [] tt) ∧
      (∀ (s : Shared) (H : Hp) (C : Addr) (cl : List (Str × Addr)) (fp : List Addr), PE (X.blk s H scope (compEnvC scope cl C X.env) fp) ke tk) ∧
      (∀ (s : Shared) (H : Hp) (C : Addr) (cl : List (Str × Addr)) (fp : List Addr), PE (X.blk s H scope (compEnvC scope cl C X.env) fp) ve tv) ∧
      ∀ σ H Q, tE F G u W (.dcomp m ((ownOf cx.N scope.names).map (·.2)) tg' it' k' v') σ H Q → tDc wi gg tt tk tv ((ownOf cx.N scope.names).map (·.2)) σ H Q := by
  have ok : BlkOk X.N X.env.scope scope (ownOf cx.N scope.names) := by rw [g.N, g.sc]; exact blkOk_of hb
  refine ⟨tI F G u W it', fun v σ H Q => ∃ ps, tG (F.pv ps) G none tg' v σ H Q, tYes, fun σ H Q => ∃ ps, tE (F.pv ps) G none (fun _ _ _ _ => False) k' σ H Q, fun σ H Q => ∃ ps, tE (F.pv ps) G none (fun _ _ _ _ => False) v' σ H Q,
    ih.i hi g, ok, (fun s H C cl fp => pgEx fun ps => (ih' ps).g hg (g.blk hc ps scope s H C cl fp)), (fun s H C cl fp => pts_nil), (fun s H C cl fp => peEx fun ps => (ih' ps).e hk (g.blk hc ps scope s H C cl fp)), (fun s H C cl fp => peEx fun ps => (ih' ps).e hv (g.blk hc ps scope s H C cl fp)), fun σ H Q q => ?_⟩
  obtain ⟨R, h1, h2⟩ := dc_fin (g.nosui hc).1 (by
    intro i hi
    have := List.all_eq_true.mp hsl i hi
    simpa using this) q
  refine tI_mono h1 fun J H1 hr D hD => ?_
  obtain ⟨Wv, w0, w1⟩ := h2 J H1 hr D hD
  refine ⟨Wv, w0, fun i m H hw => ?_⟩
  rcases w1 i m H hw with h | ⟨h3, Nx, h4, h5⟩
  · exact .inl h
  · refine .inr ⟨h3, Nx, h4, fun x H' hy => ⟨D :: F.priv, ?_⟩⟩
    obtain ⟨A, env, st, d, rel, p, hh⟩ := h5 x H' hy
    refine ⟨A, env, st, d, rel, p, wpG_mono _ _ _ _ (fun e s q A' H' σ' t r o => ?_) (fun _ _ _ _ z => z) hh⟩
    obtain ⟨q1, A, env, st, rel, q2⟩ := q A' H' σ' t r o
    refine ⟨q1, D :: F.priv, A, env, st, rel, wpE_mono _ _ _ (fun d s q A' H' v t r p => ?_) (fun _ _ _ _ z => z) q2⟩
    exact ⟨D :: F.priv, q A' H' v t r p⟩
theorem sE_dc (ih : SndAt P F G n) (ih' : ∀ ps, SndAt P (F.pv ps) G n) {m : Bool} {ke ve tg it : Expr} {scope : Scope} {pos : Pos} {it' : CI} {tg' : CG} {k' v' : CE} (g : Good P F G cx X W u) (hc : cx.calm = true)
    (hb : blkB cx.N cx.sc scope (ownOf cx.N scope.names) = true) (hi : compI P n cx tg it = some it') (hg : compG P n (cx.inner scope) tg = some tg')
    (hk : compE P n (cx.inner scope) false ke = some k') (hv : compE P n (cx.inner scope) true ve = some v') (hsl : ((slotsG tg').all fun i => ((ownOf cx.N scope.names).map (·.2)).contains i) = true) :
    PE X (.DictComp ke ve [⟨tg, it, [], 0⟩] scope pos) (tE F G u W (.dcomp m ((ownOf cx.N scope.names).map (·.2)) tg' it' k' v')) := by
  obtain ⟨wi, gg, tt, tk, tv, h1, h2, h3, h4, h5, h6, h7⟩ := dc_parts ih ih' (m := m) g hc hb hi hg hk hv hsl
  exact peImp (pe_dc (g.calm hc) g.nd h1 h2 h3 h4 h5 h6 (noset hi)) h7
end
end Mini
end
section
/-! The exception in hand. -/
namespace PySem.W
open PySem PySem.Spec PySem.Calls PyProof.Rows
section
variable {prog : Program} {w : World} {A : Around} {E : Value → Shared → Prop} {s : Shared} {K : Frag} {x D : Addr} {ox : Obj} {od : Option Obj}
theorem m_classE {Q : Option Value → Shared → Prop} (hga : findIn K (.ref D) "__getattribute__" = some (some (.builtin "BaseException.__getattribute__"))) (hgt : findIn K (.ref D) "__getattr__" = some none) (hsub : subIn K (.ref D) (.type "BaseException") = some true)
    (hdct : hasDictIn K D = true) (ha : findIn K (.ref D) "__class__" = some (some (.builtin "object.__class__")))
    (hn : specialIn K (.builtin "object.__class__") "__get__" = some (some (.builtin "getset_descriptor.__get__"))) (htk : takesIn K (.builtin "object.__class__") = some true) (hm : mroIn K D (.type "object") = some true)
    (X : K.In s.heap) (I : InstAt s.heap x ox D od) (h : Q (some (.ref D)) { s with toks := s.toks + 1 }) : wpAny (model prog w) A (getAttr? (.ref x) "__class__") Q E s := by
  have hf : findObj K D od "__class__" = some (.bind (.builtin "getset_descriptor.__get__") (.builtin "object.__class__")) := by
    cases od with
    | none => exact findObj_dataN (by obtain ⟨cd, hc, _⟩ := any_some hdct; rw [hc]; rfl) ha hn htk
    | some o => exact findObj_data (by obtain ⟨cd, hc, _⟩ := any_some hdct; rw [hc]; rfl) ha hn htk
  obtain ⟨hp, g, d, t, os⟩ := s
  have L0 := I.type (M := model prog w)
  have L1 := looks_findIn (M := model prog w) X hga
  have L2 := looks_findIn (M := model prog w) X hgt
  have L3 := looks_find (M := model prog w) X I hf
  have sub : Looks (model prog w) hp (isInstance (.ref x) (.type "BaseException")) true := L0.andThen (looks_subIn X hsub)
  have hx0 : (false && onTheHeap (Value.builtin "BaseException.__getattribute__")) = false := rfl
  have hx2 : (Value.builtin "BaseException.__getattribute__" == Value.builtin "object.__getattribute__") = false := by decide +kernel
  have hx1 : (onTheHeap (Value.ref D) && Value.builtin "BaseException.__getattribute__" == Value.builtin "object.__getattribute__") = false := by rw [hx2]; rfl
  unfold getAttr? getAttrBy? getAttrBy
  refine wpAny_bind (wpAny_mkText (wpAny_bind (wpAny_attempt (wpAny_holding (wpAny_bind (L0.at (wpAny_bind (L1.at ?_))))))))
  show wpAny _ _ (if (onTheHeap (Value.ref D) && Value.builtin "BaseException.__getattribute__" == Value.builtin "object.__getattribute__") = true then _ else _) _ _ _
  rw [hx1, if_neg Bool.false_ne_true]
  unfold getAttrByItsOwn hookBefore
  refine wpAny_bind ?_
  rw [if_pos (show onTheHeap (Value.ref D) = true from rfl)]
  refine L2.at ?_
  refine wpAny_bind (wpAny_attempt (wpAny_holding ?_))
  unfold callGetattribute
  rw [hx0, if_neg Bool.false_ne_true]
  unfold boundAndCalled
  rw [PySem.F.excAttr_ValueError.ga.bind (.ref x)]
  refine wpAny_bind (wpAny_pure ?_)
  show wpAny _ _ (call (.builtin "BaseException.__getattribute__") [.ref x, .str "__class__" t]) _ _ _
  refine wpAny_call (codeAny_call_builtin PySem.F.excAttr_ValueError.ga.plain PySem.F.entry_bexc_ga ?_)
  refine @check_slot (model prog w) _ _ ⟨hp, g, d, t + 1, os⟩ "BaseException.__getattribute__" "BaseException" "__getattribute__" (.ref x) [.str "__class__" t] [] _ (by decide +kernel) (by decide +kernel) sub (PySem.F.args_bexc_ga (.ref x) (.str "__class__" t)) ?_
  unfold Builtin.«object.__getattribute__»
  refine wpAny_bind (wpAny_of_eq (a := ((Value.ref x : Value), [Value.str "__class__" t])) (by first | rfl | (simp only [slotArgs]; rfl)) ?_)
  refine wpAny_bind (wpAny_pure (wpAny_bind (L0.at (wpAny_bind (L3.at ?_)))))
  show wpAny _ _ (holding [Value.builtin "object.__class__"] (call (.builtin "getset_descriptor.__get__") [.builtin "object.__class__", .ref x, .ref D]) >>= ret) _ _ _
  refine wpAny_bind (wpAny_holding (wpAny_call (class_get (s := ⟨hp, g, d, t + 1, os⟩) (ox := ox) (od := od) X I hm ?_)))
  refine wpAny_pure ?_
  show wpAny _ _ (handedOut (.ref D)) _ _ _
  rw [handedOut_of (v := .ref D) rfl]
  first
    | exact wpAny_pure (wpAny_pure h)
    | exact wpAny_pure h
    | exact wpAny_pure (wpAny_bind (wpAny_pure (wpAny_pure h)))
theorem m_kitx_exc (hga : findIn K (.ref D) "__getattribute__" = some (some (.builtin "BaseException.__getattribute__"))) (hgt : findIn K (.ref D) "__getattr__" = some none) (hsub : subIn K (.ref D) (.type "BaseException") = some true) (hdct : hasDictIn K D = true) (ha : findIn K (.ref D) "__class__" = some (some (.builtin "object.__class__")))
    (hn : specialIn K (.builtin "object.__class__") "__get__" = some (some (.builtin "getset_descriptor.__get__"))) (htk : takesIn K (.builtin "object.__class__") = some true) (hm : mroIn K D (.type "object") = some true) :
    KitX K (.ref x) (.ref D) (fun h => InstAt h x ox D od) where
  ty := fun _ _ _ I => I.type
  it := fun _ _ X _ => by
    obtain ⟨cdD, hcD, _⟩ := any_some hdct
    unfold clsIn at hcD
    split at hcD
    · rename_i c' d' cd' sl' ho
      intro A' Q' E' s' k q
      unfold isType loadHead
      exact wpAny_bind (wpAny_loadPart (k _ _ (X _ _ ho)) (wpAny_pure q))
    · cases hcD
  ne := fun h tp dd its n sl X htp => by
    obtain ⟨cdD, hcD, _⟩ := any_some hdct
    refine Bool.eq_false_iff.mpr fun q => ?_
    have e : D = tp := Value.ref.inj (beq_iff_eq.mp q)
    subst e
    unfold clsIn at hcD
    split at hcD
    · rename_i c' d' cd' sl' ho
      have z := (X _ _ ho).symm.trans htp
      cases z
    · cases hcD
  ca := fun X I k => m_classE hga hgt hsub hdct ha hn htk hm X I k
end
end PySem.W

namespace Mini
open PySem L2 PySem.Spec PyProof.Rows
section
variable {P : PInfo} {F : Fx} {G : Sg} {cx : CTX} {X : Cx} {W : WX} {u : SuiT} {n : Nat} {A A0 A1 : List Addr} {H H0 H1 : Hp} {st s1 : Sto} {env : Env} {σ : L2.St}
theorem exc_at {v : Expr} {i : Nat} (h : excAt cx v = some i) : ∃ x p, v = .Name x p ∧ cx.sui = some (x, i) := by
  cases v <;> simp only [excAt, reduceCtorEq] at h
  rename_i x p
  split at h
  · rename_i y j hs
    split at h
    · rename_i e
      cases h
      subst e
      exact ⟨_, p, rfl, hs⟩
    · cases h
  · cases h
/-- the suite's exception -/
theorem Good.exc (g : Good P F G cx X W u) {x : Str} {i : Nat} (h : cx.sui = some (x, i)) :
    ∃ a cls dd oe pn X0, u = some (i, a, cls, dd) ∧ X = Cx.suite X0 a ((a, oe) :: pn) ∧ Zc cls dd oe ∧ (∃ vs, oe.data = .fields vs) ∧ ∀ pos, PE X (.Name x pos) (fun σ H Q => ∃ v, σ[i]? = some (some v) ∧ Q v H) := by
  have := g.sui
  rw [h] at this
  cases u with
  | none => exact this.elim
  | some q =>
    obtain ⟨j, a, cls, dd⟩ := q
    obtain ⟨e, h1, h2, ⟨v1, v2, v3⟩, X0, oe, pn, h3, h4, h5⟩ := this
    subst e
    exact ⟨a, cls, dd, oe, pn, X0, rfl, h3, h4, h5, fun pos => pe_var (by rw [g.N]; exact h1) v1 v2 v3⟩
theorem sE_exf {v : Expr} {f : Str} {pos : Pos} {i : Nat} (g : Good P F G cx X W u) (he : excAt cx v = some i) (hf : P.xflds.contains f = true) : PE X (.Attribute v f pos) (tE F G u W (.exf i f)) := by
  obtain ⟨x, p, rfl, hs⟩ := exc_at he
  obtain ⟨a, cls, dd, oe, pn, X0, rfl, rfl, hz, hd, hv⟩ := g.exc hs
  have key : ∀ C, C ∈ F.excs → PE (Cx.suite X0 a ((a, oe) :: pn)) (.Attribute (.Name x p) f pos) (tXf a cls dd (F.cad C) f (fun σ H Q => ∃ v, σ[i]? = some (some v) ∧ Q v H)) := fun C hC => by
    obtain ⟨_, _, h3, h4⟩ := g.facts.exs C hC
    have hK := g.K
    exact pe_xf (by rw [show X0.K = F.K from hK]; exact h3) (by rw [show X0.K = F.K from hK]; exact h4 f (by simpa using hf)) hz hd (hv p) rfl
  refine ⟨fun pins s σ H Q I ⟨A, env, st, rel, h⟩ => ?_⟩
  unfold wpE at h
  obtain ⟨C, fs, xs, d, e1, e2, q⟩ := h
  obtain ⟨z1, C', fs', xs', z2, z3⟩ := rel.su
  rw [e1] at z2
  cases z2
  obtain ⟨⟨hC, hcls⟩, z4⟩ := z3
  refine (key C hC).run pins s σ H Q I ⟨.ref a, z1, rfl, hcls, ?_⟩
  rcases z4 with ⟨e3, _⟩ | ⟨dx, fvs, e3, e4, _, e5⟩
  · subst e3
    cases xs <;> simp [lookF] at e2
  · obtain ⟨w, l, p⟩ := e5 f d e2
    exact ⟨dx, fvs, w, e3, e4, l, q A H w .refl rel.rs p⟩
/-- isinstance(e, C) of the suite's exception -/
def rIsX (K : PySem.W.Frag) (D a : Addr) (dd : Option Addr) : List V → Hp → VK → Prop := fun xs H Q => ∃ (c : V) (cv : Value) (b : Bool), xs = [.ref a, c] ∧ (∀ u, RelV c u → u = cv) ∧ PySem.W.kitOne K (.ref D) cv = some b ∧ (dd = none ∨ ∃ d fvs, dd = some d ∧ H d = some (.xd fvs)) ∧ Q (.bl b) H
theorem call_isX {X : Cx} {a D : Addr} {oe : Obj} {dd : Option Addr} {pn : List (Addr × Obj)} (C : ExcC X.K D) (hz : Zc (.ref D) dd oe) (hf : ∃ vs, oe.data = .fields vs) : CallR (X.suite a ((a, oe) :: pn)) (.builtin "isinstance") (rIsX X.K D a dd) := by
  intro pins s σ H xs us Q I r h
  obtain ⟨c, cv, b, rfl, hcv, e, hdd, q⟩ := h
  obtain ⟨u1, u2, rfl, r1, r2⟩ := Vals.two r
  cases r1
  have ec := hcv _ r2
  subst ec
  obtain ⟨hget, _⟩ := I.pin (a, oe) (List.mem_append.mpr (.inl List.mem_cons_self))
  obtain ⟨vs, hv⟩ := hf
  have fin : ∀ od, PySem.W.InstAt s.heap a oe D od → wpAny (model X.prog X.w) (X.suite a ((a, oe) :: pn)).A (call (.builtin "isinstance") [.ref a, u2]) (EP (X.suite a ((a, oe) :: pn)) pins σ Q) (X.suite a ((a, oe) :: pn)).xe s := fun od J =>
    PySem.W.kia_one (PySem.W.m_kitx_exc C.hg C.hk C.hs C.hd C.ha C.hn C.ht C.hm) I.kIn J e (fun z => nomatch z) fun tk => ⟨.bl b, H, I.kept (t' := tk) fun _ _ z => z, rfl, q⟩
  rcases hdd with hdd | ⟨d, fvs, hdd, hH⟩
  · subst hdd
    refine fin none ⟨hget, hz.1, by unfold PySem.W.notCls; rw [hv] <;> rfl, by rw [hz.2]; trivial⟩
  · subst hdd
    obtain ⟨mA, hns, hr⟩ := (show ObjOk X.prog X.w H s.heap d (.xd fvs) from I.hok d _ hH)
    obtain ⟨od, ho, hl⟩ := lookIn_ns hns
    exact fin (some od) ⟨hget, hz.1, by unfold PySem.W.notCls; rw [hv] <;> rfl, by rw [hz.2]; exact ho⟩
theorem sE_exi {v : Expr} {C' : Str} {p q pos : Pos} {i : Nat} (g : Good P F G cx X W u) (he : excAt cx v = some i) (hg : cx.glob "isinstance" = true) (hg2 : cx.glob C' = true) (hC : ((P.excs.map (·.1)).contains C' || C' == ("ValueError" : Str)) = true) :
    PE X (.Call (.Name "isinstance" p) [v, .Name C' q] [] pos) (tE F G u W (.exi i C')) := by
  obtain ⟨x, p', rfl, hs⟩ := exc_at he
  have hnm : ∃ c cv, (∀ u, RelV c u → u = cv) ∧ PE X (.Name C' q) (fun _ H Q => Q c H) ∧ ∀ C, C ∈ F.excs → PySem.W.kitOne F.K (.ref (F.cad C)) cv = some (G.sub C C') := by
    rw [Bool.or_eq_true] at hC
    rcases hC with hC | hC
    · have hm : C' ∈ F.excs := by rw [g.facts.excs]; simpa using hC
      exact ⟨.ref (F.cad C'), .ref (F.cad C'), fun u h => h, pe_globV g hg2 (g.facts.exs C' hm).1 rfl, fun C h => g.facts.exsub C C' h hm⟩
    · have e : C' = "ValueError" := by simpa using hC
      subst e
      exact ⟨.ty "ValueError", .type "ValueError", fun u h => h, pe_bltV g hg2 (g.facts.free _ (by simp)) (by rfl) (by decide) rfl, fun C h => by rw [(g.facts.exval C h).2]; exact (g.facts.exval C h).1⟩
  obtain ⟨c, cv, hcv, hpe, hkit⟩ := hnm
  obtain ⟨a, cls, dd, oe, pn, X0, rfl, rfl, hz, hd, hv⟩ := g.exc hs
  have hK : X0.K = F.K := g.K
  refine ⟨fun pins s σ H Q I ⟨A, env, st, rel, h⟩ => ?_⟩
  unfold wpE at h
  obtain ⟨C, fs, xs, e1, q1⟩ := h
  obtain ⟨z1, C2, fs', xs', z2, z3⟩ := rel.su
  rw [e1] at z2
  cases z2
  obtain ⟨⟨hCe, hcls⟩, z4⟩ := z3
  rw [hcls] at hz
  have hEx : ExcC X0.K (F.cad C) := by rw [hK]; exact (g.facts.exs C hCe).2.1
  have pa : PA (Cx.suite X0 a ((a, oe) :: pn)) [.Name x p', .Name C' q] (tCons (fun σ H Q => ∃ v, σ[i]? = some (some v) ∧ Q v H) (tCons (fun _ H Q => Q c H) tNil)) := pa_cons (hv p') (pa_cons hpe pa_nil (star_plain rfl)) (star_plain rfl)
  have hc := call_isX (X := X0) (a := a) (oe := oe) (pn := pn) hEx hz hd
  refine (pe_callB hc (gl_isi g hg) (g.facts.free _ (by simp)) (by rfl) pa (by decide) (by decide) (star_plain rfl) (any_plain rfl)).run pins s σ H Q I ?_
  refine ⟨.ref a, z1, c, cv, G.sub C C', rfl, hcv, by rw [hK]; exact hkit C hCe, ?_, q1 A H _ .refl rel.rs (.bl _)⟩
  rcases z4 with ⟨_, e3⟩ | ⟨dx, fvs, e3, e4, _, _⟩
  · exact .inl e3
  · exact .inr ⟨dx, fvs, e3, e4⟩
end
end Mini
end
section
/-! Expressions, joined. -/
namespace Mini
open PySem L2 PySem.Spec PyProof.Rows
section
variable {P : PInfo} {F : Fx} {G : Sg} {cx : CTX} {X : Cx} {W : WX} {u : SuiT} {n : Nat}
theorem compAs_nil {f : Expr → Option CE} {cs : CEs} (h : compAsW f [] = some cs) : cs = .nil := by
  simp only [compAsW, Option.some.injEq] at h; exact h.symm
theorem compAs_nil' {f : Expr → Option CE} {args : List Expr} {cs : CEs} (h : compAsW f args = some cs) (e : args = []) : cs = .nil := by
  subst e; exact compAs_nil h
/-- a def called -/
theorem sE_fun (ih : SndAt P F G n) {f : Str} {fi : FI} {args : List Expr} {kws : List Keyword} {p pos : Pos} {as' : CEs} {c : CE} (g : Good P F G cx X W u) (hg : cx.glob f = true) (hf : P.funs.lookup f = some fi) (hl : (decide (fi.lvl ≤ cx.lvl) && cx.calm) = true)
    (ha : compAsW (compE P n cx false) args = some as')
    (h : (match kws, fi.kw with
        | [], none => ifB (decide (args.length = fi.np)) (some (CE.call f as'))
        | [], some (_, d) => ifB (decide (args.length = fi.np)) (some (CE.callk f as' Str.empty (.cst d)))
        | [⟨some k, e, _⟩], some (k0, _) => ifB (decide (args.length = fi.np) && decide (k = k0) && !args.isEmpty) ((compE P n cx false e).map fun e' => CE.callk f as' k e')
        | _, _ => none) = some c) : PE X (.Call (.Name f p) args kws pos) (tE F G u W c) := by
  simp only [Bool.and_eq_true, decide_eq_true_eq] at hl
  obtain ⟨fa, hm, hk, Cl⟩ := g.facts.funs f fi hf hl.1
  have hk' : PySem.W.keepIn X.K (.ref fa) = true := by rw [g.K]; exact hk
  have hr := (g.room hl.2).mono hl.1
  have pa := paAs (fun e c he => ih.e he g) ha
  have hpl := compAs_plain ha
  split at h
  · rename_i hkw
    obtain ⟨_, h⟩ := ifB_some.mp h
    cases h
    rw [hkw] at Cl
    refine peImp (pe_callC g hg hm hk' Cl hr pa hpl (compAs_nil' ha)) (tA_callQ fun env st Q X1 h => ?_)
    unfold wpE at h
    exact h
  · rename_i k0 d hkw
    obtain ⟨_, h⟩ := ifB_some.mp h
    cases h
    rw [hkw] at Cl
    refine peImp (pe_callC g hg hm hk' Cl.2 hr pa hpl (compAs_nil' ha)) (tA_callQ fun env st Q X1 h => ?_)
    unfold wpE at h
    refine wpEs_mono _ _ _ (fun ds s q => ?_) (fun _ _ _ _ z => z) h
    unfold wpE at q
    exact q
  · rename_i k e1 kp k0 d hkw
    obtain ⟨hc, h⟩ := ifB_some.mp h
    simp only [Bool.and_eq_true, decide_eq_true_eq] at hc
    obtain ⟨e', he, rfl⟩ := Option.map_eq_some_iff.mp h
    rw [hkw] at Cl
    obtain ⟨⟨_, rfl⟩, hne⟩ := hc
    refine peImp (pe_callCK g hg hm hk' Cl.1 hr pa (ih.e he g) hpl (by rintro rfl; simp at hne)) fun σ H Q ⟨A, env, st, rel, h⟩ => ?_
    unfold wpE at h
    refine tA_one rel h (fun _ _ _ _ z => z) fun ds s A1 H1 vs t r px q => ?_
    refine tE_one (rel.stp t r) q (fun C f z s' q => q.stp r t) fun d2 s2 A2 H2 v t2 r2 p2 q2 => ?_
    exact ⟨A2, ds ++ [d2], s2, r2, (px.stp t2).append (.cons p2 .nil), q2.mono (fun d s q => q.stp r2 (t.trans r t2)) fun C f x s q => q.stp r2 (t.trans r t2)⟩
  · cases h
theorem sE_make (ih : SndAt P F G n) {f : Str} {fi : FI} {args : List Expr} {p pos : Pos} {as' : CEs} (g : Good P F G cx X W u) (hg : cx.glob f = true) (hf : P.makes.lookup f = some fi) (hl : fi.lvl ≤ cx.lvl) (hc : cx.calm = true)
    (ha : compAsW (compE P n cx false) args = some as') : PE X (.Call (.Name f p) args [] pos) (tE F G u W (.make f as')) := by
  obtain ⟨hm, hk, Cl⟩ := g.facts.makes f fi hf hl
  have hk' : PySem.W.keepIn X.K (.ref (F.cad f)) = true := by rw [g.K]; exact hk
  refine peImp (pe_callC g hg hm hk' Cl ((g.room hc).mono hl) (paAs (fun e c he => ih.e he g) ha) (compAs_plain ha) (compAs_nil' ha)) (tA_callQ fun env st Q X1 h => ?_)
  unfold wpE at h
  exact h
theorem sE_mc (ih : SndAt P F G n) {v : Expr} {f C q : Str} {fi : FI} {args : List Expr} {apos pos : Pos} {v' : CE} {as' : CEs} (g : Good P F G cx X W u) (hs : isSuper v = false) (hline : (apos.endLine == pos.line) = true) (hn : args.length < 20)
    (hf : P.meths.lookup f = some (C, q, fi)) (hl : fi.lvl ≤ cx.lvl) (hc : cx.calm = true) (hv : compE P n cx false v = some v') (ha : compAsW (compE P n cx false) args = some as') :
    PE X (.Call (.Attribute v f apos) args [] pos) (tE F G u W (.mc C f q v' as')) := by
  obtain ⟨hC, gf, hm, Cl⟩ := g.facts.meths f C q fi hf hl
  exact peImp (pe_mcC g (ih.e hv g) hs hC (by rw [g.K]; exact hm) Cl ((g.room hc).mono hl) (paAs (fun e c he => ih.e he g) ha) (compAs_plain ha) (compAs_nil' ha) hn hline) fun σ H Q q => mc_rd q
theorem vals_rd {v' : CE} {σ : L2.St} {H : Hp} {Q : VK} (h : tE F G u W (.bi false .vals (.cons v' .nil)) σ H Q) : tTupVals (tE F G u W v') σ H Q := by
  obtain ⟨A, env, st, rel, h⟩ := h
  unfold wpE at h
  unfold wpEs at h
  refine tE_one rel h (fun _ _ _ _ z => z) fun d s A1 H1 v t r p q => ?_
  unfold wpEs at q
  obtain ⟨d', e, q⟩ := q
  simp only [biD] at e
  split at e
  · rename_i ks xs ec
    split at e
    · rename_i hl
      cases e
      obtain ⟨a, rfl, ob⟩ := asC_rp r p ec
      obtain ⟨kvs, e1, e2, rs⟩ := ob_dct hl ob
      exact ⟨a, kvs, rfl, e1, fun l hl => q_new_tup r t rs hl q⟩
    · cases e
  · cases e
end
end Mini
end
section
namespace Mini
open PySem L2 PySem.Spec PyProof.Rows
section
variable {P : PInfo} {F : Fx} {G : Sg} {cx : CTX} {X : Cx} {W : WX} {u : SuiT} {n : Nat}
theorem sE_attr (ih : SndAt P F G n) {m : Bool} {v : Expr} {f : Str} {pos : Pos} {c : CE} (h : compE P (n + 1) cx m (.Attribute v f pos) = some c) (g : Good P F G cx X W u) : PE X (.Attribute v f pos) (tE F G u W c) := by
  simp only [compE] at h
  split at h
  · rename_i i hi
    obtain ⟨hx, h⟩ := ifB_some.mp h
    cases h
    exact sE_exf g hi hx
  · obtain ⟨hs, h⟩ := ifB_some.mp h
    obtain ⟨v', hv, h⟩ := Option.bind_eq_some_iff.mp h
    split at h
    · rename_i q l hq
      obtain ⟨hl, h⟩ := ifB_some.mp h
      cases h
      simp only [Bool.and_eq_true, decide_eq_true_eq] at hl
      exact sE_prp g (not_star hs) hq hl.1 hl.2 (ih.e hv g)
    · obtain ⟨hf, h⟩ := ifB_some.mp h
      cases h
      exact sE_fld g (not_star hs) hf (ih.e hv g)
theorem sE_callA (ih : SndAt P F G n) {m : Bool} {v : Expr} {f : Str} {args : List Expr} {apos pos : Pos} {c : CE} (h : compE P (n + 1) cx m (.Call (.Attribute v f apos) args [] pos) = some c) (g : Good P F G cx X W u) : PE X (.Call (.Attribute v f apos) args [] pos) (tE F G u W c) := by
  simp only [compE] at h
  obtain ⟨hs, h⟩ := ifB_some.mp h
  simp only [Bool.and_eq_true, decide_eq_true_eq] at hs
  obtain ⟨⟨hs, hline⟩, hn⟩ := hs
  split at h
  · rename_i C q fi hq
    obtain ⟨hl, h⟩ := ifB_some.mp h
    simp only [Bool.and_eq_true, decide_eq_true_eq] at hl
    obtain ⟨v', hv, h⟩ := Option.bind_eq_some_iff.mp h
    obtain ⟨as', ha, rfl⟩ := Option.map_eq_some_iff.mp h
    exact sE_mc ih g (not_star hs) hline hn hq hl.1.1 hl.1.2 hv ha
  · split at h
    · rename_i b k hb
      obtain ⟨_, h⟩ := ifB_some.mp h
      obtain ⟨v', hv, h⟩ := Option.bind_eq_some_iff.mp h
      obtain ⟨as', ha, rfl⟩ := Option.map_eq_some_iff.mp h
      exact sE_mt g hb (ih.e hv g) (not_star hs) (paAs (fun e c he => ih.e he g) ha) (compAs_plain ha) (compAs_nil' ha) hn hline
    · cases h
theorem sE_isi (ih : SndAt P F G n) {args : List Expr} {p pos : Pos} {c : CE} (g : Good P F G cx X W u) (hg : cx.glob "isinstance" = true) (h : (match args with
            | [a, .Tuple ts _ _] => (match excAt cx a with
              | some _ => none
              | none => ifB (decide (ts.length ≤ 5) && !isStar a) ((compE P n cx false a).bind fun a' => (tysOf P cx ts).map fun ts' => CE.isi a' ts'))
            | [a, t] => (match excAt cx a, t with
              | some i, .Name C _ => ifB (cx.glob C && ((P.excs.map (·.1)).contains C || C == ("ValueError" : Str))) (some (CE.exi i C))
              | some _, _ => none
              | none, t => ifB (!isStar a) ((compE P n cx false a).bind fun a' => (tyOf P cx t).map fun t' => CE.isi a' [t']))
            | _ => none) = some c) : PE X (.Call (.Name "isinstance" p) args [] pos) (tE F G u W c) := by
  split at h
  · split at h
    · cases h
    · obtain ⟨hc, h⟩ := ifB_some.mp h
      simp only [Bool.and_eq_true, decide_eq_true_eq] at hc
      obtain ⟨a', ha, h⟩ := Option.bind_eq_some_iff.mp h
      obtain ⟨ts', ht, rfl⟩ := Option.map_eq_some_iff.mp h
      exact sE_isiT g (ih.e ha g) (not_star hc.2) ht hc.1 hg
  · split at h
    · rename_i he _ 
      obtain ⟨hc, h⟩ := ifB_some.mp h
      cases h
      simp only [Bool.and_eq_true] at hc
      exact sE_exi g (by assumption) hg hc.1 hc.2
    · cases h
    · obtain ⟨hc, h⟩ := ifB_some.mp h
      obtain ⟨a', ha, h⟩ := Option.bind_eq_some_iff.mp h
      obtain ⟨t', ht, rfl⟩ := Option.map_eq_some_iff.mp h
      exact sE_isi1 g (ih.e ha g) (not_star hc) ht hg
  · cases h
theorem sE_callN (ih : SndAt P F G n) {m : Bool} {f : Str} {args : List Expr} {kws : List Keyword} {p pos : Pos} {c : CE} (h : compE P (n + 1) cx m (.Call (.Name f p) args kws pos) = some c) (g : Good P F G cx X W u) : PE X (.Call (.Name f p) args kws pos) (tE F G u W c) := by
  simp only [compE] at h
  obtain ⟨hg, h⟩ := ifB_some.mp h
  cases hf : P.funs.lookup f with
  | some fi =>
    rw [hf] at h
    dsimp only at h
    obtain ⟨hl, h⟩ := ifB_some.mp h
    obtain ⟨as', ha, h⟩ := Option.bind_eq_some_iff.mp h
    exact sE_fun ih g hg hf hl ha h
  | none =>
    rw [hf] at h
    dsimp only at h
    cases hm : P.makes.lookup f with
    | some fi =>
      rw [hm] at h
      dsimp only at h
      obtain ⟨hl, h⟩ := ifB_some.mp h
      simp only [Bool.and_eq_true, decide_eq_true_eq] at hl
      obtain ⟨as', ha, rfl⟩ := Option.map_eq_some_iff.mp h
      have hk : kws = [] := by simpa using hl.1.2
      subst hk
      exact sE_make ih g hg hm hl.1.1.1 hl.1.1.2 ha
    | none =>
      rw [hm] at h
      dsimp only at h
      obtain ⟨hk, h9⟩ := ifB_some.mp h
      clear h
      have hk : kws = [] := by simpa using hk
      subst hk
      have h := h9
      clear h9
      by_cases e1 : f = "isinstance"
      · subst e1
        rw [if_pos rfl] at h
        exact sE_isi ih g hg h
      rw [if_neg e1] at h
      by_cases e2 : f = "tuple"
      · subst e2
        rw [if_pos rfl] at h
        split at h
        · obtain ⟨hc, h8⟩ := ifB_some.mp h
          clear h
          simp only [Bool.and_eq_true, beq_iff_eq] at hc
          obtain ⟨⟨⟨hc1, rfl⟩, hs⟩, hline⟩ := hc
          obtain ⟨v', hv, rfl⟩ := Option.map_eq_some_iff.mp h8
          exact peImp (pe_tupVals (g.calm hc1) (g.glob hg).1 (g.facts.free _ (by simp)) (ih.e hv g) (base_plain (not_star hs)) (by simpa using hline)) fun σ H Q q => vals_rd q
        · obtain ⟨hc, h⟩ := ifB_some.mp h
          simp only [Bool.and_eq_true, decide_eq_true_eq] at hc
          obtain ⟨as', ha, rfl⟩ := Option.map_eq_some_iff.mp h
          exact sE_bi (f := "tuple") (b := .tuple) g rfl hg (fun _ => g.calm hc.1) (by intro e; rw [e] at hc; exact absurd hc.2 (by decide)) (compAs_plain ha) (paAs (fun e c he => ih.e he g) ha)
      rw [if_neg e2] at h
      split at h
      · rename_i b hb
        obtain ⟨hc, h⟩ := ifB_some.mp h
        simp only [Bool.and_eq_true, decide_eq_true_eq, Bool.or_eq_true, Bool.not_eq_true'] at hc
        obtain ⟨as', ha, rfl⟩ := Option.map_eq_some_iff.mp h
        refine sE_bi g hb hg (fun hb' => ?_) ?_ (compAs_plain ha) (paAs (fun e c he => ih.e he g) ha)
        · rcases hc.2 with h | h
          · exact g.calm h
          · rw [h] at hb'; cases hb'
        · intro e
          have h0 := hc.1
          rw [e] at h0
          cases b <;> exact absurd h0 (by decide)
      · cases h
end
end Mini
end
section
/-! Comprehensions of two clauses. -/
namespace Mini
open PySem L2 PySem.Spec PyProof.Rows
section
variable {P : PInfo} {F : Fx} {G : Sg} {cx : CTX} {X : Cx} {W : WX} {u : SuiT} {n : Nat} {A A0 A1 : List Addr} {H H0 H1 : Hp} {st s1 : Sto} {env : Env} {σ : L2.St}
theorem EnvR.mpq {ps : List Addr} (r : EnvR F none A1 H1 env σ) (hp : ∀ b ∈ ps, b ∈ F.priv ∨ H1 b = none) (t : Stq ps A1 H1 A H) : EnvR (F.pv ps) none A H env σ :=
  ⟨r.1, fun i d e => (r.2 i d e).elim (fun z => z.elim) fun ⟨v, hv, p⟩ => .inr ⟨v, hv, p.mp (mp_ofq hp t)⟩⟩
theorem lc2_fin {m : Bool} {own own1 : List Nat} {tg tg1 : CG} {it it1 : CI} {el : CE} {σ : L2.St} {H : Hp} {Q : VK} (hu : u = none) (hsl : ∀ i ∈ slotsG tg, i ∈ own) (hsl1 : ∀ i ∈ slotsG tg1, i ∈ own1) (h : tE F G u W (.comp2 m own own1 tg it tg1 it1 el) σ H Q) :
    ∃ R : It → Hp → Prop, tI F G u W it σ H R ∧ ∀ J H1, R J H1 → ∀ D, H1 D = none → ∃ Wv : Nat → Nat → Hp → Prop, (∃ m, Wv 0 m (upd H1 D (.lst []))) ∧ ∀ i m H, Wv i m H →
      (J.stop i H ∧ Q (.ref D) H) ∨ (J.go i H ∧ ∃ Nx : Hp → Prop, (∀ H', Nx H' → ∃ m', m' < m ∧ Wv (i + 1) m' H') ∧ ∀ x H', J.yld i H x H' →
        tG (F.pv (D :: F.priv)) G none tg x (wipe σ own) H' fun σ2 H2 => wipe σ2 own = wipe σ own ∧ tI (F.pv (D :: F.priv)) G none (fun _ _ _ _ => False) it1 σ2 H2 fun J1 H4 =>
          ∃ W1 : Nat → Nat → Hp → Prop, (∃ m, W1 0 m H4) ∧ ∀ j k H, W1 j k H → (J1.stop j H ∧ Nx H) ∨ (J1.go j H ∧ ∃ Nx1 : Hp → Prop, (∀ H', Nx1 H' → ∃ k', k' < k ∧ W1 (j + 1) k' H') ∧ ∀ x H', J1.yld j H x H' →
            tG (F.pv (D :: F.priv)) G none tg1 x (wipe σ2 own1) H' fun σ3 H5 => wipe σ3 own1 = wipe σ2 own1 ∧
              tE (F.pv (D :: F.priv)) G none (fun _ _ _ _ => False) el σ3 H5 fun y H7 => ∃ acc, H7 D = some (.lst acc) ∧ acc.length < sizeLine ∧ Nx1 (upd H7 D (.lst (acc ++ [y]))))) := by
  subst hu
  obtain ⟨A, env, st, rel, h⟩ := h
  unfold wpE at h
  refine ⟨fun J H1 => ∃ A1 s1 xs dep, Stp A H A1 H1 ∧ RelSt F A1 H1 s1 ∧ ItOk F J xs dep A1 H1 ∧ loopA dep (fun x acc s k => wpG G tg x (wipeE env own) s (fun e2 s2 => wpI G it1 e2 s2 (fun xs1 dep1 s3 =>
        loopA dep1 (fun x1 acc1 s k1 => wpG G tg1 x1 (wipeE e2 own1) s (fun e3 s4 => wpE G el e3 s4 (fun y s5 => acc1.length < line ∧ k1 (acc1 ++ [y]) s5) noX) noX) xs1 acc s3 k) noX) noX)
        xs [] s1 (fun ys s => retM m (.lst ys) s (QLink F A H Q)), ⟨A, env, st, rel, wpI_mono _ _ _ (fun xs dep s q A' H' J t r ok => ⟨A', s, xs, dep, t, r, ok, q⟩) (fun _ _ _ _ z => z) h⟩, ?_⟩
  rintro J H1 ⟨A1, s1, xs, dep, t1, r1, ok, hl⟩ D hD
  have hps : ∀ b ∈ D :: F.priv, b ∈ F.priv ∨ H1 b = none := fun b hb => by
    rcases List.mem_cons.mp hb with e | hb
    · subst e; exact .inr hD
    · exact .inl hb
  have hDp : D ∈ (F.pv (D :: F.priv)).priv := List.mem_cons_self
  refine ⟨fun i m' H2 => m' = xs.length - i ∧ i ≤ xs.length ∧ ∃ A2 s2 acc accV, Stp A1 H1 A2 H2 ∧ RelSt (F.pv (D :: F.priv)) A2 H2 s2 ∧ H2 D = some (.lst accV) ∧ Rps (F.pv (D :: F.priv)) A2 H2 acc accV ∧
    loopA dep (fun x acc s k => wpG G tg x (wipeE env own) s (fun e2 s2 => wpI G it1 e2 s2 (fun xs1 dep1 s3 =>
        loopA dep1 (fun x1 acc1 s k1 => wpG G tg1 x1 (wipeE e2 own1) s (fun e3 s4 => wpE G el e3 s4 (fun y s5 => acc1.length < line ∧ k1 (acc1 ++ [y]) s5) noX) noX) xs1 acc s3 k) noX) noX) (xs.drop i) acc s2 (fun ys s => retM m (.lst ys) s (QLink F A H Q)), ⟨_, rfl, Nat.zero_le _, A1, s1, [], [], Stp.refl.pset hD, r1.priv hD, upd_same, .nil, hl⟩, ?_⟩
  rintro i m' H2 ⟨hm, hi, A2, s2, acc, accV, t2, r2, e2, ra, hl2⟩
  obtain ⟨hdep, hl2⟩ := loopA_at hl2
  rcases hl2 with ⟨hge, q⟩ | ⟨x, hx, hb⟩
  · have : i = xs.length := by omega
    exact .inl ⟨ok.stop _ i A2 H2 s2 hps t2.toq r2 hdep this, lc_done r1 hD t1 t2 r2 e2 ra q⟩
  · have hlt : i < xs.length := (List.getElem?_eq_some_iff.mp hx).1
    refine .inr ⟨ok.go _ i A2 H2 s2 hps t2.toq r2 hdep hlt, _, fun H' hN => hN, fun v H3 hy => ?_⟩
    obtain ⟨d, hd, t3, r3, p3⟩ := ok.yld _ i A2 H2 s2 v H3 hps t2.toq r2 hdep hlt hy
    rw [hx] at hd; cases hd
    have re : EnvR (F.pv (D :: F.priv)) none A2 H2 env σ := (rel.re.stp t1).mp hps t2
    have rel3 : Rel (F.pv (D :: F.priv)) none A2 H3 (wipeE env own) s2 (wipe σ own) := ⟨r3, (re.stp t3).wipe own, trivial⟩
    have nD : D ∉ A2 := (r2.2.1.2 D List.mem_cons_self).1
    refine ⟨A2, wipeE env own, s2, x, rel3, p3, wpG_mono tg x _ _ (fun e4 s4 q4 A4 H4 σ4 t4 rel4 o4 => ⟨wipe_off hsl o4, A4, e4, s4, rel4, wpI_mono it1 e4 s4 (fun xs1 dep1 s5 hl5 A5 H5 J1 t5 r5 ok5 => ?_) (fun _ _ _ _ z => z.elim) q4⟩) (fun _ _ _ _ z => z) hb⟩
    have T5 : Stp A2 H2 A5 H5 := (t3.trans r3 t4).trans rel4.rs t5
    have hpp : ∀ b ∈ D :: F.priv, b ∈ (F.pv (D :: F.priv)).priv ∨ H5 b = none := fun b hb => .inl hb
    have nD5 : D ∉ A5 := (r5.2.1.2 D List.mem_cons_self).1
    have e5 := (T5.out nD e2).2
    have rel5 := rel4.stp t5 r5
    refine ⟨fun j k H6 => k = xs1.length - j ∧ j ≤ xs1.length ∧ ∃ A6 s6 acc6 accV6, Stq (D :: F.priv) A5 H5 A6 H6 ∧ Stp A1 H1 A6 H6 ∧ RelSt (F.pv (D :: F.priv)) A6 H6 s6 ∧ H6 D = some (.lst accV6) ∧ Rps (F.pv (D :: F.priv)) A6 H6 acc6 accV6 ∧
      loopA dep1 (fun x1 acc1 s k1 => wpG G tg1 x1 (wipeE e4 own1) s (fun e3 s4 => wpE G el e3 s4 (fun y s5 => acc1.length < line ∧ k1 (acc1 ++ [y]) s5) noX) noX) (xs1.drop j) acc6 s6 (fun acc' st' => loopA dep (fun x acc s k => wpG G tg x (wipeE env own) s (fun e2 s2 => wpI G it1 e2 s2 (fun xs1 dep1 s3 =>
        loopA dep1 (fun x1 acc1 s k1 => wpG G tg1 x1 (wipeE e2 own1) s (fun e3 s4 => wpE G el e3 s4 (fun y s5 => acc1.length < line ∧ k1 (acc1 ++ [y]) s5) noX) noX) xs1 acc s3 k) noX) noX) (xs.drop (i + 1)) acc' st' (fun ys s => retM m (.lst ys) s (QLink F A H Q))),
      ⟨_, rfl, Nat.zero_le _, A5, s5, acc, accV, Stp.refl.toq, t2.trans r2 T5, r5, e5, ra.stp T5, hl5⟩, ?_⟩
    rintro j k H6 ⟨hk, hj, A6, s6, acc6, accV6, q6, t6, r6, e6, ra6, hl6⟩
    obtain ⟨hdep1, hl6⟩ := loopA_at hl6
    rcases hl6 with ⟨hge, q⟩ | ⟨x1, hx1, hb1⟩
    · have : j = xs1.length := by omega
      exact .inl ⟨ok5.stop (D :: F.priv) j A6 H6 s6 hpp q6 r6 hdep1 this, xs.length - (i + 1), by omega, rfl, by omega, A6, s6, acc6, accV6, t6, r6, e6, ra6, q⟩
    · have hlt1 : j < xs1.length := (List.getElem?_eq_some_iff.mp hx1).1
      refine .inr ⟨ok5.go (D :: F.priv) j A6 H6 s6 hpp q6 r6 hdep1 hlt1, _, fun H' hN => hN, fun v1 H7 hy1 => ?_⟩
      obtain ⟨d1, hd1, t7, r7, p7⟩ := ok5.yld (D :: F.priv) j A6 H6 s6 v1 H7 hpp q6 r6 hdep1 hlt1 hy1
      rw [hx1] at hd1; cases hd1
      have re6 : EnvR (F.pv (D :: F.priv)) none A6 H6 e4 σ4 := EnvR.mpq (F := F.pv (D :: F.priv)) rel5.re hpp q6
      have rel7 : Rel (F.pv (D :: F.priv)) none A6 H7 (wipeE e4 own1) s6 (wipe σ4 own1) := ⟨r7, (re6.stp t7).wipe own1, trivial⟩
      have nD6 : D ∉ A6 := (r6.2.1.2 D List.mem_cons_self).1
      refine ⟨A6, wipeE e4 own1, s6, x1, rel7, p7, wpG_mono tg1 x1 _ _ (fun e8 s8 q8 A8 H8 σ8 t8 rel8 o8 => ⟨wipe_off hsl1 o8, A8, e8, s8, rel8, wpE_mono el e8 s8 (fun y s9 ⟨hl9, q9⟩ A9 H9 v9 t9 r9 p9 => ?_) (fun _ _ _ _ z => z.elim) q8⟩) (fun _ _ _ _ z => z) hb1⟩
      have T9 : Stp A6 H6 A9 H9 := (t7.trans r7 t8).trans rel8.rs t9
      have e9 := (T9.out nD6 e6).2
      exact ⟨accV6, e9, by rw [← ra6.length]; exact hl9, xs1.length - (j + 1), by omega, rfl, by omega, A9, s9, acc6 ++ [y], accV6 ++ [v9], (q6.step r6 T9).pset List.mem_cons_self, (t6.trans r6 T9).pset hD, r9.pupd hDp, upd_same,
        ((ra6.stp T9).append (.cons p9 .nil)).mv (Mv.pupd hDp), q9⟩
theorem sE_lc2 (ih : SndAt P F G n) (ih' : ∀ ps, SndAt P (F.pv ps) G n) {m : Bool} {el tg it tg1 it1 : Expr} {scope : Scope} {pos : Pos} {it' it1' : CI} {tg' tg1' : CG} {el' : CE} (g : Good P F G cx X W u) (hc : cx.calm = true)
    (hb : blkB cx.N cx.sc scope (ownOf cx.N scope.names) = true) (hi : compI P n cx tg it = some it') (hg : compG P n (cx.inner scope) tg = some tg') (hi1 : compI P n (cx.inner scope) tg1 it1 = some it1') (hg1 : compG P n (cx.inner scope) tg1 = some tg1')
    (he : compE P n (cx.inner scope) false el = some el') (hsl : (((slotsG tg').all fun i => ((ownOf cx.N scope.names).map (·.2)).contains i) && ((slotsG tg1').all fun i => ((ownOf cx.N scope.names).map (·.2)).contains i)) = true) :
    PE X (.ListComp el [⟨tg, it, [], 0⟩, ⟨tg1, it1, [], 0⟩] scope pos) (tE F G u W (.comp2 m ((ownOf cx.N scope.names).map (·.2)) (slotsG tg1') tg' it' tg1' it1' el')) := by
  have ok : BlkOk X.N X.env.scope scope (ownOf cx.N scope.names) := by rw [g.N, g.sc]; exact blkOk_of hb
  simp only [Bool.and_eq_true] at hsl
  have mem : ∀ {l : List Nat}, (l.all fun i => ((ownOf cx.N scope.names).map (·.2)).contains i) = true → ∀ i ∈ l, i ∈ (ownOf cx.N scope.names).map (·.2) := fun h i hi => by
    have := List.all_eq_true.mp h i hi
    simpa using this
  refine peImp (pe_lc2 (vs1 := slotsG tg1') (g.calm hc) g.nd (ih.i hi g) ok (mem hsl.2) (g := fun v σ H Q => ∃ ps, tG (F.pv ps) G none tg' v σ H Q) (tt := tYes)
    (wi1 := fun σ H R => ∃ ps, tI (F.pv ps) G none (fun _ _ _ _ => False) it1' σ H R) (g1 := fun v σ H Q => ∃ ps, tG (F.pv ps) G none tg1' v σ H Q) (tt1 := tYes) (te := fun σ H Q => ∃ ps, tE (F.pv ps) G none (fun _ _ _ _ => False) el' σ H Q)
    (fun s H C cl fp => pgEx fun ps => (ih' ps).g hg (g.blk hc ps scope s H C cl fp)) (fun _ _ _ _ _ => pts_nil) (fun s H C cl fp => piEx fun ps => (ih' ps).i hi1 (g.blk hc ps scope s H C cl fp))
    (fun s H C cl fp => pgEx fun ps => (ih' ps).g hg1 (g.blk hc ps scope s H C cl fp)) (fun _ _ _ _ _ => pts_nil)
    (fun s H C cl fp => peEx fun ps => (ih' ps).e he (g.blk hc ps scope s H C cl fp)) (noset hi) (fun env => noset hi1)) fun σ H Q q => ?_
  obtain ⟨R, h1, h2⟩ := lc2_fin (g.nosui hc).1 (mem hsl.1) (fun _ h => h) q
  refine tI_mono h1 fun J H1 hr D hD => ?_
  obtain ⟨Wv, w0, w1⟩ := h2 J H1 hr D hD
  refine ⟨Wv, w0, fun i m H hw => ?_⟩
  rcases w1 i m H hw with h | ⟨h3, Nx, h4, h5⟩
  · exact .inl h
  · refine .inr ⟨h3, Nx, h4, fun x H' hy => ⟨D :: F.priv, ?_⟩⟩
    obtain ⟨A, env, st, d, rel, p, hh⟩ := h5 x H' hy
    refine ⟨A, env, st, d, rel, p, wpG_mono _ _ _ _ (fun e s q A' H' σ' t r o => ?_) (fun _ _ _ _ z => z) hh⟩
    obtain ⟨q1, q2⟩ := q A' H' σ' t r o
    refine ⟨q1, ?_⟩
    simp only [tYes, if_true]
    refine ⟨D :: F.priv, ?_⟩
    refine tI_mono q2 fun J1 H4 ⟨W1, w10, w11⟩ => ⟨W1, w10, fun j k H hw => ?_⟩
    rcases w11 j k H hw with h | ⟨h6, Nx1, h7, h8⟩
    · exact .inl h
    · refine .inr ⟨h6, Nx1, h7, fun x1 H5 hy1 => ⟨D :: F.priv, ?_⟩⟩
      obtain ⟨A, env, st, d, rel, p, hh⟩ := h8 x1 H5 hy1
      refine ⟨A, env, st, d, rel, p, wpG_mono _ _ _ _ (fun e s q A' H' σ' t r o => ?_) (fun _ _ _ _ z => z) hh⟩
      obtain ⟨q1, q2⟩ := q A' H' σ' t r o
      refine ⟨q1, ?_⟩
      exact ⟨D :: F.priv, q2⟩
end
end Mini
end
section
/-! All expressions. -/
namespace Mini
open PySem L2 PySem.Spec PyProof.Rows
section
variable {P : PInfo} {F : Fx} {G : Sg} {cx : CTX} {X : Cx} {W : WX} {u : SuiT} {n : Nat}
theorem sE (ih : ∀ k, k ≤ n → ∀ ps, SndAt P (F.pv ps) G k) {m : Bool} {e : Expr} {c : CE} (h : compE P (n + 1) cx m e = some c) (g : Good P F G cx X W u) : PE X e (tE F G u W c) := by
  have ihn : SndAt P F G n := ih n (Nat.le_refl _) F.priv
  have ih' : ∀ ps, SndAt P (F.pv ps) G n := fun ps => ih n (Nat.le_refl _) ps
  cases e with
  | Name x pos => exact sE_name h g
  | Constant k j pos => exact sE_const h
  | BinOp a op b pos => exact sE_bin ihn h g
  | UnaryOp op a pos =>
    cases op with
    | USub => exact sE_neg ihn h g
    | Not => exact sE_not ihn h g
    | _ => simp [compE] at h
  | BoolOp op vs pos => exact sE_bool ihn h g
  | IfExp c a b pos => exact sE_ite ihn h g
  | Compare a ops cs pos => exact sE_cmp ihn h g
  | Tuple es k pos => exact sE_tuple ihn h g
  | List es pos => exact sE_list ihn h g
  | Dict ks vs pos => exact sE_dict ihn h g
  | Subscript v ix pos => exact sE_sub ihn h g
  | Attribute v f pos => exact sE_attr ihn h g
  | Call f args kws pos =>
    cases f with
    | Name f p => exact sE_callN ihn h g
    | Attribute v f apos =>
      cases kws with
      | nil => exact sE_callA ihn h g
      | cons _ _ => simp [compE] at h
    | _ => simp [compE] at h
  | ListComp el gens scope pos =>
    match gens, h with
    | [⟨tg, it, ifs, 0⟩], h =>
      simp only [compE] at h
      obtain ⟨hb, h⟩ := ifB_some.mp h
      simp only [Bool.and_eq_true] at hb
      obtain ⟨it', hi, h⟩ := Option.bind_eq_some_iff.mp h
      obtain ⟨tg', hg, h⟩ := Option.bind_eq_some_iff.mp h
      obtain ⟨t', ht, h⟩ := Option.bind_eq_some_iff.mp h
      obtain ⟨el', he, h⟩ := Option.bind_eq_some_iff.mp h
      obtain ⟨hsl, h⟩ := ifB_some.mp h
      cases h
      exact sE_lc ihn ih' g hb.1 hb.2 hi hg ht he hsl
    | [⟨tg, it, [], 0⟩, ⟨tg1, it1, [], 0⟩], h =>
      simp only [compE] at h
      obtain ⟨hb, h⟩ := ifB_some.mp h
      simp only [Bool.and_eq_true] at hb
      obtain ⟨it', hi, h⟩ := Option.bind_eq_some_iff.mp h
      obtain ⟨tg', hg, h⟩ := Option.bind_eq_some_iff.mp h
      obtain ⟨it1', hi1, h⟩ := Option.bind_eq_some_iff.mp h
      obtain ⟨tg1', hg1, h⟩ := Option.bind_eq_some_iff.mp h
      obtain ⟨el', he, h⟩ := Option.bind_eq_some_iff.mp h
      obtain ⟨hsl, h⟩ := ifB_some.mp h
      cases h
      exact sE_lc2 ihn ih' g hb.1 hb.2 hi hg hi1 hg1 he hsl
  | DictComp ke ve gens scope pos =>
    match gens, h with
    | [⟨tg, it, [], 0⟩], h =>
      simp only [compE] at h
      obtain ⟨hb, h⟩ := ifB_some.mp h
      simp only [Bool.and_eq_true] at hb
      obtain ⟨it', hi, h⟩ := Option.bind_eq_some_iff.mp h
      obtain ⟨tg', hg, h⟩ := Option.bind_eq_some_iff.mp h
      obtain ⟨k', hk, h⟩ := Option.bind_eq_some_iff.mp h
      obtain ⟨v', hv, h⟩ := Option.bind_eq_some_iff.mp h
      obtain ⟨hsl, h⟩ := ifB_some.mp h
      cases h
      exact sE_dc ihn ih' g hb.1 hb.2 hi hg hk hv hsl
  | _ => simp [compE] at h
theorem snd_zero : SndAt P F G 0 :=
  ⟨fun h => by simp [compE] at h, fun h => by simp [compT] at h, fun h => by simp [compO] at h, fun h => by simp [compI] at h, fun h => by simp [compG] at h, fun h => by simp [compGs] at h⟩
theorem snd_all (P : PInfo) (F : Fx) (G : Sg) : ∀ n k, k ≤ n → ∀ ps, SndAt P (F.pv ps) G k := by
  intro n
  induction n with
  | zero =>
    intro k hk ps
    obtain rfl : k = 0 := by omega
    exact snd_zero
  | succ n ih =>
    intro k hk ps
    by_cases h : k ≤ n
    · exact ih k h ps
    · obtain rfl : k = n + 1 := by omega
      have ih1 : ∀ j, j ≤ n → ∀ qs, SndAt P ((F.pv ps).pv qs) G j := fun j hj qs => ih j hj qs
      have ih0 : ∀ j, j ≤ n → SndAt P (F.pv ps) G j := fun j hj => ih j hj ps
      exact ⟨fun h g => sE ih1 h g, fun h g => sT ih0 h g, fun h g => sO (ih0 n (Nat.le_refl _)) h g, fun h g => sI (ih0 n (Nat.le_refl _)) h g, fun h g => sG (ih0 n (Nat.le_refl _)) h g, fun h g => sGs (ih0 n (Nat.le_refl _)) h g⟩
theorem snd (P : PInfo) (F : Fx) (G : Sg) (n : Nat) : SndAt P F G n := snd_all P F G n n (Nat.le_refl _) F.priv
end
end Mini
end
section
/-! The small language, run. -/
namespace Mini
open PySem

inductive Res (α : Type) where
  | ok (a : α) (s : Sto)
  | exc (C : Str) (fs : List Str) (xs : List D) (s : Sto)
  | bad
def Res.bind {α β : Type} : Res α → (α → Sto → Res β) → Res β
  | .ok a s, f => f a s
  | .exc C fs xs s, _ => .exc C fs xs s
  | .bad, _ => .bad
def Res.nox {α : Type} : Res α → Res α
  | .ok a s => .ok a s
  | _ => .bad
def Res.opt {α : Type} (o : Option α) (s : Sto) : Res α := match o with
  | some a => .ok a s
  | none => .bad
def retR (m : Bool) (d : D) (st : Sto) : Res D := match m, d with
  | true, .lst xs => .ok (.ref st.length) (st ++ [.lst xs])
  | true, .dct ks xs => .ok (.ref st.length) (st ++ [.dct ks xs])
  | _, d => .ok d st
/-! equal as trees -/
mutual
def sameD : D → D → Bool
  | .non, .non => true
  | .bl a, .bl b => a == b
  | .int a, .int b => a == b
  | .str a, .str b => a == b
  | .tup a, .tup b => sameDs a b
  | .lst a, .lst b => sameDs a b
  | .dct a b, .dct c d => sameDs a c && sameDs b d
  | .ins C f a, .ins E g b => C == E && f == g && sameDs a b
  | .exc C f a, .exc E g b => C == E && f == g && sameDs a b
  | .ref a, .ref b => a == b
  | .scr a, .scr b => a == b
  | _, _ => false
def sameDs : List D → List D → Bool
  | [], [] => true
  | a :: as, b :: bs => sameD a b && sameDs as bs
  | _, _ => false
end
mutual
theorem sameD_eq : ∀ {a b : D}, sameD a b = true → a = b := fun {a b} h => by
  cases a <;> cases b <;> simp only [sameD, Bool.and_eq_true, beq_iff_eq, reduceCtorEq] at h <;> first
    | rfl
    | (exact absurd h (by decide))
    | (subst h; rfl)
    | (rw [sameDs_eq h])
    | (rw [sameDs_eq h.1, sameDs_eq h.2])
    | (obtain ⟨⟨h1, h2⟩, h3⟩ := h; rw [h1, h2, sameDs_eq h3])
theorem sameDs_eq : ∀ {a b : List D}, sameDs a b = true → a = b
  | [], [], _ => rfl
  | [], _ :: _, h => by simp [sameDs] at h
  | _ :: _, [], h => by simp [sameDs] at h
  | a :: as, b :: bs, h => by
    simp only [sameDs, Bool.and_eq_true] at h
    rw [sameD_eq h.1, sameDs_eq h.2]
end
/-- what is walked still stands -/
def depB (d : D) (xs : List D) (s : Sto) : Bool := match d with
  | .ref k => (match s[k]? with
    | some (.lst ys) => sameDs ys xs
    | _ => false)
  | _ => true
theorem depB_ok {d : D} {xs : List D} {s : Sto} (h : depB d xs s = true) : depL d xs s := by
  unfold depB at h
  unfold depL
  cases d with
  | ref k =>
    simp only at h ⊢
    split at h
    · rename_i ys e
      rw [e, sameDs_eq h]
    · cases h
  | _ => trivial
/-- a comprehension's turns -/
def loopR (dep : Sto → Bool) (body : D → List D → Sto → Res (List D)) : List D → List D → Sto → Res (List D)
  | [], acc, st => if dep st then .ok acc st else .bad
  | x :: r, acc, st => if dep st then (body x acc st).bind fun a s => loopR dep body r a s else .bad
def optB {α : Type} (o : Option Bool) (f : Bool → Res α) : Res α := match o with
  | some b => f b
  | none => .bad
section
variable (call : Str → List D → Sto → Res D) (sub : Str → Str → Bool)
def blR : D → Sto → (Bool → Sto → Res D) → Res D
  | .bl b, s, f => f b s
  | _, _, _ => .bad
def evC (cls : List Str) (op : COp) (x y : D) (st : Sto) : Res D :=
  match op with
  | .eq => (match asI st x with
    | some (C, _, _) => if cls.contains C && (kdOf st y).isSome then (call (C ++ ".__eq__") [x, y] st).nox.bind fun d s => blR d s fun b s => .ok (.bl b) s else .bad
    | none => optB (cmpD st .eq x y) fun b => .ok (.bl b) st)
  | .ne => (match asI st x with
    | some (C, _, _) => if cls.contains C && (kdOf st y).isSome then (call (C ++ ".__eq__") [x, y] st).nox.bind fun d s => blR d s fun b s => .ok (.bl (!b)) s else .bad
    | none => optB (cmpD st .ne x y) fun b => .ok (.bl b) st)
  | op => optB (cmpD st op x y) fun b => .ok (.bl b) st
def evM (b : MT) (o : D) (ds : List D) (st : Sto) : Res D :=
  match b, ds with
  | .append, [v] => (match o with
    | .ref k => (match st[k]? with
      | some (.lst xs) => if xs.length < line then .ok .non (st.set k (.lst (xs ++ [v]))) else .bad
      | _ => .bad)
    | _ => .bad)
  | .extend, [v] => (match o with
    | .ref k => (match st[k]?, asL st v with
      | some (.lst xs), some zs => if xs.length + zs.length ≤ line then .ok .non (st.set k (.lst (xs ++ zs))) else .bad
      | _, _ => .bad)
    | _ => .bad)
  | .pop, [] => (match o with
    | .ref k => (match st[k]? with
      | some (.lst xs) => (match xs.getLast? with
        | some y => .ok y (st.set k (.lst xs.dropLast))
        | none => .bad)
      | _ => .bad)
    | _ => .bad)
  | .reverse, [] => (match o with
    | .ref k => (match st[k]? with
      | some (.lst xs) => .ok .non (st.set k (.lst xs.reverse))
      | _ => .bad)
    | _ => .bad)
  | .index, [v] => (match asL st o with
    | some xs => if isFlat v && xs.all isFlat then (match xs.findIdx? (fun z => eqF z v) with
        | some j => .ok (.int ((j : Nat) : Int)) st
        | none => .bad) else .bad
    | none => .bad)
  | .get, [k, d] => (match asC st o with
    | some (ks, xs) => if keyOk ks k then .ok ((lookD ks xs k).getD d) st else .bad
    | none => .bad)
  | .split, [v] => (match o, v with
    | .str a, .str b => if !(b.length == 0) && decide (a.length + 2 ≤ 16777216) then .ok (.lst ((Txt.split a b).map .str)) st else .bad
    | _, _ => .bad)
  | .join, [v] => (match o, asS st v with
    | .str a, some xs => (match strsD xs with
      | some ss => if decide ((ss.map (·.length)).sum + ss.length * a.length ≤ 16777216) then .ok (.str (Txt.join a ss)) st else .bad
      | none => .bad)
    | _, _ => .bad)
  | .strip, [v] => (match o, v with
    | .str a, .str b => if a.length ≤ 16777216 then .ok (.str (Txt.stripChars a b)) st else .bad
    | _, _ => .bad)
  | _, _ => .bad
def setFR (o : D) (f : Str) (v : D) (st : Sto) (env : Env) : Res Env := match o with
  | .ref k => (match st[k]? with
    | some (.ins C fs xs) => if fs.length < 900 then .ok env (st.set k (.ins C (putF fs xs f v).1 (putF fs xs f v).2)) else .bad
    | _ => .bad)
  | _ => .bad
def setIR (o i v : D) (st : Sto) (env : Env) : Res Env := match o with
  | .ref k => (match st[k]?, i with
    | some (.lst xs), .int j => (match plc xs.length j with
      | some n => .ok env (st.set k (.lst (xs.set n v)))
      | none => .bad)
    | some (.dct ks xs), i => if keyOk ks i && decide (ks.length < line) then .ok env (st.set k (.dct (putD ks xs i v).1 (putD ks xs i v).2)) else .bad
    | _, _ => .bad)
  | _ => .bad
def pairB : List D → Bool
  | [] => true
  | a :: r => r.all (fun b => !keyB a b) && pairB r
mutual
def evE : CE → Env → Sto → Res D
  | .var i, env, st => (match env[i]? with
    | some (some d) => .ok d st
    | _ => .bad)
  | .cst d, _, st => .ok d st
  | .glb _ d, _, st => .ok d st
  | .bin m op a b, env, st => (evE a env st).bind fun x s1 => (evE b env s1).bind fun y s2 => (match binD s2 op x y with
    | some d => retR m d s2
    | none => .bad)
  | .neg a, env, st => (evE a env st).bind fun x s1 => (match x with
    | .int i => .ok (.int (-i)) s1
    | _ => .bad)
  | .cmp cls op a b, env, st => (evE a env st).bind fun x s1 => (evE b env s1).bind fun y s2 => evC call cls op x y s2
  | .chn o1 o2 a b c, env, st => (evE a env st).bind fun x s1 => (evE b env s1).bind fun y s2 => optB (cmpD s2 o1 x y) fun k => (match k with
    | true => (evE c env s2).bind fun z s3 => optB (cmpD s3 o2 y z) fun k2 => .ok (.bl k2) s3
    | false => .ok (.bl false) s2)
  | .and_ a b, env, st => (evE a env st).bind fun x s1 => (match x with
    | .bl true => evE b env s1
    | .bl false => .ok (.bl false) s1
    | _ => .bad)
  | .or_ a b, env, st => (evE a env st).bind fun x s1 => (match x with
    | .bl true => .ok (.bl true) s1
    | .bl false => evE b env s1
    | _ => .bad)
  | .not_ a, env, st => (evE a env st).bind fun x s1 => blR x s1 fun b s => .ok (.bl (!b)) s
  | .ite c a b, env, st => (evE c env st).bind fun x s1 => (match x with
    | .bl true => evE a env s1
    | .bl false => evE b env s1
    | _ => .bad)
  | .tup es, env, st => (evEs es env st).bind fun ds s1 => if ds.length ≤ line then .ok (.tup ds) s1 else .bad
  | .lst m es, env, st => (evEs es env st).bind fun ds s1 => if ds.length ≤ line then retR m (.lst ds) s1 else .bad
  | .dct m .nil, _, st => retR m (.dct [] []) st
  | .dct m es, env, st => (match m with
    | true => (evEs es env (st ++ [.dct [] []])).bind fun ds s => (match s[st.length]? with
      | some (.dct [] []) => if decide ((evens ds).length ≤ 15) && (evens ds).all leafK && pairB (evens ds) then .ok (.ref st.length) (s.set st.length (.dct (evens ds) (odds ds))) else .bad
      | _ => .bad)
    | false => .bad)
  | .idx a b, env, st => (evE a env st).bind fun x s1 => (evE b env s1).bind fun y s2 => .opt (idxD s2 x y) s2
  | .slc m a lo hi, env, st => (evE a env st).bind fun x s1 => (evE lo env s1).bind fun l s2 => (match optI l with
    | some l' => (evE hi env s2).bind fun h s3 => (match optI h with
      | some h' => (match slcD s3 x l' h' with
        | some d => retR m d s3
        | none => .bad)
      | none => .bad)
    | none => .bad)
  | .rev m a, env, st => (evE a env st).bind fun x s1 => (match revD s1 x with
    | some d => retR m d s1
    | none => .bad)
  | .fld a f, env, st => (evE a env st).bind fun x s1 => .opt (fldD s1 x f) s1
  | .prp q a, env, st => (evE a env st).bind fun x s1 => (call q [x] s1).nox
  | .call f es, env, st => (evEs es env st).bind fun ds s1 => call f ds s1
  | .callk f es k e, env, st => (evEs es env st).bind fun ds s1 => (evE e env s1).bind fun d s2 => call f (ds ++ [d]) s2
  | .make C es, env, st => (evEs es env st).bind fun ds s1 => call C ds s1
  | .bi m b es, env, st => (evEs es env st).bind fun ds s1 => (match biD s1 b ds with
    | some d => retR m d s1
    | none => .bad)
  | .isi a ts, env, st => (evE a env st).bind fun x s1 => (match kdOf s1 x with
    | some k => .ok (.bl (ts.any fun t => isK sub t k)) s1
    | none => .bad)
  | .mt b a es, env, st => (evE a env st).bind fun x s1 => if tyM b x s1 then (evEs es env s1).bind fun ds s2 => evM b x ds s2 else .bad
  | .mc C m q a es, env, st => (evE a env st).bind fun x s1 => (match asI s1 x with
    | some (E, fs, _) => if C == E && !fs.contains m then (evEs es env s1).bind fun ds s2 => call q (x :: ds) s2 else .bad
    | none => .bad)
  | .comp m own tg it t el, env, st => (evI it env st).bind fun xd s1 =>
      (loopR xd.2 (fun x acc s => ((evG tg x (wipeE env own) s).bind fun e2 s2 => (evE t e2 s2).bind fun b s3 => (match b with
        | .bl true => (evE el e2 s3).bind fun y s4 => if acc.length < line then .ok (acc ++ [y]) s4 else .bad
        | .bl false => .ok acc s3
        | _ => .bad)).nox) xd.1 [] s1).bind fun ys s => retR m (.lst ys) s
  | .comp2 m own own1 tg it tg1 it1 el, env, st => (evI it env st).bind fun xd s1 =>
      (loopR xd.2 (fun x acc s => ((evG tg x (wipeE env own) s).bind fun e2 s2 => (evI it1 e2 s2).bind fun xd1 s3 =>
        loopR xd1.2 (fun x1 acc1 s => (evG tg1 x1 (wipeE e2 own1) s).bind fun e3 s4 => (evE el e3 s4).bind fun y s5 => if acc1.length < line then .ok (acc1 ++ [y]) s5 else .bad) xd1.1 acc s3).nox) xd.1 [] s1).bind fun ys s => retR m (.lst ys) s
  | .dcomp m own tg it ke ve, env, st => (evI it env st).bind fun xd s1 =>
      (loopR xd.2 (fun x acc s => ((evG tg x (wipeE env own) s).bind fun e2 s2 => (evE ke e2 s2).bind fun a s3 => (evE ve e2 s3).bind fun b s4 =>
          if keyOk (keysOf acc) a && (keysOf acc).all (fun j => !keyB j a) && decide (acc.length < line) then .ok (acc ++ [.tup [a, b]]) s4 else .bad).nox) xd.1 [] s1).bind fun ys s => retR m (.dct (keysOf ys) (valsOf ys)) s
  | .exf i f, env, st => (match env[i]? with
    | some (some (.exc _ fs xs)) => .opt (lookF fs xs f) st
    | _ => .bad)
  | .exi i E, env, st => (match env[i]? with
    | some (some (.exc C _ _)) => .ok (.bl (sub C E)) st
    | _ => .bad)
  | .noe, _, st => .ok .non st
def evEs : CEs → Env → Sto → Res (List D)
  | .nil, _, st => .ok [] st
  | .cons e es, env, st => (evE e env st).bind fun d s1 => (evEs es env s1).bind fun ds s2 => .ok (d :: ds) s2
  | .star e es, env, st => (evE e env st).bind fun d s1 => (match asSK s1 d with
    | some xs => (evEs es env s1).bind fun ds s2 => .ok (xs ++ ds) s2
    | none => .bad)
def evI : CI → Env → Sto → Res (List D × (Sto → Bool))
  | .val a, env, st => (evE a env st).bind fun d s1 => (match asS s1 d with
    | some xs => .ok (xs, depB d xs) s1
    | none => .bad)
  | .rng a b, env, st => (evE a env st).bind fun x s1 => (evE b env s1).bind fun y s2 => (match x, y with
    | .int i, .int j => if decide (-(2 ^ 62) ≤ i) && decide (i < 2 ^ 62) && decide (-(2 ^ 62) ≤ j) && decide (j < 2 ^ 62) then .ok (rngD i j, fun _ => true) s2 else .bad
    | _, _ => .bad)
  | .enm a, env, st => (evE a env st).bind fun d s1 => (match asS s1 d with
    | some xs => .ok (enmD 0 xs, depB d xs) s1
    | none => .bad)
  | .zip a b, env, st => (evE a env st).bind fun d s1 => (evE b env s1).bind fun c s2 => (match asS s2 d, asS s2 c with
    | some xs, some ys => .ok (zipD xs ys, fun s => depB d xs s && depB c ys s) s2
    | _, _ => .bad)
  | .itm a, env, st => (evE a env st).bind fun d s1 => (match d with
    | .dct ks xs => .ok (zipD ks xs, fun _ => true) s1
    | _ => .bad)
def evG : CG → D → Env → Sto → Res Env
  | .name i, d, env, st => if i < env.length then .ok (env.set i (some d)) st else .bad
  | .tup gs, d, env, st => (match asS st d with
    | some xs => if xs.length = lenGs gs then evGs gs xs env st else .bad
    | none => .bad)
  | .fld a f, d, env, st => (evE a env st).bind fun o s1 => setFR o f d s1 env
  | .sub a b, d, env, st => (evE a env st).bind fun o s1 => (evE b env s1).bind fun i s2 => setIR o i d s2 env
def evGs : CGs → List D → Env → Sto → Res Env
  | .nil, xs, env, st => (match xs with
    | [] => .ok env st
    | _ => .bad)
  | .cons g gs, xs, env, st => (match xs with
    | y :: r => (evG g y env st).bind fun e s => evGs gs r e s
    | [] => .bad)
end
end
/-! statements -/
inductive Fl where
  | nx (e : Env) (s : Sto)
  | rt (d : D) (s : Sto)
  | ex (e : Env) (C : Str) (fs : List Str) (xs : List D) (s : Sto)
  | bad
def Res.fl {α : Type} (r : Res α) (e : Env) (f : α → Sto → Fl) : Fl := match r with
  | .ok a s => f a s
  | .exc C fs xs s => .ex e C fs xs s
  | .bad => .bad
def Fl.bind (r : Fl) (f : Env → Sto → Fl) : Fl := match r with
  | .nx e s => f e s
  | r => r
def loopS (dep : Sto → Bool) (body : D → Env → Sto → Fl) : List D → Env → Sto → Fl
  | [], env, st => if dep st then .nx env st else .bad
  | x :: r, env, st => if dep st then (body x env st).bind fun e s => loopS dep body r e s else .bad
def whlS (test : Env → Sto → Res D) (body : Env → Sto → Fl) : Nat → Env → Sto → Fl
  | 0, _, _ => .bad
  | n + 1, e, s => (test e s).fl e fun x s1 => (match x with
    | .bl true => (body e s1).bind fun e2 s2 => whlS test body n e2 s2
    | .bl false => .nx e s1
    | _ => .bad)
section
variable (call : Str → List D → Sto → Res D) (sub : Str → Str → Bool) (efs : Str → List Str) (wf : Nat)
mutual
def evS : CS → Env → Sto → Fl
  | .asg g e, env, st => (evE call sub e env st).fl env fun d s1 => (evG call sub g d env s1).nox.fl env fun e s => .nx e s
  | .aug i op e, env, st => (match env[i]? with
    | some (some (.int a)) => (evE call sub e env st).fl env fun y s1 => (match y with
      | .int b => (match binD s1 op (.int a) (.int b) with
        | some d => .nx (env.set i (some d)) s1
        | none => .bad)
      | _ => .bad)
    | _ => .bad)
  | .augf a f op e, env, st => .bad
  | .exp e, env, st => (evE call sub e env st).fl env fun _ s1 => .nx env s1
  | .iff c a b, env, st => (evE call sub c env st).fl env fun x s1 => (match x with
    | .bl true => evSs a env s1
    | .bl false => evSs b env s1
    | _ => .bad)
  | .forr g it b, env, st => (evI call sub it env st).fl env fun xd s1 => loopS xd.2 (fun x e s => (evG call sub g x e s).nox.fl e fun e2 s2 => evSs b e2 s2) xd.1 env s1
  | .whl c b, env, st => whlS (evE call sub c) (evSs b) wf env st
  | .ret e, env, st => (evE call sub e env st).fl env fun d s => .rt d s
  | .retn, _, st => .rt .non st
  | .raise C es, env, st => (evEs call sub es env st).fl env fun ds s1 => if excOk ds && ds.length == (efs C).length then .ex env C (efs C) ds s1 else .bad
  | .tr b hs, env, st => (match evSs b env st with
    | .ex e C fs xs s => evHs hs C fs xs e s
    | r => r)
  | .pass, env, st => .nx env st
  | .gh, env, st => .nx env st
  | .nev, _, _ => .bad
def evSs : CSs → Env → Sto → Fl
  | .nil, env, st => .nx env st
  | .cons s ss, env, st => (evS s env st).bind fun e s' => evSs ss e s'
def evHs : CHs → Str → List Str → List D → Env → Sto → Fl
  | .nil, C, fs, xs, env, st => .ex env C fs xs st
  | .cons C' i b r, C, fs, xs, env, st => if sub C C' then (if i < env.length then (match evSs b (env.set i (some (.exc C fs xs))) st with
      | .nx e s => .nx (e.set i none) s
      | .rt d s => .rt d s
      | _ => .bad) else .bad) else evHs r C fs xs env st
end
end
end Mini
end
section
/-! What the run gives, the predicate transformers say. -/
namespace Mini
open PySem
def Res.sat {α : Type} (r : Res α) (Q : α → Sto → Prop) (X : XP) : Prop := match r with
  | .ok a s => Q a s
  | .exc C fs xs s => X C fs xs s
  | .bad => False
theorem Res.sat_bind {α β : Type} {r : Res α} {f : α → Sto → Res β} {Q : β → Sto → Prop} {X : XP} (h : (r.bind f).sat Q X) : r.sat (fun a s => (f a s).sat Q X) X := by
  cases r <;> exact h
theorem Res.sat_nox {α : Type} {r : Res α} {Q : α → Sto → Prop} {X Y : XP} (h : r.nox.sat Q X) : r.sat Q Y := by
  cases r with
  | ok a s => exact h
  | exc C fs xs s => exact h.elim
  | bad => exact h.elim
theorem Res.sat_mono {α : Type} {r : Res α} {Q Q' : α → Sto → Prop} {X X' : XP} (h : r.sat Q X) (hq : ∀ a s, Q a s → Q' a s) (hx : ∀ C f x s, X C f x s → X' C f x s) : r.sat Q' X' := by
  cases r with
  | ok a s => exact hq _ _ h
  | exc C fs xs s => exact hx _ _ _ _ h
  | bad => exact h
theorem Res.sat_opt {α : Type} {o : Option α} {s : Sto} {Q : α → Sto → Prop} {X : XP} (h : (Res.opt o s).sat Q X) : ∃ a, o = some a ∧ Q a s := by
  cases o with
  | none => exact h.elim
  | some a => exact ⟨a, rfl, h⟩
theorem retR_sat {m : Bool} {d : D} {st : Sto} {Q : QD} {X : XP} (h : (retR m d st).sat Q X) : retM m d st Q := by
  cases m with
  | false => exact h
  | true => cases d <;> exact h
theorem optB_sat {α : Type} {o : Option Bool} {f : Bool → Res α} {Q : α → Sto → Prop} {X : XP} (h : (optB o f).sat Q X) : ∃ b, o = some b ∧ (f b).sat Q X := by
  cases o with
  | none => exact h.elim
  | some b => exact ⟨b, rfl, h⟩
theorem blR_sat {d : D} {s : Sto} {f : Bool → Sto → Res D} {Q : QD} {X : XP} (h : (blR d s f).sat Q X) : ∃ b, d = .bl b ∧ (f b s).sat Q X := by
  cases d <;> first | exact h.elim | exact ⟨_, rfl, h⟩
theorem pairB_ok : ∀ {l : List D}, pairB l = true → l.Pairwise (fun a b => keyB a b = false)
  | [], _ => .nil
  | a :: r, h => by
    simp only [pairB, Bool.and_eq_true, List.all_eq_true, Bool.not_eq_true'] at h
    exact .cons h.1 (pairB_ok h.2)
theorem loopR_sat {dep : Sto → Bool} {depP : Sto → Prop} (hd : ∀ s, dep s = true → depP s) {body : D → List D → Sto → Res (List D)} {bodyP : D → List D → Sto → (List D → Sto → Prop) → Prop} {X : XP}
    (hb : ∀ x acc s k, (body x acc s).sat k X → bodyP x acc s k) : ∀ {xs acc : List D} {st : Sto} {Q : List D → Sto → Prop}, (loopR dep body xs acc st).sat Q X → loopA depP bodyP xs acc st Q
  | [], acc, st, Q, h => by
    unfold loopR at h
    split at h
    · rename_i c; exact ⟨hd _ c, h⟩
    · exact h.elim
  | x :: r, acc, st, Q, h => by
    unfold loopR at h
    split at h
    · rename_i c
      exact ⟨hd _ c, hb _ _ _ _ (Res.sat_mono (Res.sat_bind h) (fun a s q => loopR_sat hd hb q) fun _ _ _ _ z => z)⟩
    · exact h.elim
section
variable {G : Sg} {call : Str → List D → Sto → Res D}
def CallOk (G : Sg) (call : Str → List D → Sto → Res D) : Prop := ∀ f ds st Q X, (call f ds st).sat Q X → Clo (G.Gm f) ds st Q X
theorem evC_sat (hc : CallOk G call) {cls : List Str} {op : COp} {x y : D} {st : Sto} {Q : QD} {X : XP} (h : (evC call cls op x y st).sat Q X) : wpC G cls op x y st Q X := by
  unfold evC at h
  unfold wpC
  cases op <;> simp only at h ⊢
  case eq =>
    cases e : asI st x with
    | none => rw [e] at h; exact optB_sat h
    | some p =>
      obtain ⟨C, a, b⟩ := p
      rw [e] at h
      simp only at h ⊢
      split at h
      · rename_i c
        simp only [Bool.and_eq_true, List.contains_iff_mem] at c
        refine ⟨by simpa using c.1, c.2, hc _ _ _ _ _ (Res.sat_nox (X := X) ?_)⟩
        refine Res.sat_mono (Res.sat_bind h) (fun d s q => blR_sat q) fun _ _ _ _ z => z
      · exact h.elim
  case ne =>
    cases e : asI st x with
    | none => rw [e] at h; exact optB_sat h
    | some p =>
      obtain ⟨C, a, b⟩ := p
      rw [e] at h
      simp only at h ⊢
      split at h
      · rename_i c
        simp only [Bool.and_eq_true, List.contains_iff_mem] at c
        refine ⟨by simpa using c.1, c.2, hc _ _ _ _ _ (Res.sat_nox (X := X) ?_)⟩
        refine Res.sat_mono (Res.sat_bind h) (fun d s q => blR_sat q) fun _ _ _ _ z => z
      · exact h.elim
  all_goals exact optB_sat h
theorem evM_sat {b : MT} {o : D} {ds : List D} {st : Sto} {Q : QD} {X : XP} (h : (evM b o ds st).sat Q X) : wpM b o ds st Q := by
  unfold evM at h
  split at h
  · split at h
    · split at h
      · split at h
        · rename_i xs e l
          exact ⟨_, xs, rfl, e, l, h⟩
        · exact h.elim
      · exact h.elim
    · exact h.elim
  · split at h
    · split at h
      · split at h
        · rename_i xs zs e1 e2 l
          exact ⟨_, xs, zs, rfl, e1, e2, l, h⟩
        · exact h.elim
      · exact h.elim
    · exact h.elim
  · split at h
    · split at h
      · split at h
        · rename_i xs e1 _ y e2
          exact ⟨_, xs, y, rfl, e1, e2, h⟩
        · exact h.elim
      · exact h.elim
    · exact h.elim
  · split at h
    · split at h
      · rename_i xs e1
        exact ⟨_, xs, rfl, e1, h⟩
      · exact h.elim
    · exact h.elim
  · split at h
    · rename_i xs e
      split at h
      · rename_i c
        simp only [Bool.and_eq_true] at c
        split at h
        · rename_i j ej
          exact ⟨xs, j, e, c.1, c.2, ej, h⟩
        · exact h.elim
      · exact h.elim
    · exact h.elim
  · split at h
    · rename_i ks xs e
      split at h
      · rename_i c
        exact ⟨ks, xs, e, c, h⟩
      · exact h.elim
    · exact h.elim
  · split at h
    · split at h
      · rename_i c
        simp only [Bool.and_eq_true, decide_eq_true_eq, Bool.not_eq_true'] at c
        exact ⟨_, _, rfl, rfl, c.1, c.2, h⟩
      · exact h.elim
    · exact h.elim
  · split at h
    · rename_i e1
      split at h
      · rename_i ss e2
        split at h
        · rename_i c
          simp only [decide_eq_true_eq] at c
          exact ⟨_, _, ss, rfl, e1, e2, c, h⟩
        · exact h.elim
      · exact h.elim
    · exact h.elim
  · split at h
    · split at h
      · rename_i c
        exact ⟨_, _, rfl, rfl, c, h⟩
      · exact h.elim
    · exact h.elim
  · exact h.elim
theorem setFR_sat {o : D} {f : Str} {v : D} {st : Sto} {env : Env} {Q : Env → Sto → Prop} {X : XP} (h : (setFR o f v st env).sat Q X) : setF o f v st (Q env) := by
  unfold setFR at h
  split at h
  · split at h
    · split at h
      · rename_i C fs xs e l
        exact ⟨_, C, fs, xs, rfl, e, l, h⟩
      · exact h.elim
    · exact h.elim
  · exact h.elim
theorem setIR_sat {o i v : D} {st : Sto} {env : Env} {Q : Env → Sto → Prop} {X : XP} (h : (setIR o i v st env).sat Q X) : setI o i v st (Q env) := by
  unfold setIR at h
  unfold setI
  split at h
  · rename_i k
    try simp only
    split at h
    · rename_i xs j e
      try rw [e]
      try simp only
      split at h
      · rename_i n en
        exact ⟨n, en, h⟩
      · exact h.elim
    · rename_i ks xs i' e
      try rw [e]
      try simp only
      split at h
      · rename_i c
        simp only [Bool.and_eq_true, decide_eq_true_eq] at c
        exact ⟨c.1, c.2, h⟩
      · exact h.elim
    · exact h.elim
  · exact h.elim
theorem nox_mono {α : Type} {r : Res α} {k : α → Sto → Prop} {Y : XP} (h : r.nox.sat k Y) : r.nox.sat k noX := by
  cases r <;> exact h
mutual
theorem evE_sat (hc : CallOk G call) : ∀ (e : CE) (env : Env) (st : Sto) {Q : QD} {X : XP}, (evE call G.sub e env st).sat Q X → wpE G e env st Q X
  | .var i, env, st, Q, X, h => by
    unfold evE at h; unfold wpE
    split at h
    · rename_i d e; exact ⟨d, e, h⟩
    · exact h.elim
  | .cst d, env, st, Q, X, h => by unfold evE at h; unfold wpE; exact h
  | .glb x d, env, st, Q, X, h => by unfold evE at h; unfold wpE; exact h
  | .bin m op a b, env, st, Q, X, h => by
    unfold evE at h; unfold wpE
    refine wpE_mono a env st (fun x s1 q => wpE_mono b env s1 (fun y s2 q => ?_) (fun _ _ _ _ z => z) (evE_sat hc b env s1 (Res.sat_bind q))) (fun _ _ _ _ z => z) (evE_sat hc a env st (Res.sat_bind h))
    split at q
    · rename_i d e; exact ⟨d, e, retR_sat q⟩
    · exact q.elim
  | .neg a, env, st, Q, X, h => by
    unfold evE at h; unfold wpE
    refine wpE_mono a env st (fun x s1 q => ?_) (fun _ _ _ _ z => z) (evE_sat hc a env st (Res.sat_bind h))
    split at q
    · rename_i i; exact ⟨i, rfl, q⟩
    · exact q.elim
  | .cmp cls op a b, env, st, Q, X, h => by
    unfold evE at h; unfold wpE
    exact wpE_mono a env st (fun x s1 q => wpE_mono b env s1 (fun y s2 q => evC_sat hc q) (fun _ _ _ _ z => z) (evE_sat hc b env s1 (Res.sat_bind q))) (fun _ _ _ _ z => z) (evE_sat hc a env st (Res.sat_bind h))
  | .chn o1 o2 a b c, env, st, Q, X, h => by
    unfold evE at h; unfold wpE
    refine wpE_mono a env st (fun x s1 q => wpE_mono b env s1 (fun y s2 q => ?_) (fun _ _ _ _ z => z) (evE_sat hc b env s1 (Res.sat_bind q))) (fun _ _ _ _ z => z) (evE_sat hc a env st (Res.sat_bind h))
    obtain ⟨k, ek, q⟩ := optB_sat q
    refine ⟨k, ek, ?_⟩
    cases k with
    | true => exact wpE_mono c env s2 (fun z s3 q => optB_sat q) (fun _ _ _ _ z => z) (evE_sat hc c env s2 (Res.sat_bind q))
    | false => exact q
  | .and_ a b, env, st, Q, X, h => by
    unfold evE at h; unfold wpE
    refine wpE_mono a env st (fun x s1 q => ?_) (fun _ _ _ _ z => z) (evE_sat hc a env st (Res.sat_bind h))
    split at q
    · exact ⟨true, rfl, evE_sat hc b env s1 q⟩
    · exact ⟨false, rfl, q⟩
    · exact q.elim
  | .or_ a b, env, st, Q, X, h => by
    unfold evE at h; unfold wpE
    refine wpE_mono a env st (fun x s1 q => ?_) (fun _ _ _ _ z => z) (evE_sat hc a env st (Res.sat_bind h))
    split at q
    · exact ⟨true, rfl, q⟩
    · exact ⟨false, rfl, evE_sat hc b env s1 q⟩
    · exact q.elim
  | .not_ a, env, st, Q, X, h => by
    unfold evE at h; unfold wpE
    refine wpE_mono a env st (fun x s1 q => blR_sat q) (fun _ _ _ _ z => z) (evE_sat hc a env st (Res.sat_bind h))
  | .ite c a b, env, st, Q, X, h => by
    unfold evE at h; unfold wpE
    refine wpE_mono c env st (fun x s1 q => ?_) (fun _ _ _ _ z => z) (evE_sat hc c env st (Res.sat_bind h))
    split at q
    · exact ⟨true, rfl, evE_sat hc a env s1 q⟩
    · exact ⟨false, rfl, evE_sat hc b env s1 q⟩
    · exact q.elim
  | .tup es, env, st, Q, X, h => by
    unfold evE at h; unfold wpE
    refine wpEs_mono es env st (fun ds s1 q => ?_) (fun _ _ _ _ z => z) (evEs_sat hc es env st (Res.sat_bind h))
    split at q
    · rename_i l; exact ⟨l, q⟩
    · exact q.elim
  | .lst m es, env, st, Q, X, h => by
    unfold evE at h; unfold wpE
    refine wpEs_mono es env st (fun ds s1 q => ?_) (fun _ _ _ _ z => z) (evEs_sat hc es env st (Res.sat_bind h))
    split at q
    · rename_i l; exact ⟨l, retR_sat q⟩
    · exact q.elim
  | .dct m .nil, env, st, Q, X, h => by unfold evE at h; unfold wpE; exact retR_sat h
  | .dct m (.cons e es), env, st, Q, X, h => by
    unfold evE at h; unfold wpE
    cases m with
    | false => exact h.elim
    | true =>
      refine ⟨rfl, wpEs_mono (.cons e es) env _ (fun ds s q => ?_) (fun _ _ _ _ z => z) (evEs_sat hc (.cons e es) env _ (Res.sat_bind h))⟩
      split at q
      · rename_i e
        split at q
        · rename_i c
          simp only [Bool.and_eq_true, decide_eq_true_eq] at c
          exact ⟨e, c.1.1, c.1.2, pairB_ok c.2, q⟩
        · exact q.elim
      · exact q.elim
  | .dct m (.star e es), env, st, Q, X, h => by
    unfold evE at h; unfold wpE
    cases m with
    | false => exact h.elim
    | true =>
      refine ⟨rfl, wpEs_mono (.star e es) env _ (fun ds s q => ?_) (fun _ _ _ _ z => z) (evEs_sat hc (.star e es) env _ (Res.sat_bind h))⟩
      split at q
      · rename_i e
        split at q
        · rename_i c
          simp only [Bool.and_eq_true, decide_eq_true_eq] at c
          exact ⟨e, c.1.1, c.1.2, pairB_ok c.2, q⟩
        · exact q.elim
      · exact q.elim
  | .idx a b, env, st, Q, X, h => by
    unfold evE at h; unfold wpE
    exact wpE_mono a env st (fun x s1 q => wpE_mono b env s1 (fun y s2 q => Res.sat_opt q) (fun _ _ _ _ z => z) (evE_sat hc b env s1 (Res.sat_bind q))) (fun _ _ _ _ z => z) (evE_sat hc a env st (Res.sat_bind h))
  | .slc m a lo hi, env, st, Q, X, h => by
    unfold evE at h; unfold wpE
    refine wpE_mono a env st (fun x s1 q => wpE_mono lo env s1 (fun l s2 q => ?_) (fun _ _ _ _ z => z) (evE_sat hc lo env s1 (Res.sat_bind q))) (fun _ _ _ _ z => z) (evE_sat hc a env st (Res.sat_bind h))
    split at q
    · rename_i l' el
      refine ⟨l', el, wpE_mono hi env s2 (fun hh s3 q => ?_) (fun _ _ _ _ z => z) (evE_sat hc hi env s2 (Res.sat_bind q))⟩
      split at q
      · rename_i h' eh
        split at q
        · rename_i d ed
          exact ⟨h', d, eh, ed, retR_sat q⟩
        · exact q.elim
      · exact q.elim
    · exact q.elim
  | .rev m a, env, st, Q, X, h => by
    unfold evE at h; unfold wpE
    refine wpE_mono a env st (fun x s1 q => ?_) (fun _ _ _ _ z => z) (evE_sat hc a env st (Res.sat_bind h))
    split at q
    · rename_i d e; exact ⟨d, e, retR_sat q⟩
    · exact q.elim
  | .fld a f, env, st, Q, X, h => by
    unfold evE at h; unfold wpE
    exact wpE_mono a env st (fun x s1 q => Res.sat_opt q) (fun _ _ _ _ z => z) (evE_sat hc a env st (Res.sat_bind h))
  | .prp q' a, env, st, Q, X, h => by
    unfold evE at h; unfold wpE
    exact wpE_mono a env st (fun x s1 q => hc _ _ _ _ _ (Res.sat_nox q)) (fun _ _ _ _ z => z) (evE_sat hc a env st (Res.sat_bind h))
  | .call f es, env, st, Q, X, h => by
    unfold evE at h; unfold wpE
    exact wpEs_mono es env st (fun ds s1 q => hc _ _ _ _ _ q) (fun _ _ _ _ z => z) (evEs_sat hc es env st (Res.sat_bind h))
  | .callk f es k e, env, st, Q, X, h => by
    unfold evE at h; unfold wpE
    exact wpEs_mono es env st (fun ds s1 q => wpE_mono e env s1 (fun d s2 q => hc _ _ _ _ _ q) (fun _ _ _ _ z => z) (evE_sat hc e env s1 (Res.sat_bind q))) (fun _ _ _ _ z => z) (evEs_sat hc es env st (Res.sat_bind h))
  | .make C es, env, st, Q, X, h => by
    unfold evE at h; unfold wpE
    exact wpEs_mono es env st (fun ds s1 q => hc _ _ _ _ _ q) (fun _ _ _ _ z => z) (evEs_sat hc es env st (Res.sat_bind h))
  | .bi m b es, env, st, Q, X, h => by
    unfold evE at h; unfold wpE
    refine wpEs_mono es env st (fun ds s1 q => ?_) (fun _ _ _ _ z => z) (evEs_sat hc es env st (Res.sat_bind h))
    split at q
    · rename_i d e; exact ⟨d, e, retR_sat q⟩
    · exact q.elim
  | .isi a ts, env, st, Q, X, h => by
    unfold evE at h; unfold wpE
    refine wpE_mono a env st (fun x s1 q => ?_) (fun _ _ _ _ z => z) (evE_sat hc a env st (Res.sat_bind h))
    split at q
    · rename_i k e; exact ⟨k, e, q⟩
    · exact q.elim
  | .mt b a es, env, st, Q, X, h => by
    unfold evE at h; unfold wpE
    refine wpE_mono a env st (fun x s1 q => ?_) (fun _ _ _ _ z => z) (evE_sat hc a env st (Res.sat_bind h))
    split at q
    · rename_i c
      exact ⟨c, wpEs_mono es env s1 (fun ds s2 q => evM_sat q) (fun _ _ _ _ z => z) (evEs_sat hc es env s1 (Res.sat_bind q))⟩
    · exact q.elim
  | .mc C m q' a es, env, st, Q, X, h => by
    unfold evE at h; unfold wpE
    refine wpE_mono a env st (fun x s1 q => ?_) (fun _ _ _ _ z => z) (evE_sat hc a env st (Res.sat_bind h))
    split at q
    · rename_i E fs xs e
      split at q
      · rename_i c
        simp only [Bool.and_eq_true, beq_iff_eq, Bool.not_eq_true'] at c
        obtain ⟨rfl, c⟩ := c
        refine ⟨⟨fs, xs, e, fun hm => ?_⟩, wpEs_mono es env s1 (fun ds s2 q => hc _ _ _ _ _ q) (fun _ _ _ _ z => z) (evEs_sat hc es env s1 (Res.sat_bind q))⟩
        have : fs.contains m = true := by simpa using hm
        rw [this] at c; cases c
      · exact q.elim
    · exact q.elim
  | .comp m own tg it t el, env, st, Q, X, h => by
    unfold evE at h; unfold wpE
    refine evI_sat hc it env st (Res.sat_mono (Res.sat_bind h) (fun xd s1 q dep hd => ?_) fun _ _ _ _ z => z)
    refine loopR_sat hd (X := X) (fun x acc s k q => ?_) (Res.sat_mono (Res.sat_bind q) (fun ys s q => retR_sat q) fun _ _ _ _ z => z)
    refine wpG_mono tg x _ s (fun e2 s2 q => wpE_mono t e2 s2 (fun b s3 q => ?_) (fun _ _ _ _ z => z) (evE_sat hc t e2 s2 (Res.sat_bind q))) (fun _ _ _ _ z => z) (evG_sat hc tg x _ s (Res.sat_bind (Res.sat_nox q)))
    split at q
    · refine ⟨true, rfl, wpE_mono el e2 s3 (fun y s4 q => ?_) (fun _ _ _ _ z => z) (evE_sat hc el e2 s3 (Res.sat_bind q))⟩
      split at q
      · rename_i l; exact ⟨l, q⟩
      · exact q.elim
    · exact ⟨false, rfl, q⟩
    · exact q.elim
  | .comp2 m own own1 tg it tg1 it1 el, env, st, Q, X, h => by
    unfold evE at h; unfold wpE
    refine evI_sat hc it env st (Res.sat_mono (Res.sat_bind h) (fun xd s1 q dep hd => ?_) fun _ _ _ _ z => z)
    refine loopR_sat hd (X := X) (fun x acc s k q => ?_) (Res.sat_mono (Res.sat_bind q) (fun ys s q => retR_sat q) fun _ _ _ _ z => z)
    refine wpG_mono tg x _ s (fun e2 s2 q => evI_sat hc it1 e2 s2 (Res.sat_mono (Res.sat_bind q) (fun xd1 s3 q dep1 hd1 => ?_) fun _ _ _ _ z => z)) (fun _ _ _ _ z => z) (evG_sat hc tg x _ s (Res.sat_bind (Res.sat_nox (Y := noX) q)))
    refine loopR_sat hd1 (X := noX) (fun x1 acc1 s k q => ?_) q
    refine wpG_mono tg1 x1 _ s (fun e3 s4 q => wpE_mono el e3 s4 (fun y s5 q => ?_) (fun _ _ _ _ z => z) (evE_sat hc el e3 s4 (Res.sat_bind q))) (fun _ _ _ _ z => z) (evG_sat hc tg1 x1 _ s (Res.sat_bind q))
    split at q
    · rename_i l; exact ⟨l, q⟩
    · exact q.elim
  | .dcomp m own tg it ke ve, env, st, Q, X, h => by
    unfold evE at h; unfold wpE
    refine evI_sat hc it env st (Res.sat_mono (Res.sat_bind h) (fun xd s1 q dep hd => ?_) fun _ _ _ _ z => z)
    refine loopR_sat hd (X := X) (fun x acc s k q => ?_) (Res.sat_mono (Res.sat_bind q) (fun ys s q => retR_sat q) fun _ _ _ _ z => z)
    refine wpG_mono tg x _ s (fun e2 s2 q => wpE_mono ke e2 s2 (fun a s3 q => wpE_mono ve e2 s3 (fun b s4 q => ?_) (fun _ _ _ _ z => z) (evE_sat hc ve e2 s3 (Res.sat_bind q))) (fun _ _ _ _ z => z) (evE_sat hc ke e2 s2 (Res.sat_bind q))) (fun _ _ _ _ z => z) (evG_sat hc tg x _ s (Res.sat_bind (Res.sat_nox q)))
    split at q
    · rename_i c
      simp only [Bool.and_eq_true, decide_eq_true_eq] at c
      exact ⟨c.1.1, c.1.2, c.2, q⟩
    · exact q.elim
  | .exf i f, env, st, Q, X, h => by
    unfold evE at h; unfold wpE
    split at h
    · rename_i C fs xs e
      obtain ⟨d, ed, q⟩ := Res.sat_opt h
      exact ⟨C, fs, xs, d, e, ed, q⟩
    · exact h.elim
  | .exi i E, env, st, Q, X, h => by
    unfold evE at h; unfold wpE
    split at h
    · rename_i C fs xs e; exact ⟨C, fs, xs, e, h⟩
    · exact h.elim
  | .noe, env, st, Q, X, h => by unfold evE at h; unfold wpE; exact h
theorem evEs_sat (hc : CallOk G call) : ∀ (e : CEs) (env : Env) (st : Sto) {Q : List D → Sto → Prop} {X : XP}, (evEs call G.sub e env st).sat Q X → wpEs G e env st Q X
  | .nil, env, st, Q, X, h => by unfold evEs at h; unfold wpEs; exact h
  | .cons e es, env, st, Q, X, h => by
    unfold evEs at h; unfold wpEs
    exact wpE_mono e env st (fun d s1 q => wpEs_mono es env s1 (fun ds s2 q => q) (fun _ _ _ _ z => z) (evEs_sat hc es env s1 (Res.sat_bind q))) (fun _ _ _ _ z => z) (evE_sat hc e env st (Res.sat_bind h))
  | .star e es, env, st, Q, X, h => by
    unfold evEs at h; unfold wpEs
    refine wpE_mono e env st (fun d s1 q => ?_) (fun _ _ _ _ z => z) (evE_sat hc e env st (Res.sat_bind h))
    split at q
    · rename_i xs ex
      exact ⟨xs, ex, wpEs_mono es env s1 (fun ds s2 q => q) (fun _ _ _ _ z => z) (evEs_sat hc es env s1 (Res.sat_bind q))⟩
    · exact q.elim
theorem evI_sat (hc : CallOk G call) : ∀ (e : CI) (env : Env) (st : Sto) {Q : List D → (Sto → Prop) → Sto → Prop} {X : XP}, (evI call G.sub e env st).sat (fun xd s => ∀ dep : Sto → Prop, (∀ s, xd.2 s = true → dep s) → Q xd.1 dep s) X → wpI G e env st Q X
  | .val a, env, st, Q, X, h => by
    unfold evI at h; unfold wpI
    refine wpE_mono a env st (fun d s1 q => ?_) (fun _ _ _ _ z => z) (evE_sat hc a env st (Res.sat_bind h))
    split at q
    · rename_i xs e; exact ⟨xs, e, q _ fun s => depB_ok⟩
    · exact q.elim
  | .rng a b, env, st, Q, X, h => by
    unfold evI at h; unfold wpI
    refine wpE_mono a env st (fun x s1 q => wpE_mono b env s1 (fun y s2 q => ?_) (fun _ _ _ _ z => z) (evE_sat hc b env s1 (Res.sat_bind q))) (fun _ _ _ _ z => z) (evE_sat hc a env st (Res.sat_bind h))
    split at q
    · split at q
      · rename_i c
        simp only [Bool.and_eq_true, decide_eq_true_eq] at c
        exact ⟨_, _, rfl, rfl, c.1.1.1, c.1.1.2, c.1.2, c.2, q _ fun _ _ => trivial⟩
      · exact q.elim
    · exact q.elim
  | .enm a, env, st, Q, X, h => by
    unfold evI at h; unfold wpI
    refine wpE_mono a env st (fun d s1 q => ?_) (fun _ _ _ _ z => z) (evE_sat hc a env st (Res.sat_bind h))
    split at q
    · rename_i xs e; exact ⟨xs, e, q _ fun s => depB_ok⟩
    · exact q.elim
  | .zip a b, env, st, Q, X, h => by
    unfold evI at h; unfold wpI
    refine wpE_mono a env st (fun x s1 q => wpE_mono b env s1 (fun y s2 q => ?_) (fun _ _ _ _ z => z) (evE_sat hc b env s1 (Res.sat_bind q))) (fun _ _ _ _ z => z) (evE_sat hc a env st (Res.sat_bind h))
    split at q
    · rename_i xs ys e1 e2
      refine ⟨xs, ys, e1, e2, q _ fun s c => ?_⟩
      simp only [Bool.and_eq_true] at c
      exact ⟨depB_ok c.1, depB_ok c.2⟩
    · exact q.elim
  | .itm a, env, st, Q, X, h => by
    unfold evI at h; unfold wpI
    refine wpE_mono a env st (fun d s1 q => ?_) (fun _ _ _ _ z => z) (evE_sat hc a env st (Res.sat_bind h))
    split at q
    · rename_i ks xs; exact ⟨ks, xs, rfl, q _ fun _ _ => trivial⟩
    · exact q.elim
theorem evG_sat (hc : CallOk G call) : ∀ (g : CG) (d : D) (env : Env) (st : Sto) {Q : Env → Sto → Prop} {X : XP}, (evG call G.sub g d env st).sat Q X → wpG G g d env st Q X
  | .name i, d, env, st, Q, X, h => by
    unfold evG at h; unfold wpG
    split at h
    · rename_i l; exact ⟨l, h⟩
    · exact h.elim
  | .tup gs, d, env, st, Q, X, h => by
    unfold evG at h; unfold wpG
    split at h
    · rename_i xs e
      split at h
      · rename_i l; exact ⟨xs, e, l, evGs_sat hc gs xs env st h⟩
      · exact h.elim
    · exact h.elim
  | .fld a f, d, env, st, Q, X, h => by
    unfold evG at h; unfold wpG
    exact wpE_mono a env st (fun o s1 q => setFR_sat q) (fun _ _ _ _ z => z) (evE_sat hc a env st (Res.sat_bind h))
  | .sub a b, d, env, st, Q, X, h => by
    unfold evG at h; unfold wpG
    exact wpE_mono a env st (fun o s1 q => wpE_mono b env s1 (fun i s2 q => setIR_sat q) (fun _ _ _ _ z => z) (evE_sat hc b env s1 (Res.sat_bind q))) (fun _ _ _ _ z => z) (evE_sat hc a env st (Res.sat_bind h))
theorem evGs_sat (hc : CallOk G call) : ∀ (gs : CGs) (xs : List D) (env : Env) (st : Sto) {Q : Env → Sto → Prop} {X : XP}, (evGs call G.sub gs xs env st).sat Q X → wpGs G gs xs env st Q X
  | .nil, xs, env, st, Q, X, h => by
    unfold evGs at h; unfold wpGs
    split at h
    · exact ⟨rfl, h⟩
    · exact h.elim
  | .cons g gs, xs, env, st, Q, X, h => by
    unfold evGs at h; unfold wpGs
    split at h
    · rename_i y r
      exact ⟨y, r, rfl, wpG_mono g y env st (fun e s q => evGs_sat hc gs r e s q) (fun _ _ _ _ z => z) (evG_sat hc g y env st (Res.sat_bind h))⟩
    · exact h.elim
end
end
end Mini
end
section
/-! Statements run; defs run; their specs. -/
namespace Mini
open PySem
def Fl.sat (r : Fl) (K : Kt) : Prop := match r with
  | .nx e s => K.nx e s
  | .rt d s => K.rt d s
  | .ex e C fs xs s => K.xx e C fs xs s
  | .bad => False
theorem Fl.sat_bind {r : Fl} {f : Env → Sto → Fl} {K : Kt} (h : (r.bind f).sat K) : r.sat { K with nx := fun e s => (f e s).sat K } := by
  cases r <;> exact h
theorem Fl.sat_n0 {r : Fl} {K : Kt} {n : Nat} (h : r.sat K) : r.sat { K with n0 := n } := by
  cases r <;> exact h
theorem Res.sat_fl {α : Type} {r : Res α} {e : Env} {f : α → Sto → Fl} {K : Kt} (h : (r.fl e f).sat K) : r.sat (fun a s => (f a s).sat K) (K.xx e) := by
  cases r <;> exact h
section
variable {G : Sg} {call : Str → List D → Sto → Res D} {wf : Nat}
theorem loopS_sat {dep : Sto → Bool} {depP : Sto → Prop} (hd : ∀ s, dep s = true → depP s) {body : D → Env → Sto → Fl} {bodyP : D → Env → Sto → Kt → Prop} (hb : ∀ x e s K, (body x e s).sat K → bodyP x e s K) :
    ∀ {xs : List D} {env : Env} {st : Sto} {K : Kt}, (loopS dep body xs env st).sat K → loopF depP bodyP xs env st K
  | [], env, st, K, h => by
    unfold loopS at h
    split at h
    · rename_i c; exact ⟨hd _ c, h⟩
    · exact h.elim
  | x :: r, env, st, K, h => by
    unfold loopS at h
    split at h
    · rename_i c
      refine ⟨hd _ c, hb _ _ _ _ ?_⟩
      have h := Fl.sat_bind h
      cases q : body x env st with
      | nx e s =>
        rw [q] at h
        exact loopS_sat hd hb h
      | rt d s => rw [q] at h; exact h
      | ex e C fs xs s => rw [q] at h; exact h
      | bad => rw [q] at h; exact h
    · exact h.elim
theorem whlS_sat {test : Env → Sto → Res D} {body : Env → Sto → Fl} {testP : Env → Sto → QD → XP → Prop} {bodyP : Env → Sto → Kt → Prop} {K : Kt}
    (ht : ∀ e s Q X, (test e s).sat Q X → testP e s Q X) (htm : ∀ e s {Q Q' : QD} {X : XP}, (∀ d s, Q d s → Q' d s) → testP e s Q X → testP e s Q' X) (hb : ∀ e s K, (body e s).sat K → bodyP e s K) {n : Nat} {env : Env} {st : Sto} (h : (whlS test body n env st).sat K) :
    ∃ W : Nat → Env → Sto → Prop, (∃ m, W m env st) ∧ ∀ m e s, W m e s → testP e s (fun x s1 => ∃ k, x = .bl k ∧
      if k then bodyP e s1 { K with nx := fun e' s' => ∃ m', m' < m ∧ W m' e' s', ct := fun e' s' => ∃ m', m' < m ∧ W m' e' s', bk := K.nx } else K.nx e s1) (K.xx e) := by
  refine ⟨fun m e s => (whlS test body m e s).sat K, ⟨n, h⟩, fun m e s hw => ?_⟩
  cases m with
  | zero => exact hw.elim
  | succ m =>
    unfold whlS at hw
    refine htm _ _ (fun x s1 q => ?_) (ht _ _ _ _ (Res.sat_fl hw))
    split at q
    · refine ⟨true, rfl, hb _ _ _ ?_⟩
      have q := Fl.sat_bind q
      cases qq : body e s1 with
      | nx e' s' => rw [qq] at q; exact ⟨m, Nat.lt_succ_self _, q⟩
      | rt d s => rw [qq] at q; exact q
      | ex e C fs xs s => rw [qq] at q; exact q
      | bad => rw [qq] at q; exact q
    · exact ⟨false, rfl, q⟩
    · exact q.elim
mutual
theorem evS_sat (hc : CallOk G call) : ∀ (c : CS) (env : Env) (st : Sto) {K : Kt}, (evS call G.sub G.efs wf c env st).sat K → wpS G c env st K
  | .asg g e, env, st, K, h => by
    unfold evS at h; unfold wpS
    refine wpE_mono e env st (fun d s1 q => ?_) (fun _ _ _ _ z => z) (evE_sat hc e env st (Res.sat_fl h))
    exact wpG_mono g d env s1 (fun e s q => q) (fun _ _ _ _ z => z) (evG_sat hc g d env s1 (Res.sat_nox (Y := noX) (Res.sat_fl q)))
  | .aug i op e, env, st, K, h => by
    unfold evS at h; unfold wpS
    split at h
    · rename_i a ea
      refine ⟨_, ea, wpE_mono e env st (fun y s1 q => ?_) (fun _ _ _ _ z => z) (evE_sat hc e env st (Res.sat_fl h))⟩
      split at q
      · rename_i b
        split at q
        · rename_i d ed
          exact ⟨d, ed, ⟨a, b, rfl, rfl⟩, q⟩
        · exact q.elim
      · exact q.elim
    · exact h.elim
  | .augf a f op e, env, st, K, h => by unfold evS at h; exact h.elim
  | .exp e, env, st, K, h => by
    unfold evS at h; unfold wpS
    exact evE_sat hc e env st (Res.sat_fl h)
  | .iff c a b, env, st, K, h => by
    unfold evS at h; unfold wpS
    refine wpE_mono c env st (fun x s1 q => ?_) (fun _ _ _ _ z => z) (evE_sat hc c env st (Res.sat_fl h))
    split at q
    · exact ⟨true, rfl, evSs_sat hc a env s1 q⟩
    · exact ⟨false, rfl, evSs_sat hc b env s1 q⟩
    · exact q.elim
  | .forr g it b, env, st, K, h => by
    unfold evS at h; unfold wpS
    refine evI_sat hc it env st (Res.sat_mono (Res.sat_fl h) (fun xd s1 q dep hd => ?_) fun _ _ _ _ z => z)
    exact loopS_sat hd (body := fun x e s => (evG call G.sub g x e s).nox.fl e fun e2 s2 => evSs call G.sub G.efs wf b e2 s2) (fun x e s K' q => wpG_mono g x e s (fun e2 s2 q => evSs_sat hc b e2 s2 q) (fun _ _ _ _ z => z) (evG_sat hc g x e s (Res.sat_nox (Y := noX) (Res.sat_fl (e := e) (K := K') (f := fun e2 s2 => evSs call G.sub G.efs wf b e2 s2) q))))
      (Fl.sat_n0 q)
  | .whl c b, env, st, K, h => by
    unfold evS at h; unfold wpS
    exact whlS_sat (testP := fun e s Q X => wpE G c e s Q X) (bodyP := fun e s K => wpSs G b e s K) (fun e s Q X q => evE_sat hc c e s q) (fun e s Q Q' X hq q => wpE_mono c e s hq (fun _ _ _ _ z => z) q) (fun e s K q => evSs_sat hc b e s q) h
  | .ret e, env, st, K, h => by
    unfold evS at h; unfold wpS
    exact evE_sat hc e env st (Res.sat_fl h)
  | .retn, env, st, K, h => by unfold evS at h; unfold wpS; exact h
  | .raise C es, env, st, K, h => by
    unfold evS at h; unfold wpS
    refine wpEs_mono es env st (fun ds s1 q => ?_) (fun _ _ _ _ z => z) (evEs_sat hc es env st (Res.sat_fl h))
    split at q
    · rename_i c
      simp only [Bool.and_eq_true, beq_iff_eq] at c
      exact ⟨c.1, c.2, q⟩
    · exact q.elim
  | .tr b hs, env, st, K, h => by
    unfold evS at h; unfold wpS
    refine evSs_sat hc b env st ?_
    revert h
    cases evSs call G.sub G.efs wf b env st with
    | ex e C fs xs s => exact fun h => evHs_sat hc hs C fs xs e s h
    | nx e s => exact fun h => h
    | rt d s => exact fun h => h
    | bad => exact fun h => h
  | .pass, env, st, K, h => by unfold evS at h; unfold wpS; exact h
  | .gh, env, st, K, h => by unfold evS at h; unfold wpS; exact .inl h
  | .nev, env, st, K, h => by unfold evS at h; exact h.elim
theorem evSs_sat (hc : CallOk G call) : ∀ (c : CSs) (env : Env) (st : Sto) {K : Kt}, (evSs call G.sub G.efs wf c env st).sat K → wpSs G c env st K
  | .nil, env, st, K, h => by unfold evSs at h; unfold wpSs; exact h
  | .cons s ss, env, st, K, h => by
    unfold evSs at h; unfold wpSs
    refine wpS_mono s env st ?_ (evS_sat hc s env st (Fl.sat_bind h))
    exact ⟨Nat.le_refl _, fun e s' q => evSs_sat hc ss e s' q, fun _ _ z => z, fun _ _ z => z, fun _ _ z => z, fun _ _ _ _ _ z => z⟩
theorem evHs_sat (hc : CallOk G call) : ∀ (hs : CHs) (C : Str) (fs : List Str) (xs : List D) (env : Env) (st : Sto) {K : Kt}, (evHs call G.sub G.efs wf hs C fs xs env st).sat K → wpHs G hs C fs xs env st K
  | .nil, C, fs, xs, env, st, K, h => by unfold evHs at h; unfold wpHs; exact h
  | .cons C' i b r, C, fs, xs, env, st, K, h => by
    unfold evHs at h; unfold wpHs
    split at h
    · rename_i c
      rw [if_pos c]
      split at h
      · rename_i l
        refine ⟨l, evSs_sat hc b _ st ?_⟩
        revert h
        cases evSs call G.sub G.efs wf b (env.set i (some (.exc C fs xs))) st with
        | ex e C fs xs s => exact fun h => h.elim
        | nx e s => exact fun h => h
        | rt d s => exact fun h => h
        | bad => exact fun h => h
      · exact h.elim
    · rename_i c
      rw [if_neg c]
      exact evHs_sat hc r C fs xs env st h
end
end
/-! ### giving up at a return -/
mutual
def frzV (n : Nat) (g : List SO) : Nat → D → Option D
  | 0, _ => none
  | m + 1, d => match d with
    | .ref k => if k < n then some (.ref k) else (match g[k - n]? with
      | some (.lst xs) => (frzVs n g m xs).map .lst
      | some (.dct ks xs) => if bds n ks then (frzVs n g m xs).map (.dct ks) else none
      | some (.ins C fs xs) => (frzVs n g m xs).map (.ins C fs)
      | none => none)
    | .tup xs => (frzVs n g m xs).map .tup
    | .lst xs => (frzVs n g m xs).map .lst
    | d => if bd n d then some d else none
def frzVs (n : Nat) (g : List SO) : Nat → List D → Option (List D)
  | 0, _ => none
  | _ + 1, [] => some []
  | m + 1, x :: xs => match frzV n g m x, frzVs n g m xs with
    | some y, some ys => some (y :: ys)
    | _, _ => none
end
mutual
theorem frzV_ok {n : Nat} {g : List SO} : ∀ {m : Nat} {d d' : D}, frzV n g m d = some d' → Fz n g d d'
  | 0, _, _, h => by simp [frzV] at h
  | m + 1, d, d', h => by
    unfold frzV at h
    split at h
    · rename_i k
      split at h
      · rename_i l
        cases h
        exact .old (by unfold bd; simpa using l)
      · rename_i l
        have e : k = n + (k - n) := by omega
        split at h
        · rename_i xs ex
          obtain ⟨ys, hy, rfl⟩ := Option.map_eq_some_iff.mp h
          rw [e]
          exact .lst ex (frzVs_ok hy)
        · rename_i ks xs ex
          split at h
          · rename_i hk
            obtain ⟨ys, hy, rfl⟩ := Option.map_eq_some_iff.mp h
            rw [e]
            exact .dct ex hk (frzVs_ok hy)
          · cases h
        · rename_i C fs xs ex
          obtain ⟨ys, hy, rfl⟩ := Option.map_eq_some_iff.mp h
          rw [e]
          exact .ins ex (frzVs_ok hy)
        · cases h
    · obtain ⟨ys, hy, rfl⟩ := Option.map_eq_some_iff.mp h
      exact .tup (frzVs_ok hy)
    · obtain ⟨ys, hy, rfl⟩ := Option.map_eq_some_iff.mp h
      exact .inl (frzVs_ok hy)
    · split at h
      · rename_i hb
        cases h
        exact .old hb
      · cases h
theorem frzVs_ok {n : Nat} {g : List SO} : ∀ {m : Nat} {d d' : List D}, frzVs n g m d = some d' → Fzs n g d d'
  | 0, _, _, h => by simp [frzVs] at h
  | _ + 1, [], _, h => by simp only [frzVs, Option.some.injEq] at h; subst h; exact .nil
  | m + 1, x :: xs, _, h => by
    unfold frzVs at h
    split at h
    · rename_i y ys e1 e2
      cases h
      exact .cons (frzV_ok e1) (frzVs_ok e2)
    · cases h
end
mutual
def szD : D → Nat
  | .tup xs => szDs xs + 1
  | .lst xs => szDs xs + 1
  | _ => 1
def szDs : List D → Nat
  | [] => 1
  | x :: xs => szD x + szDs xs + 1
end
def szO : List SO → Nat
  | [] => 0
  | .lst xs :: r => szDs xs + 2 + szO r
  | .dct _ xs :: r => szDs xs + 2 + szO r
  | .ins _ _ xs :: r => szDs xs + 2 + szO r
/-- at a return -/
def fin (keep : Bool) (n : Nat) (d : D) (s : Sto) : Res D := match Nat.ble n s.length, keep || s.length == n with
  | false, _ => .bad
  | true, true => .ok d s
  | true, false => (match (s.take n).all (bdS n), frzV n (s.drop n) (szO (s.drop n) + szD d + 1) d with
    | true, some d' => .ok d' (s.take n)
    | _, _ => .ok d s)
theorem fin_sat {k : Bool} {n : Nat} {d : D} {s : Sto} {Q : QD} {X : XP} (h : (fin k n d s).sat Q X) : RG n d s Q := by
  unfold fin at h
  split at h
  · exact h.elim
  · exact .inl h
  · rename_i hn _
    have hn := Nat.le_of_ble_eq_true hn
    split at h
    · rename_i d' c e
      have hl : (s.take n).length = n := by rw [List.length_take]; omega
      refine .inr ⟨s.take n, s.drop n, d', (List.take_append_drop n s).symm, Nat.le_of_eq hl.symm, ?_, by rw [hl]; exact frzV_ok e, h⟩
      intro so hso
      rw [hl]
      exact List.all_eq_true.mp c so hso
    · exact .inl h
def finX (n : Nat) (C : Str) (fs : List Str) (xs : List D) (s : Sto) : Res D := match Nat.ble n s.length, s.length == n with
  | false, _ => .bad
  | true, true => .exc C fs xs s
  | true, false => (match (s.take n).all (bdS n), bds n xs with
    | true, true => .exc C fs xs (s.take n)
    | _, _ => .exc C fs xs s)
/-- at a raise: what is new may be given up -/
def RX (n : Nat) (C : Str) (fs : List Str) (xs : List D) (st : Sto) (X : XP) : Prop := X C fs xs st ∨ ∃ st0 g, st = st0 ++ g ∧ n ≤ st0.length ∧ Clsd st0 ∧ bds st0.length xs = true ∧ X C fs xs st0
theorem finX_sat {n : Nat} {C : Str} {fs : List Str} {xs : List D} {s : Sto} {Q : QD} {X : XP} (h : (finX n C fs xs s).sat Q X) : RX n C fs xs s X := by
  unfold finX at h
  split at h
  · exact h.elim
  · exact .inl h
  · rename_i hn _
    have hn := Nat.le_of_ble_eq_true hn
    split at h
    · rename_i c e
      have hl : (s.take n).length = n := by rw [List.length_take]; omega
      refine .inr ⟨s.take n, s.drop n, (List.take_append_drop n s).symm, Nat.le_of_eq hl.symm, ?_, by rw [hl]; exact e, h⟩
      intro so hso
      rw [hl]
      exact List.all_eq_true.mp c so hso
    · exact .inl h
/-! ### defs -/
/-- what a def does, by its body -/
def defW (G : Sg) (c : CSs) (N np : Nat) : Spec := fun ds st Q X => ds.length = np ∧ wpSs G c (ds.map some ++ List.replicate (N - np) none) st
  { n0 := st.length, nx := fun _ s => RG st.length .non s Q, rt := fun d s => RG st.length d s Q, xx := fun _ C fs xs s => RX st.length C fs xs s X }
/-- C(..) by its __init__ -/
def mkW (G : Sg) (C : Str) : Spec := fun ds st Q X => Clo (G.Gm (C ++ ".__init__")) (.ref st.length :: ds) (st ++ [.ins C [] []]) (fun d s => d = .non ∧ RG st.length (.ref st.length) s Q) (fun D fs xs s => RX st.length D fs xs s X)
inductive Ent where
  | fn (own : Option Str) (np N : Nat) (keep : Bool) (b : CSs)
  | mk
def finB (keep : Bool) (n : Nat) : Fl → Res D
  | .nx _ s => fin keep n .non s
  | .rt d s => fin keep n d s
  | .ex _ C fs xs s => finX n C fs xs s
  | .bad => .bad
/-- the receiver of a property is of its class -/
def ownB (own : Option Str) (ds : List D) (st : Sto) : Bool := match own with
  | none => true
  | some C => (match ds with
    | [d] => (match asI st d with
      | some (E, _, _) => C == E
      | none => false)
    | _ => false)
/-- run in a store of its own -/
def frame (st : Sto) : Res D → Res D
  | .ok d [] => if bd 0 d then .ok d st else .bad
  | .exc C fs xs [] => if bds 0 xs then .exc C fs xs st else .bad
  | _ => .bad
/-- the same, as a spec -/
def FrS (S : Spec) : Spec := fun ds st Q X => bds 0 ds = true ∧ S ds [] (fun d s => s = [] ∧ bd 0 d = true ∧ Q d st) (fun C fs xs s => s = [] ∧ bds 0 xs = true ∧ X C fs xs st)
theorem frame_sat {st : Sto} {r : Res D} {Q : QD} {X : XP} (h : (frame st r).sat Q X) : r.sat (fun d s => s = [] ∧ bd 0 d = true ∧ Q d st) (fun C fs xs s => s = [] ∧ bds 0 xs = true ∧ X C fs xs st) := by
  cases r with
  | ok d s =>
    cases s with
    | nil =>
      have h : (if bd 0 d then Res.ok d st else .bad : Res D).sat Q X := h
      by_cases c : bd 0 d = true
      · rw [if_pos c] at h; exact ⟨rfl, c, h⟩
      · rw [if_neg c] at h; exact h.elim
    | cons _ _ => exact h.elim
  | exc C fs xs s =>
    cases s with
    | nil =>
      have h : (if bds 0 xs then Res.exc C fs xs st else .bad : Res D).sat Q X := h
      by_cases c : bds 0 xs = true
      · rw [if_pos c] at h; exact ⟨rfl, c, h⟩
      · rw [if_neg c] at h; exact h.elim
    | cons _ _ => exact h.elim
  | bad => exact h.elim
def Ent.loose : Option Ent → Bool
  | some (.fn _ _ _ k _) => !k
  | some .mk => true
  | none => false
section
variable (T : Str → Option Ent) (sub : Str → Str → Bool) (efs : Str → List Str) (wf : Nat)
/-- one def's or class's own run; call: those that it calls -/
def ev0 (call : Str → List D → Sto → Res D) (q : Str) (ds : List D) (st : Sto) : Res D := match T q with
  | some (.fn own np N keep b) => (match ds.length == np && ownB own ds st with
    | true => finB keep st.length (evSs call sub efs wf b (ds.map some ++ List.replicate (N - np) none) st)
    | false => .bad)
  | some .mk => (match call (q ++ ".__init__") (.ref st.length :: ds) (st ++ [.ins q [] []]) with
    | .ok .non s => fin false st.length (.ref st.length) s
    | .exc C fs xs s => finX st.length C fs xs s
    | _ => .bad)
  | none => .bad
def evF : Nat → Str → List D → Sto → Res D
  | 0, _, _, _ => .bad
  | n + 1, q, ds, st => match bds 0 ds && Ent.loose (T q) with
    | true => frame st (ev0 T sub efs wf (evF n) q ds [])
    | false => ev0 T sub efs wf (evF n) q ds st
/-- the specs of a table -/
def Gm0 : Str → Spec := fun q ds st Q X => ∃ n, (ev0 T sub efs wf (evF T sub efs wf n) q ds st).sat Q X
def GmT : Str → Spec := fun q ds st Q X => ∃ n, (evF T sub efs wf n q ds st).sat Q X
def GT : Sg := ⟨GmT T sub efs wf, sub, efs⟩
variable {T sub efs wf}
theorem GmT_or {q : Str} {ds : List D} {st : Sto} {Q : QD} {X : XP} (h : GmT T sub efs wf q ds st Q X) : Gm0 T sub efs wf q ds st Q X ∨ FrS (Gm0 T sub efs wf q) ds st Q X := by
  obtain ⟨n, h⟩ := h
  cases n with
  | zero => exact h.elim
  | succ n =>
    unfold evF at h
    split at h
    · rename_i c
      simp only [Bool.and_eq_true] at c
      exact .inr ⟨c.1, n, frame_sat h⟩
    · exact .inl ⟨n, h⟩
theorem evF_call (n : Nat) : CallOk (GT T sub efs wf) (evF T sub efs wf n) := fun f ds st Q X h => Clo.mk ⟨n, h⟩
theorem GmT_fn {q : Str} {own : Option Str} {np N : Nat} {keep : Bool} {b : CSs} (e : T q = some (.fn own np N keep b)) {ds : List D} {st : Sto} {Q : QD} {X : XP} (h : Gm0 T sub efs wf q ds st Q X) : defW (GT T sub efs wf) b N np ds st Q X := by
  obtain ⟨n, h⟩ := h
  unfold ev0 at h
  rw [e] at h
  simp only at h
  split at h
  · rename_i hl
    simp only [Bool.and_eq_true] at hl
    refine ⟨by simpa using hl.1, evSs_sat (G := GT T sub efs wf) (wf := wf) (evF_call n) b _ st ?_⟩
    show (evSs (evF T sub efs wf n) sub efs wf b (ds.map some ++ List.replicate (N - np) none) st).sat _
    revert h
    cases evSs (evF T sub efs wf n) sub efs wf b (ds.map some ++ List.replicate (N - np) none) st with
    | nx e s => exact fun h => fin_sat h
    | rt d s => exact fun h => fin_sat h
    | ex e C fs xs s => exact fun h => finX_sat h
    | bad => exact fun h => h.elim
  · exact h.elim
theorem Gm0_own {q C : Str} {np N : Nat} {keep : Bool} {b : CSs} (e : T q = some (.fn (some C) np N keep b)) {ds : List D} {st : Sto} {Q : QD} {X : XP} (h : Gm0 T sub efs wf q ds st Q X) : ∃ d fs xs, ds = [d] ∧ asI st d = some (C, fs, xs) := by
  obtain ⟨n, h⟩ := h
  unfold ev0 at h
  rw [e] at h
  simp only at h
  split at h
  · rename_i hl
    simp only [Bool.and_eq_true] at hl
    have h2 := hl.2
    unfold ownB at h2
    simp only at h2
    split at h2
    · rename_i d
      split at h2
      · rename_i E fs xs ea
        exact ⟨d, fs, xs, rfl, by rw [ea]; simp at h2; rw [h2]⟩
      · cases h2
    · cases h2
  · exact h.elim
theorem GmT_own {q C : Str} {np N : Nat} {keep : Bool} {b : CSs} (e : T q = some (.fn (some C) np N keep b)) {ds : List D} {st : Sto} {Q : QD} {X : XP} (h : GmT T sub efs wf q ds st Q X) : ∃ d fs xs, ds = [d] ∧ asI st d = some (C, fs, xs) := by
  rcases GmT_or h with h | ⟨hb, h⟩
  · exact Gm0_own e h
  · obtain ⟨d, fs, xs, e1, e2⟩ := Gm0_own e h
    subst e1
    refine ⟨d, fs, xs, rfl, ?_⟩
    cases d with
    | ref k => unfold bds bd at hb; simp at hb
    | _ => exact e2
theorem GmT_mk {q : Str} (e : T q = some .mk) {ds : List D} {st : Sto} {Q : QD} {X : XP} (h : Gm0 T sub efs wf q ds st Q X) : mkW (GT T sub efs wf) q ds st Q X := by
  obtain ⟨n, h⟩ := h
  unfold ev0 at h
  rw [e] at h
  simp only at h
  refine Clo.mk ⟨n, ?_⟩
  revert h
  cases evF T sub efs wf n (q ++ ".__init__") (.ref st.length :: ds) (st ++ [.ins q [] []]) with
  | ok d s =>
    cases d <;> first | exact fun h => h.elim | exact fun h => ⟨rfl, fin_sat h⟩
  | exc C fs xs s => exact fun h => finX_sat h
  | bad => exact fun h => h.elim
end
end Mini
end
section
/-! The readings of statements; objects that are given up. -/
namespace Mini
open PySem L2

section
variable (F : Fx) (G : Sg) (u : SuiT) (W : WX)
/-- the ends, in the heap's terms; A0, H0: how it stood at the def's start -/
def KL (E : L2.Ends) (A0 : List Addr) (H0 : Hp) : Kt where
  n0 := A0.length
  nx := fun e s => ∀ A' H' σ', Stp A0 H0 A' H' → Rel F u A' H' e s σ' → E.nx σ' H'
  rt := QLink F A0 H0 E.rt
  bk := fun e s => ∀ A' H' σ', Stp A0 H0 A' H' → Rel F u A' H' e s σ' → E.bk σ' H'
  ct := fun e s => ∀ A' H' σ', Stp A0 H0 A' H' → Rel F u A' H' e s σ' → E.ct σ' H'
  xx := fun e C fs xs s => ∀ A' H' cls dd σ', Stp A0 H0 A' H' → Rel F u A' H' e s σ' → ExcR F A' H' C fs xs cls dd → W cls dd σ' H'
def tS (c : CS) : TS := fun E σ H => ∃ A0 H0 A env st, Stp A0 H0 A H ∧ Rel F u A H env st σ ∧ wpS G c env st (KL F u W E A0 H0)
def tSs (c : CSs) : TS := fun E σ H => ∃ A0 H0 A env st, Stp A0 H0 A H ∧ Rel F u A H env st σ ∧ wpSs G c env st (KL F u W E A0 H0)
end
theorem psImp {X : Cx} {s : Stmt} {t t' : TS} (h : PS X s t') (hi : ∀ E σ H, t E σ H → t' E σ H) : PS X s t := ⟨fun pins s σ H D I q => h.run pins s σ H D I (hi _ _ _ q)⟩
theorem pssImp {X : Cx} {s : List Stmt} {t t' : TS} (h : PSs X s t') (hi : ∀ E σ H, t E σ H → t' E σ H) : PSs X s t := ⟨fun pins s σ H D I q => h.run pins s σ H D I (hi _ _ _ q)⟩

/-! ### giving up -/
section
variable {F : Fx} {A : List Addr} {H : Hp}
theorem stp_at_take {n : Nat} {k : Nat} {a : Addr} (hk : k < n) (h : A[k]? = some a) : (A.take n)[k]? = some a := by
  rw [List.getElem?_take_of_lt hk]; exact h
theorem Out.take {n : Nat} {p : Addr} (h : Out F A p) : Out F (A.take n) p := ⟨fun m => h.1 (List.mem_of_mem_take m), h.2⟩
theorem TupAt.take {n : Nat} {p : Addr} {vs : List V} (h : TupAt F A H p vs) : TupAt F (A.take n) H p vs := by
  rcases h with ⟨h, o⟩ | h
  · exact .inl ⟨h, o.take⟩
  · exact .inr h
theorem ScrAt.take {n : Nat} {p : Addr} {vs : List V} (t : ScrAt F A H p vs) : ScrAt F (A.take n) H p vs := by
  cases t with
  | frz o t hp => exact .frz o t hp.take
  | wr t => exact .wr t
mutual
theorem Rp.take {n : Nat} : ∀ {d : Mini.D} {v : V}, Rp F A H d v → bd n d = true → Rp F (A.take n) H d v
  | _, _, .non, _ => .non
  | _, _, .bl b, _ => .bl b
  | _, _, .int i, _ => .int i
  | _, _, .str x, _ => .str x
  | _, _, .tup t r, h => .tup t.take (Rps.take' r (by unfold bd at h; exact h))
  | _, _, .lst o hp, h => .lst (Ob.take o (by unfold bd at h; unfold bdS; exact h)) hp.take
  | _, _, .dct o hp, h => .dct (Ob.take o (by unfold bd at h; unfold bdS; exact h)) hp.take
  | _, _, .ins o hp, h => .ins (Ob.take o (by unfold bd at h; unfold bdS; exact h)) hp.take
  | _, _, .ref e, h => .ref (stp_at_take (by unfold bd at h; exact of_decide_eq_true h) e)
  | _, _, .scr e, _ => .scr e.take
theorem Rps.take' {n : Nat} : ∀ {ds : List Mini.D} {vs : List V}, Rps F A H ds vs → bds n ds = true → Rps F (A.take n) H ds vs
  | _, _, .nil, _ => .nil
  | _, _, .cons r t, h => by
    unfold bds at h
    simp only [Bool.and_eq_true] at h
    exact .cons (Rp.take r h.1) (Rps.take' t h.2)
theorem Ob.take {n : Nat} : ∀ {so : SO} {p : Addr}, Ob F A H so p → bdS n so = true → Ob F (A.take n) H so p
  | _, _, .lst e r, h => .lst e (Rps.take' r (by unfold bdS at h; exact h))
  | _, _, .dctK e1 e2 r, h => by
    unfold bdS at h
    simp only [Bool.and_eq_true] at h
    exact .dctK e1 e2 (Rps.take' r h.2)
  | _, _, .dctT e1 e2 e3 e4 r v r2, h => by
    unfold bdS at h
    simp only [Bool.and_eq_true] at h
    exact .dctT e1 e2 e3 e4 (Rps.take' r h.1) v (Rps.take' r2 h.2)
  | _, _, .ins c e1 e2 r, h => .ins c e1 e2 (Rps.take' r (by unfold bdS at h; exact h))
end
theorem RelSt.take {st0 g : Sto} (r : RelSt F A H (st0 ++ g)) (c : Clsd st0) : RelSt F (A.take st0.length) H st0 := by
  have hl : st0.length ≤ A.length := by rw [r.1, List.length_append]; omega
  refine ⟨by rw [List.length_take]; omega, ⟨r.2.1.1.sublist (List.take_sublist _ _), fun b hb => ⟨fun m => (r.2.1.2 b hb).1 (List.mem_of_mem_take m), (r.2.1.2 b hb).2⟩⟩, fun n so e => ?_⟩
  have hn : n < st0.length := (List.getElem?_eq_some_iff.mp e).1
  obtain ⟨a, ha, ob⟩ := r.2.2 n so (by rw [List.getElem?_append_left hn]; exact e)
  exact ⟨a, stp_at_take hn ha, ob.take (c so (List.mem_of_getElem? e))⟩
/-- what is given up lies outside -/
theorem given_out {st0 g : Sto} (r : RelSt F A H (st0 ++ g)) {j : Nat} {a : Addr} (h : A[st0.length + j]? = some a) : Out F (A.take st0.length) a := by
  refine ⟨fun m => ?_, fun m => (r.2.1.2 a m).1 (List.mem_of_getElem? h)⟩
  obtain ⟨i, hi⟩ := List.getElem?_of_mem m
  have hl : i < st0.length := by
    have := (List.getElem?_eq_some_iff.mp hi).1
    rw [List.length_take] at this; omega
  rw [List.getElem?_take_of_lt hl] at hi
  have := nodup_at r.2.1.1 hi h
  omega
mutual
theorem Fz.rp {st0 g : Sto} (r : RelSt F A H (st0 ++ g)) : ∀ {d d' : Mini.D}, Fz st0.length g d d' → ∀ {v : V}, Rp F A H d v → Rp F (A.take st0.length) H d' v
  | _, _, .lst (j := j) e f, _, .ref h => by
    obtain ⟨a, ha, ob⟩ := r.2.2 (st0.length + j) _ (by rw [List.getElem?_append_right (by omega)]; simpa using e)
    rw [h] at ha; cases ha
    cases ob with | lst e1 r1 => exact .lst (.lst e1 (Fzs.rp r f r1)) (given_out r h)
  | _, _, .dct (j := j) e hk f, _, .ref h => by
    obtain ⟨a, ha, ob⟩ := r.2.2 (st0.length + j) _ (by rw [List.getElem?_append_right (by omega)]; simpa using e)
    rw [h] at ha; cases ha
    cases ob with
    | dctK e1 e2 r1 => exact .dct (.dctK e1 e2 (Fzs.rp r f r1)) (given_out r h)
    | dctT e1 e2 e3 e4 r1 v1 r2 => exact .dct (.dctT e1 e2 e3 e4 (Rps.take' r1 hk) v1 (Fzs.rp r f r2)) (given_out r h)
  | _, _, .ins (j := j) e f, _, .ref h => by
    obtain ⟨a, ha, ob⟩ := r.2.2 (st0.length + j) _ (by rw [List.getElem?_append_right (by omega)]; simpa using e)
    rw [h] at ha; cases ha
    cases ob with | ins c e1 e2 r1 => exact .ins (.ins c e1 e2 (Fzs.rp r f r1)) (given_out r h)
  | _, _, .old hb, _, p => p.take hb
  | _, _, .tup f, _, .tup t q => .tup t.take (Fzs.rp r f q)
  | _, _, .inl f, _, .lst o hp => by
    cases o with | lst e1 r1 => exact .lst (.lst e1 (Fzs.rp r f r1)) hp.take
theorem Fzs.rp {st0 g : Sto} (r : RelSt F A H (st0 ++ g)) : ∀ {ds ds' : List Mini.D}, Fzs st0.length g ds ds' → ∀ {vs : List V}, Rps F A H ds vs → Rps F (A.take st0.length) H ds' vs
  | _, _, .nil, _, .nil => .nil
  | _, _, .cons f fs, _, .cons p ps => .cons (Fz.rp r f p) (Fzs.rp r fs ps)
end
theorem Stp.take {A0 : List Addr} {H0 : Hp} (s : Stp A0 H0 A H) {n : Nat} (hn : A0.length ≤ n) : Stp A0 H0 (A.take n) H := by
  obtain ⟨B, e, hB⟩ := s.ext
  refine ⟨⟨B.take (n - A0.length), ?_, fun b hb => hB b (List.mem_of_mem_take hb)⟩, s.keep⟩
  rw [e, List.take_append, List.take_of_length_le hn]
theorem EFz.length {n : Nat} {g : List SO} {e e' : Mini.Env} (h : EFz n g e e') : e'.length = e.length := by
  induction h with
  | nil => rfl
  | drop _ ih => simp [ih]
  | keep _ _ ih => simp [ih]
theorem EFz.get {n : Nat} {g : List SO} {e e' : Mini.Env} (h : EFz n g e e') : ∀ {i : Nat} {d' : Mini.D}, e'[i]? = some (some d') → ∃ d, e[i]? = some (some d) ∧ Fz n g d d' := by
  induction h with
  | nil => intro i d' h; simp at h
  | drop _ ih =>
    intro i d' h
    cases i with
    | zero => simp at h
    | succ i => exact ih (by simpa using h)
  | keep f _ ih =>
    intro i d' h
    cases i with
    | zero => simp at h; subst h; exact ⟨_, by simp, f⟩
    | succ i => exact ih (by simpa using h)
theorem Rel.gh {env env' : Mini.Env} {st0 g : Sto} {σ : L2.St} (r : Rel F none A H env (st0 ++ g) σ) (c : Clsd st0) (f : EFz st0.length g env env') : Rel F none (A.take st0.length) H env' st0 σ := by
  refine ⟨r.rs.take c, ⟨by rw [f.length]; exact r.re.1, fun i d e => ?_⟩, trivial⟩
  obtain ⟨d0, e0, fz⟩ := f.get e
  rcases r.re.2 i d0 e0 with h | ⟨v, hv, p⟩
  · exact absurd h id
  · exact .inr ⟨v, hv, fz.rp r.rs p⟩
/-- at a return -/
theorem RG.link {d : Mini.D} {st : Sto} {A0 : List Addr} {H0 : Hp} {Q : VK} {v : V} (h : RG A0.length d st (QLink F A0 H0 Q)) (s : Stp A0 H0 A H) (r : RelSt F A H st) (p : Rp F A H d v) : Q v H := by
  rcases h with h | ⟨st0, g, d', e, hn, c, fz, q⟩
  · exact h A H v s r p
  · subst e
    exact q _ H v (s.take hn) (r.take c) (fz.rp r p)
end
end Mini
end
section
/-! Statements. -/
namespace Mini
open PySem L2
section
variable {P : PInfo} {F : Fx} {G : Sg} {cx : CTX} {X : Cx} {W : WX} {u : SuiT} {n : Nat} {E : L2.Ends} {A0 A A1 : List Addr} {H0 H H1 : Hp} {env : Mini.Env} {st s1 : Sto} {σ : L2.St}
theorem KL.xl (s : Stp A0 H0 A H) (r : Rel F u A H env st σ) {C : Str} {fs : List Str} {xs : List Mini.D} {s1 : Sto} (h : (KL F u W E A0 H0).xx env C fs xs s1) : XLink F W σ A H C fs xs s1 :=
  fun A' H' cls dd t r' e => h A' H' cls dd σ (s.trans r.rs t) (r.stp t r') e
theorem asg_rd {g : CG} {c : CE} (h : tS F G u W (.asg g c) E σ H) : tAsg (tE F G u W c) (tG F G u g) E σ H := by
  obtain ⟨A0, H0, A, env, st, s, r, h⟩ := h
  unfold wpS at h
  exact tE_one r h (fun C f z s' q => KL.xl s r q) fun d s1 A1 H1 v t r1 p q => ⟨A1, env, s1, d, r.stp t r1, p, wpG_mono g d env s1 (fun e s2 q A' H' σ' t2 r2 _ => q A' H' σ' ((s.trans r.rs t).trans r1 t2) r2) (fun _ _ _ _ z => z) q⟩
theorem exp_rd {c : CE} (h : tS F G u W (.exp c) E σ H) : tDrop (tE F G u W c) E σ H := by
  obtain ⟨A0, H0, A, env, st, s, r, h⟩ := h
  unfold wpS at h
  exact tE_one r h (fun C f z s' q => KL.xl s r q) fun d s1 A1 H1 v t r1 p q => q A1 H1 σ (s.trans r.rs t) (r.stp t r1)
theorem ret_rd {c : CE} (h : tS F G u W (.ret c) E σ H) : tRet (tE F G u W c) E σ H := by
  obtain ⟨A0, H0, A, env, st, s, r, h⟩ := h
  unfold wpS at h
  exact tE_one r h (fun C f z s' q => KL.xl s r q) fun d s1 A1 H1 v t r1 p q => q A1 H1 v (s.trans r.rs t) r1 p
theorem retn_rd (h : tS F G u W .retn E σ H) : tRetN E σ H := by
  obtain ⟨A0, H0, A, env, st, s, r, h⟩ := h
  unfold wpS at h
  exact h A H .non s r.rs .non
theorem pass_rd (h : tS F G u W .pass E σ H) : tNext E σ H := by
  obtain ⟨A0, H0, A, env, st, s, r, h⟩ := h
  unfold wpS at h
  exact h A H σ s r
theorem one_TS {c : CE} {Q1 : QD} {X1 : XP} {R : Bool → Hp → Prop} (rel : Rel F u A H env st σ) (h : wpE G c env st Q1 X1) (hx : ∀ C f x s, X1 C f x s → XLink F W σ A H C f x s)
    (fin : ∀ d s, Q1 d s → ∃ b, d = .bl b ∧ ∀ A' H', Stp A H A' H' → RelSt F A' H' s → R b H') : tT F G u W c σ H R :=
  ⟨A, env, st, rel, wpE_mono c env st fin hx h⟩
theorem iff_rd {c : CE} {a b : CSs} (h : tS F G u W (.iff c a b) E σ H) : tIfS (tT F G u W c) (tSs F G u W a) (tSs F G u W b) E σ H := by
  obtain ⟨A0, H0, A, env, st, s, r, h⟩ := h
  unfold wpS at h
  refine one_TS r h (fun C f z s' q => KL.xl s r q) fun d s1 ⟨k, e, q⟩ => ⟨k, e, fun A' H' t r' => ?_⟩
  cases k with
  | true => exact ⟨A0, H0, A', env, s1, s.trans r.rs t, r.stp t r', q⟩
  | false => exact ⟨A0, H0, A', env, s1, s.trans r.rs t, r.stp t r', q⟩
theorem nil_rd (h : tSs F G u W .nil E σ H) : tNext E σ H := by
  obtain ⟨A0, H0, A, env, st, s, r, h⟩ := h
  unfold wpSs at h
  exact h A H σ s r
theorem cons_rd {c : CS} {cs : CSs} (h : tSs F G u W (.cons c cs) E σ H) : tSeq (tS F G u W c) (tSs F G u W cs) E σ H := by
  obtain ⟨A0, H0, A, env, st, s, r, h⟩ := h
  unfold wpSs at h
  refine ⟨A0, H0, A, env, st, s, r, wpS_mono c env st ?_ h⟩
  exact ⟨Nat.le_refl _, fun e s' q A' H' σ' t r' => ⟨A0, H0, A', e, s', t, r', q⟩, fun _ _ z => z, fun _ _ z => z, fun _ _ z => z, fun _ _ _ _ _ z => z⟩
theorem gh_rd (hu : u = none) {cs : CSs} (h : tSs F G u W (.cons .gh cs) E σ H) : tSs F G u W cs E σ H := by
  subst hu
  obtain ⟨A0, H0, A, env, st, s, r, h⟩ := h
  unfold wpSs at h
  unfold wpS at h
  rcases h with h | ⟨st0, g, env', e, hn, c, f, q⟩
  · exact ⟨A0, H0, A, env, st, s, r, h⟩
  · subst e
    exact ⟨A0, H0, A.take st0.length, env', st0, s.take hn, r.gh c f, q⟩
/-! ### targets' side conditions -/
theorem swap_other {tg v : Expr} {l : Nat} {e : PySem.Env} (h : ∀ x p, tg ≠ .Name x p) : swapsWith v (some tg) l e = pure false := by
  cases v <;> first | rfl | (cases tg <;> first | rfl | exact absurd rfl (h _ _))
theorem swap_plain {tg : Option Expr} {v : Expr} {l : Nat} {e : PySem.Env} (h : isComp v = false) : swapsWith v tg l e = pure false := by
  cases v <;> first | rfl | (simp [isComp] at h)
theorem swap_cell {x : Str} {p : Pos} {v : Expr} {l : Nat} {e : PySem.Env} (hk : e.scope.names.lookup x ≠ some .local) : swapsWith v (some (.Name x p)) l e = pure false := by
  have hk' : (e.kindOf x == some NameKind.local) = false := by
    have : e.kindOf x = e.scope.names.lookup x := rfl
    rw [this]
    simpa using hk
  cases v <;> first | rfl | (unfold swapsWith; simp [hk'])
theorem each_one {tg : Expr} {e : PySem.Env} (h : isStar tg = false) : (assignEach [tg] e).map (·.2) = [assign tg e] := by
  cases tg <;> first | rfl | (simp [isStar] at h)
theorem stores_none {tg v : Expr} {e : PySem.Env} (h : isTupE tg = false ∨ isTupE v = false) (hl : ∀ es p, tg ≠ .List es p) : swappedStores [tg] v e = pure none := by
  rcases h with h | h
  · cases tg <;> first | rfl | exact absurd rfl (hl _ _) | (simp [isTupE] at h)
  · cases tg <;> first | rfl | exact absurd rfl (hl _ _) | (cases v <;> first | rfl | (simp [isTupE] at h))
theorem compG_form {tg : Expr} {g : CG} (h : compG P n cx tg = some g) : isStar tg = false ∧ ∀ es p, tg ≠ .List es p := by
  cases n with
  | zero => simp [compG] at h
  | succ n => cases tg <;> first | (simp [compG] at h; done) | exact ⟨rfl, fun _ _ z => by cases z⟩
end
end Mini
end
section
/-! Stores. -/
namespace Mini
open PySem L2 PySem.Spec PyProof.Rows
section
variable {P : PInfo} {F : Fx} {G : Sg} {cx : CTX} {X : Cx} {W : WX} {u : SuiT} {n : Nat} {E : L2.Ends} {A0 A A1 : List Addr} {H0 H H1 : Hp} {env : Mini.Env} {st s1 : Sto} {σ : L2.St}
theorem swd_true {kx vx : Expr} {gs : List Comprehension} {scope : Scope} {pos py : Pos} {y : Str} {l : Nat} {env : PySem.Env} (hk : env.scope.kind = .function) (hy : env.scope.names.lookup y = some .local) (hl : (py.line == pos.line) = true)
    (ha : (scope.names.any fun (n, k) => n == y && (k == .local || k == .cell)) = false) : swapsWith (.DictComp kx vx gs scope pos) (some (.Name y py)) l env = pure true := by
  have ky : env.kindOf y = some .local := hy
  have hb : env.blockKind = .function := by unfold Env.blockKind; rw [hk]; rfl
  unfold swapsWith
  simp only [hb, ky, ha, Expr.pos, hl]
  rfl
/-- name = {..} on one line, the name a local -/
theorem ps_setDc {X : Cx} {i : Nat} {y : Str} {py : Pos} {kx vx tg iter : Expr} {ifs : List Expr} {scope : Scope} {own : List (Str × Nat)} {pos spos : Pos} {wi : TI} {g : TG} {tt : TT} {tk tv : TE} (hc : X.calm = true) (hN : X.N.Nodup) (hy : X.N[i]? = some y) (hyl : X.env.scope.names.lookup y = some .local)
    (hsw : swapsWith (.DictComp kx vx [⟨tg, iter, ifs, 0⟩] scope pos) (some (.Name y py)) spos.line X.env = pure true) (hi : PI X tg iter wi) (ok : BlkOk X.N X.env.scope scope own)
    (hg : ∀ (s : Shared) (H : Hp) (C : Addr) (cl : List (Str × Addr)) (fp : List Addr), PG (X.blk s H scope (compEnvC scope cl C X.env) fp) tg g) (ht : ∀ (s : Shared) (H : Hp) (C : Addr) (cl : List (Str × Addr)) (fp : List Addr), PTs (X.blk s H scope (compEnvC scope cl C X.env) fp) ifs tt)
    (hk : ∀ (s : Shared) (H : Hp) (C : Addr) (cl : List (Str × Addr)) (fp : List Addr), PE (X.blk s H scope (compEnvC scope cl C X.env) fp) kx tk)
    (he : ∀ (s : Shared) (H : Hp) (C : Addr) (cl : List (Str × Addr)) (fp : List Addr), PE (X.blk s H scope (compEnvC scope cl C X.env) fp) vx tv) (hs : ∀ x, foldedSetIterable iter X.env x = pure x) :
    PS X (.Assign [.Name y py] (.DictComp kx vx [⟨tg, iter, ifs, 0⟩] scope pos) spos) (tAsg (tDc wi g tt tk tv (own.map (·.2))) (gName i)) := by
  refine ⟨fun pins s σ H D I h => ?_⟩
  rw [exec_Assign_Name_used _ _ _ _ hsw]
  refine wpAny_bind (wpAny_standAt (wpAny_bind ?_))
  show wpAny _ X.A (do let _ ← comprehension (.DictComp kx vx [⟨tg, iter, ifs, 0⟩] scope pos) scope X.env (firstIterPos [⟨tg, iter, ifs, 0⟩] pos) newDict false (eval iter X.env) (some (assign (.Name y py) X.env))) _ _ s
  have h : tDc wi g tt tk tv (own.map (·.2)) σ H (fun x H1 => gName i x σ H1 D.nx) := h
  refine wpAny_bind (thn (dc_core (Qf := fun _ s' => SP X pins D .next s') hc hN I hi ok hg ht hk he hs h fun L C s' m H' I' q hn f => ?_) fun _ s' hq => wpAny_pure (wpAny_pure hq))
  show wpAny _ _ (assign (.Name y py) X.env (.ref L)) _ _ _
  refine wpAny_assign_Name (store_ok2 (v := V.ref L) I' hN hy (.inl hyl) rfl (fun s2 I2 ⟨a, sb, ha⟩ => ?_) (.inr hyl))
  obtain ⟨f0, f1, f2, f3, f4, f5⟩ := f
  have haC : C ≠ a := by
    rcases ha with z | z
    · rw [z]; exact f1
    · exact fun e => f4 y a z e.symm
  refine ⟨m, hn.sameBut sb haC, fun h3 sb3 => ?_⟩
  exact ⟨_, H', I2.turned (t' := s2.toks) (fun b o hb e => (sb3.2 b hb).trans e) f0 f1 f3 f4 f5, q⟩
theorem tE_mono {c : CE} {Q Q' : VK} (h : tE F G u W c σ H Q) (hq : ∀ v H, Q v H → Q' v H) : tE F G u W c σ H Q' := by
  obtain ⟨A, env, st, r, h⟩ := h
  exact ⟨A, env, st, r, wpE_mono c env st (fun d s q A' H' v t r p => hq v H' (q A' H' v t r p)) (fun _ _ _ _ z => z) h⟩
/-- as it stands -/
theorem sS_asg0 {m : Bool} {tg v : Expr} {pos : Pos} {g' : CG} {c : CE} (g : Good P F G cx X W u) (hg : compG P n cx tg = some g') (hv : compE P n cx m v = some c) (hsw : swapsWith v (some tg) pos.line X.env = pure false)
    (hst : isTupE tg = false ∨ isTupE v = false) : PS X (.Assign [tg] v pos) (tS F G u W (.asg g' c)) :=
  psImp (ps_asg ((snd P F G n).e hv g) ((snd P F G n).g hg g) hsw (stores_none hst (compG_form hg).2) (each_one (compG_form hg).1)) fun E σ H q => asg_rd q
theorem name_of {x : Str} {p : Pos} {g' : CG} (h : compG P n cx (.Name x p) = some g') : ∃ i, g' = .name i ∧ cx.tgt x = some i ∧ (match cx.sui with | some (_, j) => i != j | none => true) = true := by
  cases n with
  | zero => simp [compG] at h
  | succ n =>
    simp only [compG] at h
    obtain ⟨i, hi, h⟩ := Option.bind_eq_some_iff.mp h
    obtain ⟨hs, h⟩ := ifB_some.mp h
    cases h
    exact ⟨i, rfl, hi, hs⟩
theorem asg_name_rd {i : Nat} {c : CE} {t : TE} (g : Good P F G cx X W u) (hs : (match cx.sui with | some (_, j) => i != j | none => true) = true) (hi : ∀ σ H Q, tE F G u W c σ H Q → t σ H Q) (h : tS F G u W (.asg (.name i) c) E σ H) : tAsg t (gName i) E σ H :=
  hi _ _ _ (tE_mono (asg_rd h) fun v H1 q => nameG_rd g hs q)
/-- name = [..]: stored by the comprehension -/
theorem sS_setC {m : Bool} {x : Str} {p pos : Pos} {v : Expr} {g' : CG} {c : CE} (g : Good P F G cx X W u) (hg : compG P n cx (.Name x p) = some g') (hv : compE P n cx m v = some c) (hl : isLoc cx x = true) (ho : oneGen v = true) (hp : (p.line == v.pos.line) = true)
    (hn : ((compNames v).any fun (n, k) => n == x && (k == .local || k == .cell)) = false) : PS X (.Assign [.Name x p] v pos) (tS F G u W (.asg g' c)) := by
  obtain ⟨i, rfl, hi, hs⟩ := name_of hg
  obtain ⟨k1, k2, k3⟩ := g.tgt hi
  have hyl : X.env.scope.names.lookup x = some .local := by rw [g.sc]; simpa [isLoc] using hl
  have hb : X.env.blockKind = .function → (X.env.blockKind == ScopeKind.function) = true := fun e => by rw [e]; rfl
  cases n with
  | zero => simp [compE] at hv
  | succ n =>
    have ihn := snd P F G n
    have ih' : ∀ ps, SndAt P (F.pv ps) G n := fun ps => snd P (F.pv ps) G n
    cases v with
    | ListComp el gens scope lpos =>
      match gens, hv, ho with
      | [⟨tg, it, ifs, 0⟩], hv, _ =>
        simp only [compE] at hv
        obtain ⟨hb, h⟩ := ifB_some.mp hv
        simp only [Bool.and_eq_true] at hb
        obtain ⟨it', hi, h⟩ := Option.bind_eq_some_iff.mp h
        obtain ⟨tg', hg, h⟩ := Option.bind_eq_some_iff.mp h
        obtain ⟨t', ht, h⟩ := Option.bind_eq_some_iff.mp h
        obtain ⟨el', he, h⟩ := Option.bind_eq_some_iff.mp h
        obtain ⟨hsl, h⟩ := ifB_some.mp h
        cases h
        obtain ⟨wi, gg, tt, te, h1, h2, h3, h4, h5, h6⟩ := lc_parts ihn ih' (m := m) g hb.1 hb.2 hi hg ht he hsl
        exact psImp ⟨fun pins s σ H D I q => (ps_setLc (g.calm hb.1) g.nd k1 hyl (sw_true I.ok.kind hyl hp hn) h1 h2 h3 h4 h5 (noset hi)).run pins s σ H D I q⟩ fun E σ H q => asg_name_rd g hs h6 q
    | DictComp ke ve gens scope lpos =>
      match gens, hv, ho with
      | [⟨tg, it, [], 0⟩], hv, _ =>
        simp only [compE] at hv
        obtain ⟨hb, h⟩ := ifB_some.mp hv
        simp only [Bool.and_eq_true] at hb
        obtain ⟨it', hi, h⟩ := Option.bind_eq_some_iff.mp h
        obtain ⟨tg', hg, h⟩ := Option.bind_eq_some_iff.mp h
        obtain ⟨k', hk, h⟩ := Option.bind_eq_some_iff.mp h
        obtain ⟨v', hve, h⟩ := Option.bind_eq_some_iff.mp h
        obtain ⟨hsl, h⟩ := ifB_some.mp h
        cases h
        obtain ⟨wi, gg, tt, tk, tv, h1, h2, h3, h4, h5, h6, h7⟩ := dc_parts ihn ih' (m := m) g hb.1 hb.2 hi hg hk hve hsl
        exact psImp ⟨fun pins s σ H D I q => (ps_setDc (g.calm hb.1) g.nd k1 hyl (swd_true I.ok.kind hyl hp hn) h1 h2 h3 h4 h5 h6 (noset hi)).run pins s σ H D I q⟩ fun E σ H q => asg_name_rd g hs h7 q
    | _ => simp [oneGen] at ho
end
end Mini
end
section
/-! Stores of several names; counters; loops. -/
namespace Mini
open PySem L2 PySem.Spec PyProof.Rows
section
variable {P : PInfo} {F : Fx} {G : Sg} {cx : CTX} {X : Cx} {W : WX} {u : SuiT} {n : Nat} {E : L2.Ends} {A0 A A1 : List Addr} {H0 H H1 : Hp} {env : Mini.Env} {st s1 : Sto} {σ : L2.St}
theorem paFlags {f : Bool → Expr → Option CE} (hf : ∀ m e c, f m e = some c → PE X e (tE F G u W c)) : ∀ {l : List (Bool × Expr)} {cs : CEs}, compFlags f l = some cs → PA X (l.map (·.2)) (tA F G u W cs)
  | [], _, h => by
    simp only [compFlags, Option.some.injEq] at h
    subst h
    refine paImp pa_nil fun σ H Q ⟨A, env, st, rel, h⟩ => ?_
    unfold wpEs at h
    exact h A H [] .refl rel.rs .nil
  | (m, e) :: es, cs, h => by
    simp only [compFlags] at h
    obtain ⟨hst, h⟩ := ifB_some.mp h
    split at h
    · rename_i c cs' he hc
      cases h
      refine paImp (pa_cons (hf m e c he) (paFlags hf hc) (star_plain (not_star hst))) fun σ H Q ⟨A, env, st, rel, h⟩ => ?_
      unfold wpEs at h
      refine tE_one rel h (fun _ _ _ _ z => z) fun d s A1 H1 v t r p q => ?_
      refine ⟨A1, env, s, rel.stp t r, wpEs_mono _ _ _ (fun ds s2 q A2 H2 ws t2 r2 p2 => q A2 H2 (v :: ws) (t.trans r t2) r2 (.cons (p.stp t2) p2)) (fun C f z s' q => q.stp r t) q⟩
    · cases h
theorem zip_snd {ts vs : List Expr} (f : Expr → Bool) (h : vs.length = ts.length) : ((ts.map f).zip vs).map (·.2) = vs := by
  induction ts generalizing vs with
  | nil => cases vs <;> simp_all
  | cons t ts ih =>
    cases vs with
    | nil => simp at h
    | cons v vs => simp at h ⊢; exact ih h
/-- the tuple's own reading -/
theorem tup_rd {es : CEs} {σ : L2.St} {H : Hp} {Q : VK} (h : tE F G u W (.tup es) σ H Q) : tA F G u W es σ H fun vs H1 => vs.length ≤ sizeLine ∧ ∀ a, H1 a = none → Q (.ref a) (upd H1 a (.tup vs)) := by
  obtain ⟨A, env, st, rel, h⟩ := h
  unfold wpE at h
  refine tA_one rel h (fun _ _ _ _ z => z) fun ds s A1 H1 vs t r p ⟨l, q⟩ => ⟨by rw [← p.length]; exact l, fun a ha => q_new_tup r t p ha q⟩
theorem par_rd {gs : CGs} {es : CEs} (h : tS F G u W (.asg (.tup gs) (.tup es)) E σ H) : tA F G u W es σ H fun vs H1 => tGs F G u gs vs σ H1 E.nx := by
  obtain ⟨A0, H0, A, env, st, s, r, h⟩ := h
  unfold wpS at h
  unfold wpE at h
  refine tA_one r h (fun C f z s' q => KL.xl s r q) fun ds s1 A1 H1 vs t r1 p ⟨l, q⟩ => ?_
  unfold wpG at q
  obtain ⟨xs, e, hl, q⟩ := q
  have e' : ds = xs := by simpa [asS] using e
  subst e'
  exact ⟨A1, env, s1, ds, r.stp t r1, p, wpGs_mono gs ds env s1 (fun e s2 q A' H' σ' t2 r2 _ => q A' H' σ' ((s.trans r.rs t).trans r1 t2) r2) (fun _ _ _ _ z => z) q⟩
theorem gs_cons_rd {i : Nat} {gs : CGs} {vs : List V} {σ : L2.St} {H : Hp} {Q : L2.St → Hp → Prop} (hu : ¬ u.is i) (h : tGs F G u (.cons (.name i) gs) vs σ H Q) : ∃ v r, vs = v :: r ∧ tGs F G u gs r (σ.set i (some v)) H Q := by
  obtain ⟨A, env, st, ds, r, p, h⟩ := h
  unfold wpGs at h
  obtain ⟨y, rest, e, h⟩ := h
  subst e
  cases p with
  | cons p ps =>
    unfold wpG at h
    refine ⟨_, _, rfl, A, _, st, rest, r.setv p hu, ps, wpGs_mono gs rest _ _ (fun e s q A' H' σ' t r' o => q A' H' σ' t r' ?_) (fun _ _ _ _ z => z) h.2⟩
    refine ⟨by rw [o.1, List.length_set], fun j hj => ?_⟩
    unfold slotsGs slotsG at hj
    have hj' : j ≠ i ∧ j ∉ slotsGs gs := by simpa using hj
    rw [o.2 j hj'.2, List.getElem?_set_ne (Ne.symm hj'.1)]
theorem gs_nil_rd {vs : List V} {σ : L2.St} {H : Hp} {Q : L2.St → Hp → Prop} (h : tGs F G u .nil vs σ H Q) : vs = [] ∧ Q σ H := by
  obtain ⟨A, env, st, ds, r, p, h⟩ := h
  unfold wpGs at h
  obtain ⟨e, q⟩ := h
  subst e
  cases p
  exact ⟨rfl, q A H σ .refl r .refl⟩
/-! ### counters -/
theorem aug_rd {i : Nat} {op : BOp} {c : CE} {f : Int → Int → Int} (hu : ¬ u.is i) (hop : ∀ s a b d, binD s op (.int a) (.int b) = some d → d = .int (f a b)) (h : tS F G u W (.aug i op c) E σ H) : tAug i (tE F G u W c) (ipI f) E σ H := by
  obtain ⟨A0, H0, A, env, st, s, r, h⟩ := h
  unfold wpS at h
  obtain ⟨x, e, h⟩ := h
  rcases r.re.2 i x e with z | ⟨v, hv, p⟩
  · exact absurd z hu
  refine ⟨v, hv, tE_one r h (fun C f z s' q => KL.xl s r q) fun d s1 A1 H1 w t r1 pw ⟨d', e', ⟨a, b, ea, eb⟩, q⟩ => ?_⟩
  subst ea eb
  cases p; cases pw
  have := hop _ _ _ _ e'
  subst this
  refine ⟨a, b, rfl, rfl, q A1 H1 _ (s.trans r.rs t) ((r.stp t r1).setv (.int _) hu)⟩
/-! ### loops -/
theorem loopF_at {dep : Sto → Prop} {body : Mini.D → Mini.Env → Sto → Kt → Prop} {xs : List Mini.D} {i : Nat} {env : Mini.Env} {st : Sto} {K : Kt} (h : loopF dep body (xs.drop i) env st K) :
    dep st ∧ ((xs.length ≤ i ∧ K.nx env st) ∨ ∃ x, xs[i]? = some x ∧ body x env st { K with nx := fun e s => loopF dep body (xs.drop (i + 1)) e s K, ct := fun e s => loopF dep body (xs.drop (i + 1)) e s K, bk := K.nx }) := by
  by_cases hi : i < xs.length
  · rw [List.drop_eq_getElem_cons hi] at h
    exact ⟨h.1, .inr ⟨xs[i], List.getElem?_eq_getElem hi, h.2⟩⟩
  · rw [List.drop_eq_nil_of_le (by omega)] at h
    exact ⟨h.1, .inl ⟨by omega, h.2⟩⟩
theorem for_rd {g : CG} {it : CI} {b : CSs} (h : tS F G u W (.forr g it b) E σ H) : tFor (tI F G u W it) (tG F G u g) (tSs F G u W b) E σ H := by
  obtain ⟨A0, H0, A, env, st, s, r, h⟩ := h
  unfold wpS at h
  refine ⟨A, env, st, r, wpI_mono it env st (fun xs dep s1 q A1 H1 J t r1 ok => ?_) (fun C f z s' q => KL.xl s r q) h⟩
  have T1 : Stp A0 H0 A1 H1 := s.trans r.rs t
  refine ⟨fun i m σ2 H2 => m = xs.length - i ∧ i ≤ xs.length ∧ ∃ A2 e2 s2, Stp A1 H1 A2 H2 ∧ Rel F u A2 H2 e2 s2 σ2 ∧
    loopF dep (fun x e s K' => wpG G g x e s (fun e2 s2 => wpSs G b e2 s2 K') noX) (xs.drop i) e2 s2 { KL F u W E A0 H0 with n0 := s1.length }, ⟨_, rfl, Nat.zero_le _, A1, env, s1, .refl, r.stp t r1, q⟩, ?_⟩
  rintro i m σ2 H2 ⟨hm, hi, A2, e2, s2, t2, r2, hl⟩
  obtain ⟨hdep, hl⟩ := loopF_at hl
  rcases hl with ⟨hge, q⟩ | ⟨x, hx, hb⟩
  · have : i = xs.length := by omega
    exact .inl ⟨ok.stop F.priv i A2 H2 s2 (fun b hb => .inl hb) t2.toq r2.rs hdep this, q A2 H2 σ2 (T1.trans r1 t2) r2⟩
  · have hlt : i < xs.length := (List.getElem?_eq_some_iff.mp hx).1
    refine .inr ⟨ok.go F.priv i A2 H2 s2 (fun b hb => .inl hb) t2.toq r2.rs hdep hlt, _, fun σ' H' hN => hN, fun v H3 hy => ?_⟩
    obtain ⟨d, hd, t3, r3, p3⟩ := ok.yld F.priv i A2 H2 s2 v H3 (fun b hb => .inl hb) t2.toq r2.rs hdep hlt hy
    rw [hx] at hd; cases hd
    refine ⟨A2, e2, s2, x, r2.stp t3 r3, p3, wpG_mono g x e2 s2 (fun e4 s4 q4 A4 H4 σ4 t4 r4 _ => ⟨A1, H1, A4, e4, s4, (t2.trans r2.rs t3).trans r3 t4, r4, wpSs_mono b e4 s4 ?_ q4⟩) (fun _ _ _ _ z => z) hb⟩
    exact ⟨by show A1.length ≤ s1.length; rw [r1.1]; exact Nat.le_refl _, fun e5 s5 q5 A5 H5 σ5 t5 r5 => ⟨xs.length - (i + 1), by omega, rfl, by omega, A5, e5, s5, t5, r5, q5⟩, fun d s5 q5 => QLink.stp r1 T1 q5,
      fun e5 s5 q5 A5 H5 σ5 t5 r5 => q5 A5 H5 σ5 (T1.trans r1 t5) r5, fun e5 s5 q5 A5 H5 σ5 t5 r5 => ⟨xs.length - (i + 1), by omega, rfl, by omega, A5, e5, s5, t5, r5, q5⟩,
      fun e5 C fs ys s5 q5 A5 H5 cls dd σ5 t5 r5 ex => q5 A5 H5 cls dd σ5 (T1.trans r1 t5) r5 ex⟩
theorem whl_rd {c : CE} {b : CSs} (h : tS F G u W (.whl c b) E σ H) : tWhile (tT F G u W c) (tSs F G u W b) E σ H := by
  obtain ⟨A0, H0, A, env, st, s, r, h⟩ := h
  unfold wpS at h
  obtain ⟨V, ⟨m0, v0⟩, turn⟩ := h
  refine ⟨fun m σ2 H2 => ∃ A2 e2 s2, Stp A0 H0 A2 H2 ∧ Rel F u A2 H2 e2 s2 σ2 ∧ V m e2 s2, ⟨m0, A, env, st, s, r, v0⟩, ?_⟩
  rintro m σ2 H2 ⟨A2, e2, s2, t2, r2, hv⟩
  refine one_TS r2 (turn m e2 s2 hv) (fun C f z s' q => KL.xl t2 r2 q) fun d s3 ⟨k, e, q⟩ => ⟨k, e, fun A3 H3 t3 r3 => ?_⟩
  cases k with
  | true =>
    refine ⟨fun σ' H' => ∃ m', m' < m ∧ ∃ A2 e2 s2, Stp A0 H0 A2 H' ∧ Rel F u A2 H' e2 s2 σ' ∧ V m' e2 s2, fun _ _ z => z, A0, H0, A3, e2, s3, t2.trans r2.rs t3, r2.stp t3 r3, wpSs_mono b e2 s3 ?_ q⟩
    exact ⟨Nat.le_refl _, fun e5 s5 ⟨m', hm, v5⟩ A5 H5 σ5 t5 r5 => ⟨m', hm, A5, e5, s5, t5, r5, v5⟩, fun _ _ z => z, fun _ _ z => z, fun e5 s5 ⟨m', hm, v5⟩ A5 H5 σ5 t5 r5 => ⟨m', hm, A5, e5, s5, t5, r5, v5⟩, fun _ _ _ _ _ z => z⟩
  | false => exact q A3 H3 σ2 (t2.trans r2.rs t3) (r2.stp t3 r3)
end
end Mini
end
section
/-! Stores of several names; raise; try; all statements. -/
namespace Mini
open PySem L2 PySem.Spec PyProof.Rows
section
variable {P : PInfo} {F : Fx} {G : Sg} {cx : CTX} {X : Cx} {W : WX} {u : SuiT} {n : Nat} {E : L2.Ends} {A0 A A1 : List Addr} {H0 H H1 : Hp} {env : Mini.Env} {st s1 : Sto} {σ : L2.St}
def swN (env : PySem.Env) (ts : List Expr) : List Str := ts.filterMap fun
  | .Name id pos => if env.kindOf id == some .local && pos.line == (ts.head?.map (·.pos.line)).getD 0 then some id else none
  | _ => none
theorem swapped_is {ts vs : List Expr} {kt k2 : Nat} {pt pt2 : Pos} {env : PySem.Env} {b : Bool} (hk : env.scope.kind = .function) (hsc : env.scope = cx.sc) (h : parKind cx ts vs = some b) :
    swappedStores [.Tuple ts kt pt] (.Tuple vs k2 pt2) env = pure (if b then some (parNames cx ts) else none) := by
  have hb : (env.blockKind != ScopeKind.function) = false := by
    have : env.blockKind = .function := by unfold Env.blockKind; rw [hk]; rfl
    rw [this]; rfl
  have hn : swN env ts = parNames cx ts := by
    unfold swN
    unfold parNames
    congr 1
    funext t
    cases t <;> try rfl
    rename_i x p
    have : (env.kindOf x == some NameKind.local) = isLoc cx x := by
      have e : env.kindOf x = cx.sc.names.lookup x := by rw [← hsc]; rfl
      rw [e]
      unfold isLoc
      by_cases z : List.lookup x cx.sc.names = some NameKind.local
      · simp [z]
      · simp [z]
    simp only [this]
  unfold parKind at h
  unfold swappedStores
  simp only [hb, Bool.or_false]
  show (if (!(ts.length == 2 || ts.length == 3) || vs.length != ts.length) = true then pure none else if vs.any isStar = true then pure none else if ((swN env ts).length != ts.length || (swN env ts).eraseDups.length != (swN env ts).length) = true then pure none else
    if vs.all (foldedForSure 8) = true then pure none else (_ : Sem (Option (List Str)))) = _
  rw [hn]
  by_cases c : (!(ts.length == 2 || ts.length == 3) || vs.length != ts.length) = true
  · rw [if_pos c] at h ⊢
    cases h; rfl
  rw [if_neg c] at h ⊢
  by_cases c2 : vs.any isStar = true
  · rw [if_pos c2] at h ⊢
    cases h; rfl
  rw [if_neg c2] at h ⊢
  by_cases c3 : ((parNames cx ts).length != ts.length || (parNames cx ts).eraseDups.length != (parNames cx ts).length) = true
  · rw [if_pos c3] at h ⊢
    cases h; rfl
  rw [if_neg c3] at h ⊢
  by_cases c4 : vs.all (foldedForSure 8) = true
  · rw [if_pos c4] at h ⊢
    cases h; rfl
  rw [if_neg c4] at h ⊢
  by_cases c5 : vs.all (constantsAlone 8) = true
  · rw [if_pos c5] at h; cases h
  rw [if_neg c5] at h ⊢
  cases h
  rw [← hn]
  rfl
theorem tA_mono {cs : CEs} {σ : L2.St} {H : Hp} {Q Q' : List V → Hp → Prop} (h : tA F G u W cs σ H Q) (hq : ∀ v H, Q v H → Q' v H) : tA F G u W cs σ H Q' := by
  obtain ⟨A, env, st, r, h⟩ := h
  exact ⟨A, env, st, r, wpEs_mono cs env st (fun d s q A' H' v t r p => hq v H' (q A' H' v t r p)) (fun _ _ _ _ z => z) h⟩
theorem compG_name {x : Str} {p : Pos} {g' : CG} (g : Good P F G cx X W u) (h : compG P n cx (.Name x p) = some g') : ∃ i, g' = .name i ∧ X.N[i]? = some x := by
  obtain ⟨i, rfl, hi, _⟩ := name_of h
  exact ⟨i, rfl, (g.tgt hi).1⟩
theorem gs_split {e : Expr} {es : List Expr} {gs : CGs} (h : compGs P n cx (e :: es) = some gs) : ∃ m g' gs', n = m + 1 ∧ gs = .cons g' gs' ∧ compG P m cx e = some g' ∧ compGs P m cx es = some gs' := by
  cases n with
  | zero => simp [compGs] at h
  | succ n =>
    simp only [compGs] at h
    obtain ⟨_, h⟩ := ifB_some.mp h
    obtain ⟨g', h1, h⟩ := Option.bind_eq_some_iff.mp h
    obtain ⟨gs', h2, h⟩ := Option.map_eq_some_iff.mp h
    exact ⟨n, g', gs', rfl, h.symm, h1, h2⟩
theorem gs_nil {gs : CGs} (h : compGs P n cx [] = some gs) : gs = .nil := by
  cases n with
  | zero => simp [compGs] at h
  | succ n => simp only [compGs, Option.some.injEq] at h; exact h.symm
theorem parNames_len {ts : List Expr} (h : (parNames cx ts).length = ts.length) : ∀ t ∈ ts, ∃ x p, t = .Name x p ∧ isLoc cx x = true := by
  intro t ht
  unfold parNames at h
  by_cases hc : ∃ x p, t = .Name x p ∧ isLoc cx x = true
  · exact hc
  · exfalso
    have key : ∀ (f : Expr → Option Str) (l : List Expr), t ∈ l → f t = none → (l.filterMap f).length < l.length := by
      intro f l
      induction l with
      | nil => intro h; simp at h
      | cons a l ih =>
        intro hm hf
        rcases List.mem_cons.mp hm with e | hm
        · subst e
          rw [List.filterMap_cons, hf]
          have := List.length_filterMap_le f l
          simp; omega
        · have := ih hm hf
          rw [List.filterMap_cons]
          split <;> simp only [List.length_cons] <;> omega
    refine absurd h (Nat.ne_of_lt (key _ ts ht ?_))
    cases t <;> try rfl
    rename_i x p
    have : isLoc cx x = false := by
      cases z : isLoc cx x with
      | false => rfl
      | true => exact absurd ⟨x, p, rfl, z⟩ hc
    simp [this]
theorem par_names {ts vs : List Expr} (h : parKind cx ts vs = some true) : (ts.length = 2 ∨ ts.length = 3) ∧ vs.length = ts.length ∧ vs.any isStar = false ∧ (parNames cx ts).length = ts.length ∧ (parNames cx ts).eraseDups.length = (parNames cx ts).length := by
  unfold parKind at h
  split at h
  · cases h
  rename_i c
  split at h
  · cases h
  rename_i c2
  split at h
  · cases h
  rename_i c3
  simp only [Bool.or_eq_true, Bool.not_eq_true', bne_iff_ne, ne_eq, not_or, Bool.or_eq_false_iff, beq_eq_false_iff_ne, not_and, Decidable.not_not] at c c3
  refine ⟨?_, c.2, by simpa using c2, c3.1, c3.2⟩
  by_cases h2 : ts.length = 2
  · exact .inl h2
  · exact .inr (c.1 h2)
theorem Good.nou (g : Good P F G cx X W u) (hc : cx.calm = true) (i : Nat) : ¬ u.is i := by
  rw [(g.nosui hc).1]
  exact fun z => z
theorem sS_par {ts vs : List Expr} {kt k2 : Nat} {pt pt2 pos : Pos} {gs : CGs} {es : CEs} {pk : Bool} (g : Good P F G cx X W u) (hc : cx.calm = true) (hl : vs.length = ts.length) (hp : parKind cx ts vs = some pk) (hg : compGs P n cx ts = some gs)
    (he : compFlags (fun m e => compE P n cx m e) ((ts.map (tgtFlag cx)).zip vs) = some es) : PS X (.Assign [.Tuple ts kt pt] (.Tuple vs k2 pt2) pos) (tS F G u W (.asg (.tup gs) (.tup es))) := by
  have pa : PA X vs (tA F G u W es) := by
    have := paFlags (F := F) (G := G) (u := u) (W := W) (X := X) (fun m e c h => (snd P F G n).e h g) he
    rwa [zip_snd _ hl] at this
  have hsc : X.env.scope = cx.sc := g.sc
  cases pk with
  | false =>
    refine ⟨fun pins s σ H D I q => ?_⟩
    have hw := swapped_is (kt := kt) (k2 := k2) (pt := pt) (pt2 := pt2) I.ok.kind hsc hp
    refine (psImp (ps_asg (pe_tup pa) (sG_tup g hc hg ((snd P F G n).gs hg g)) rfl hw rfl) fun E σ H q => ?_).run pins s σ H D I q
    have q := asg_rd q
    exact tup_rd q
  | true =>
    obtain ⟨h23, hvl, hst, hnl, hed⟩ := par_names hp
    have hall := parNames_len hnl
    have hw : ∀ (pins : List (Addr × Obj)) (s : Shared) (σ : L2.St) (H : Hp), Inv X pins σ H s → swappedStores [.Tuple ts kt pt] (.Tuple vs k2 pt2) X.env = pure (some (parNames cx ts)) := fun _ _ _ _ I => swapped_is I.ok.kind hsc hp
    match ts, vs, h23, hvl, hall, hg, pa, hw, hnl, hed with
    | [t1, t2], [v1, v2], _, _, hall, hg, pa, hw, hnl, hed =>
      obtain ⟨x, px, rfl, lx⟩ := hall t1 (by simp)
      obtain ⟨y, py, rfl, ly⟩ := hall t2 (by simp)
      obtain ⟨m1, g1, gs1, rfl, rfl, c1, hg⟩ := gs_split hg
      obtain ⟨m2, g2, gs2, rfl, rfl, c2, hg⟩ := gs_split hg
      obtain rfl := gs_nil hg
      obtain ⟨i, rfl, hi⟩ := compG_name g c1
      obtain ⟨j, rfl, hj⟩ := compG_name g c2
      have hx : X.env.scope.names.lookup x = some .local := by rw [hsc]; simpa [isLoc] using lx
      have hy : X.env.scope.names.lookup y = some .local := by rw [hsc]; simpa [isLoc] using ly
      have hN : parNames cx [.Name x px, .Name y py] = [x, y] := by
        have h := hnl
        simp only [parNames, List.filterMap_cons, List.filterMap_nil, lx, ly, Bool.true_and] at h ⊢
        split at h <;> split at h <;> simp_all
      have hij : i ≠ j := by
        rintro rfl
        rw [hi] at hj
        cases hj
        rw [hN] at hed
        simp [List.eraseDups_cons] at hed
      refine ⟨fun pins s σ H D I q => ?_⟩
      have hw := hw _ _ _ _ I
      rw [hN] at hw
      refine (psImp (ps_par (g.calm hc) g.nd hi hj hij hx hy pa hw) fun E σ H q => ?_).run pins s σ H D I q
      refine tA_mono (par_rd q) fun ws H1 q => ?_
      obtain ⟨v, r1, rfl, q1⟩ := gs_cons_rd (g.nou hc i) q
      obtain ⟨w, r2, rfl, q2⟩ := gs_cons_rd (g.nou hc j) q1
      obtain ⟨rfl, q3⟩ := gs_nil_rd q2
      exact ⟨v, w, rfl, q3⟩
    | [t1, t2, t3], [v1, v2, v3], _, _, hall, hg, pa, hw, hnl, hed =>
      obtain ⟨x, px, rfl, lx⟩ := hall t1 (by simp)
      obtain ⟨y, py, rfl, ly⟩ := hall t2 (by simp)
      obtain ⟨z, pz, rfl, lz⟩ := hall t3 (by simp)
      obtain ⟨m1, g1, gs1, rfl, rfl, c1, hg⟩ := gs_split hg
      obtain ⟨m2, g2, gs2, rfl, rfl, c2, hg⟩ := gs_split hg
      obtain ⟨m3, g3, gs3, rfl, rfl, c3, hg⟩ := gs_split hg
      obtain rfl := gs_nil hg
      obtain ⟨i, rfl, hi⟩ := compG_name g c1
      obtain ⟨j, rfl, hj⟩ := compG_name g c2
      obtain ⟨l, rfl, hl⟩ := compG_name g c3
      have hx : X.env.scope.names.lookup x = some .local := by rw [hsc]; simpa [isLoc] using lx
      have hy : X.env.scope.names.lookup y = some .local := by rw [hsc]; simpa [isLoc] using ly
      have hz : X.env.scope.names.lookup z = some .local := by rw [hsc]; simpa [isLoc] using lz
      have hN : parNames cx [.Name x px, .Name y py, .Name z pz] = [x, y, z] := by
        have h := hnl
        simp only [parNames, List.filterMap_cons, List.filterMap_nil, lx, ly, lz, Bool.true_and] at h ⊢
        split at h <;> split at h <;> split at h <;> simp_all
      have ed : ∀ {a b c : Str}, ([a, b, c].eraseDups.length = [a, b, c].length) → a ≠ b ∧ a ≠ c ∧ b ≠ c := by
        intro a b c h
        by_cases h1 : b = a
        · subst h1
          by_cases h2 : c = b
          · subst h2; simp [List.eraseDups_cons] at h
          · simp [List.eraseDups_cons, List.filter_cons, h2] at h
        · by_cases h2 : c = a
          · subst h2; simp [List.eraseDups_cons, List.filter_cons, h1] at h
          · by_cases h3 : c = b
            · subst h3; simp [List.eraseDups_cons, List.filter_cons, h1] at h
            · exact ⟨fun e => h1 e.symm, fun e => h2 e.symm, fun e => h3 e.symm⟩
      have hd := ed (by rw [hN] at hed; exact hed)
      have hij : i ≠ j := by rintro rfl; rw [hi] at hj; cases hj; exact hd.1 rfl
      have hil : i ≠ l := by rintro rfl; rw [hi] at hl; cases hl; exact hd.2.1 rfl
      have hjl : j ≠ l := by rintro rfl; rw [hj] at hl; cases hl; exact hd.2.2 rfl
      refine ⟨fun pins s σ H D I q => ?_⟩
      have hw := hw _ _ _ _ I
      rw [hN] at hw
      refine (psImp (ps_par3 (g.calm hc) g.nd hi hj hl hij hil hjl hx hy hz pa hw) fun E σ H q => ?_).run pins s σ H D I q
      refine tA_mono (par_rd q) fun ws H1 q => ?_
      obtain ⟨v, r1, rfl, q1⟩ := gs_cons_rd (g.nou hc i) q
      obtain ⟨w, r2, rfl, q2⟩ := gs_cons_rd (g.nou hc j) q1
      obtain ⟨y', r3, rfl, q3⟩ := gs_cons_rd (g.nou hc l) q2
      obtain ⟨rfl, q4⟩ := gs_nil_rd q3
      exact ⟨v, w, y', rfl, q4⟩
end
end Mini
end
section
/-! try with several named clauses. -/
namespace L2
open PySem PySem.Spec PyProof.Rows
abbrev GoneE (E : Ends) (i : Nat) : Ends := { nx := fun σ' H' => E.nx (σ'.set i none) H', rt := E.rt, bk := fun σ' H' => E.bk (σ'.set i none) H', ct := fun σ' H' => E.ct (σ'.set i none) H' }
/-- what the clauses wish of an exception of the body: slot i is the clause's name's -/
def wNames (K : PySem.W.Frag) (Wout : WX) (D : Ends) : List (Value × Nat × (Addr → Value → Option Addr → TS)) → WX
  | [] => Wout
  | (c, i, ts) :: r => fun cls d σ H => ∃ b, PySem.W.exmOne K cls c = some b ∧ (b = true → ∀ a, H a = none → ts a cls d (GoneE D i) (σ.set i (some (.ref a))) H) ∧ (b = false → wNames K Wout D r cls d σ H)
inductive HdsN (X : Cx) : List ExceptHandler → List (Value × Nat × (Addr → Value → Option Addr → TS)) → Prop
  | nil : HdsN X [] []
  | cons {x n : Str} {i : Nat} {c : Value} {ts : Addr → Value → Option Addr → TS} {b₀ : Stmt} {suite : List Stmt} {np pos' : Pos} {hds : List ExceptHandler} {l : List (Value × Nat × (Addr → Value → Option Addr → TS))} (hc : Names X x c) (hi : X.N[i]? = some n) (hln : X.env.kindOf n = some .local)
      (hsu : ∀ (a : Addr) (oe : Obj) (cls : Value) (d : Option Addr) (pn : List (Addr × Obj)), Zc cls d oe → (∃ vs, oe.data = .fields vs) → PSs (X.suite a ((a, oe) :: pn)) (b₀ :: suite) (ts a cls d)) (r : HdsN X hds l) :
      HdsN X (.ExceptHandler (some (.Name x np)) (some n) (b₀ :: suite) pos' :: hds) ((c, i, ts) :: l)
section
variable {X : Cx} {body : List Stmt} {h₀ : ExceptHandler} {hds : List ExceptHandler} {l : List (Value × Nat × (Addr → Value → Option Addr → TS))} {pos : Pos} {tb : WX → TS} {Wout : WX}
theorem ps_try_names (hs : X.stack = X.env :: X.outer) (hf : X.env.frame = some X.env.locals) (hN : X.N.Nodup) (tk : Takes X Wout)
    (hb : ∀ (W : WX) (pn : List (Addr × Obj)) (xe : Value → Shared → Prop), Takes (X.tr pn xe) W → PassesOwn (model X.prog X.w) X.A X.env xe → PSs (X.tr pn xe) body (tb W))
    (hh : HdsN X (h₀ :: hds) l) : PS X (.Try body (h₀ :: hds) [] [] pos) (fun D σ H => tb (wNames X.K Wout D l) D σ H) := by
  refine ⟨fun pins s σ H D I h => ?_⟩
  have ok := I.ok
  have hfr : X.A.frames = some (X.env :: X.outer) := by rw [ok.frames, hs]
  refine wpAny_Try_except ?_
  refine wpAny_mono ((hb (wNames X.K Wout D l) (X.pn ++ pins) (fun e s₁ => wpAny (model X.prog X.w) X.A (noteFrame e X.env) (fun _ s₂ => wpAny (model X.prog X.w) X.A (setFlight e none) (fun _ s₃ =>
    wpAny (model X.prog X.w) X.A (handleBy e X.env (h₀ :: hds)) (SP X pins D) X.xe s₃) X.xe s₂) X.xe s₁) (fun u s' xx => ?_) PassesOwn.looking).run [] s σ H D (I.toTry _) h) (fun f s1 hsp => ?_) (fun e s1 he => he)
  · -- the catch
    obtain ⟨a, B, sI, pins', σ', H', cls, d, rfl, J', nb, up, sky, na, os, ag, w⟩ := xx
    have J : Inv X pins σ' H' sI := J'.ofTry ok
    have sky' : Sky B (X.env :: X.outer) a (Zc cls d) X.env.locals s'.heap := by rw [← hs]; exact sky
    show wpAny (model X.prog X.w) X.A (noteFrame (.ref a) X.env) _ _ _
    refine Sky.land Zc.steady hfr hf sky' fun h3 fl3 up3 => ?_
    have J3 : Inv X pins σ' H' { s' with heap := h3 } := J.landed nb fl3.1 (up.trans up3) os ag
    obtain ⟨oe3, vs3, he3, hz3, hd3⟩ := fl3.there
    have notFr : ∀ {h : Heap} {o : Obj} {vs : Array Value}, h.FunFrames B (X.env :: X.outer) → h.get? a = some o → o.data = .fields vs → a ∉ frs (X.env :: X.outer) := fun {h o vs} ff e dd hm => by
      obtain ⟨_, o', e', hnf⟩ := ff.mem hm
      rw [e] at e'; cases e'
      exact hnf _ dd
    have nfr := notFr fl3.2.2.1 he3 hd3
    have nL : a ≠ X.env.locals := fun z => nfr (List.mem_filterMap.mpr ⟨X.env, List.mem_cons_self, by rw [hf, z]⟩)
    have nF : a ∉ X.fs := fun hm => by
      obtain ⟨e, he, q⟩ := List.mem_filterMap.mp hm
      exact nfr (List.mem_filterMap.mpr ⟨e, List.mem_cons_of_mem _ he, q⟩)
    have S3 := J3.suite he3 hd3 na nL nF
    have go : ∀ {hds' : List ExceptHandler} {l' : List (Value × Nat × (Addr → Value → Option Addr → TS))}, HdsN X hds' l' → wNames X.K Wout D l' cls d σ' H' →
        wpAny (model X.prog X.w) X.A (handleBy (.ref a) X.env hds') (SP X pins D) X.xe { s' with heap := h3 } := by
      intro hds' l' hk
      induction hk with
      | nil =>
        intro w
        refine wpAny_handleBy_nil ?_
        obtain ⟨k1, k2, k3, oe, vs, T, oT, ts', he, hz, hd, h1, hr⟩ := id fl3
        unfold PySem.passOn
        refine wpAny_bind (wpAny_field he hd h1 ?_)
        rw [if_neg (show ¬ ((Value.ref T == Value.none) = true) from by simp)]
        have fin : wpAny (model X.prog X.w) X.A (setFlight (.ref a) X.env.frame) (fun _ s4 => wpAny (model X.prog X.w) X.A (throw (.ref a) : Sem Flow) (SP X pins D) X.xe s4) X.xe { s' with heap := h3 } := by
          rw [hf]
          refine HandSPX.setFlight_upZ fl3 fun h4 hh4 up4 => wpAny_throw (tk _ _ ?_)
          exact ⟨a, B, sI, pins, σ', H', cls, d, rfl, J, nb, (up.trans up3).trans up4, .inr (.inr (by rw [hs]; exact hh4)), na, os, ag, w⟩
        first
          | exact wpAny_bind (wpAny_pure (wpAny_bind fin))
          | exact wpAny_bind fin
      | @cons x n i c ts b₀ suite np pos' hds2 l2 hc hi hln hsu r ih =>
        intro w
        obtain ⟨b, hb1, hyes, hno⟩ := w
        have hloc : Loc X.env.scope n := .inl hln
        refine wpAny_handleBy_cons (codeAny_handlers_test ?_) (by intro q; cases q)
        have LT : PySem.W.Looks (model X.prog X.w) h3 (typeOf (.ref a)) cls := fun A Q E s k q => wpAny_typeOf_ref (k _ _ he3) (by rw [hz3.1]; exact q)
        have LM := PySem.W.exm_one (M := model X.prog X.w) (J3.kIn) LT hb1
        have test : ∀ {Q : Value → Shared → Prop} {E : Value → Shared → Prop}, Q c { s' with heap := h3 } → wpAny (model X.prog X.w) (X.A.mark (some (.ref a))) (eval (.Name x np) X.env) Q E { s' with heap := h3 } := fun {Q E} q => by
          obtain ⟨hg, hdbg, hm | ⟨hm, hv, hnn⟩⟩ := hc
          · exact ld_glob (X := X.suite a ((a, oe3) :: (X.pn ++ pins))) S3 hg hm q hdbg
          · exact ld_blt (X := X.suite a ((a, oe3) :: (X.pn ++ pins))) S3 hg hm hv q hnn hdbg
        refine test (LM.here ?_)
        cases b with
        | true =>
          refine codeAny_handlers_suite_as ?_
          refine HandSPX.lands_againZ fl3 fun h4 fl4 up4 => ?_
          have J4 : Inv X pins σ' H' { s' with heap := h4 } := J.landed nb fl4.1 ((up.trans up3).trans up4) os ag
          obtain ⟨oe4, vs4, he4, hz4, hd4⟩ := fl4.there
          have S4 := J4.suite he4 hd4 na nL nF
          refine store_ok (X := X.suite a ((a, oe4) :: (X.pn ++ pins))) (v := .ref a) S4 hN hi hloc rfl (fun s5 S5 => ?_) (.inr hln)
          refine wpAny_mono ((hsu a oe4 cls d (X.pn ++ pins) hz4 ⟨_, hd4⟩).run [] s5 _ H' _ S5 (hyes rfl a na)) (fun f s6 hsp => ?_) (fun _ _ z => False.elim z)
          have end_ : ∀ {σ6 : St} {H6 : Hp} {Q : Shared → Prop}, Inv (X.suite a ((a, oe4) :: (X.pn ++ pins))) [] σ6 H6 s6 → (∀ s7, Inv X pins (σ6.set i none) H6 s7 → Q s7) →
              wpAny (model X.prog X.w) X.A (do bindName X.env n .none; unbindBehindTheSuite X.env n pos') (fun _ s7 => Q s7) X.xe s6 := fun {σ6 H6 Q} S6 hq => gone_ok (S6.unsuite ok) hN hi hln hq
          cases f with
          | next =>
            obtain ⟨σ6, H6, S6, q6⟩ := hsp
            exact end_ S6 fun s7 J7 => ⟨_, _, J7, q6⟩
          | brk =>
            obtain ⟨σ6, H6, S6, q6⟩ := hsp
            exact end_ S6 fun s7 J7 => ⟨_, _, J7, q6⟩
          | cont =>
            obtain ⟨σ6, H6, S6, q6⟩ := hsp
            exact end_ S6 fun s7 J7 => ⟨_, _, J7, q6⟩
          | ret u =>
            obtain ⟨v6, σ6, H6, S6, r6, q6⟩ := hsp
            exact end_ S6 fun s7 J7 => ⟨_, _, _, J7, r6, q6⟩
        | false =>
          show wpAny _ X.A (handleBy (.ref a) X.env hds2) _ _ _
          exact ih (hno rfl)
    exact go hh w
  · cases f with
    | next =>
      obtain ⟨σ', H', J', q⟩ := hsp
      exact wpAny_execs_nil ⟨σ', H', J'.ofTry ok, q⟩
    | brk =>
      obtain ⟨σ', H', J', q⟩ := hsp
      exact ⟨σ', H', J'.ofTry ok, q⟩
    | cont =>
      obtain ⟨σ', H', J', q⟩ := hsp
      exact ⟨σ', H', J'.ofTry ok, q⟩
    | ret u =>
      obtain ⟨v, σ', H', J', r, q⟩ := hsp
      exact ⟨v, σ', H', J'.ofTry ok, r, q⟩
end
end L2
end
section
/-! raise; try; all statements. -/
namespace Mini
open PySem L2 PySem.Spec PyProof.Rows
section
variable {P : PInfo} {F : Fx} {G : Sg} {cx : CTX} {X : Cx} {W : WX} {u : SuiT} {n : Nat} {E : L2.Ends} {A0 A A1 : List Addr} {H0 H H1 : Hp} {env : Mini.Env} {st s1 : Sto} {σ : L2.St}
/-! ### raise -/
theorem lookF_zip : ∀ {fs : List Str} {xs : List Mini.D} {vs : List V} {g : Str} {x : Mini.D}, Rps F A H xs vs → lookF fs xs g = some x → ∃ v, (fs.zip vs).lookup g = some v ∧ Rp F A H x v
  | [], _, _, _, _, _, h => by simp [lookF] at h
  | _ :: _, _, _, _, _, .nil, h => by simp [lookF] at h
  | f :: fs, _, _, g, x, .cons p ps, h => by
    simp only [lookF] at h
    by_cases e : f = g
    · rw [if_pos e] at h
      cases h
      exact ⟨_, by simp [List.lookup, e], p⟩
    · rw [if_neg e] at h
      obtain ⟨v, h1, h2⟩ := lookF_zip ps h
      refine ⟨v, ?_, h2⟩
      have : (g == f) = false := by simpa using fun z => e z.symm
      simp [List.lookup, this, h1]
theorem fld_vals : ∀ {xs : List Mini.D} {vs : List V}, Rps F A H xs vs → xs.all fldOk = true → ∀ v ∈ vs, v = .non ∨ ∃ i : Int, v = .int i ∧ -(10 ^ 9) < i ∧ i < 10 ^ 9
  | _, _, .nil, _ => by simp
  | _, _, .cons (d := d) p ps, h => by
    simp only [List.all_cons, Bool.and_eq_true] at h
    intro v hv
    rcases List.mem_cons.mp hv with e | hv
    · subst e
      cases d <;> simp [fldOk] at h
      · cases p; exact .inl rfl
      · cases p; exact .inr ⟨_, rfl, h.1⟩
    · exact fld_vals ps h.2 v hv
theorem fld_head {xs : List Mini.D} {vs : List V} (p : Rps F A H xs vs) (h : excOk xs = true) : ∀ v r, vs = v :: r → v = .non ∨ ∃ i : Int, v = .int i ∧ -(10 ^ 9) < i ∧ i < 10 ^ 9 := by
  intro v r e
  subst e
  simp only [excOk, Bool.and_eq_true] at h
  exact fld_vals p h.1 v List.mem_cons_self
theorem pmk_call (g : Good P F G cx X W u) {C : Str} {k : Nat} {args : List Expr} {as' : CEs} {p pos : Pos} (hg : cx.glob C = true) (hk : P.excs.lookup C = some k) (h50 : k < 50) (hl : 2 ≤ cx.lvl) (hc : cx.calm = true) (hn : args.length = k)
    (ha : compAsW (compE P n cx false) args = some as') :
    PMk X (.Call (.Name C p) args [] pos) (fun σ H Q => tA F G u W as' σ H fun vs H1 => vs.length = (G.efs C).length ∧ (∀ v ∈ vs, v = .non ∨ ∃ i : Int, v = .int i ∧ -(10 ^ 9) < i ∧ i < 10 ^ 9) ∧ (∀ v r, vs = v :: r → v = .non ∨ ∃ i : Int, v = .int i ∧ -(10 ^ 9) < i ∧ i < 10 ^ 9) ∧
      (G.efs C = [] → Q (.ref (F.cad C)) none H1) ∧ (G.efs C ≠ [] → ∀ d fvs, H1 d = none → (∀ g, fvs.lookup g = ((G.efs C).zip vs).lookup g) → Q (.ref (F.cad C)) (some d) (upd H1 d (.xd fvs)))) := by
  intro pins s σ H Q I h
  obtain ⟨hg, hdb⟩ := g.glob hg
  obtain ⟨kk, he, _, mk⟩ := g.facts.mks C k hk h50 hl
  have hC : C ∈ F.excs := by rw [g.facts.excs]; exact List.mem_map_of_mem (f := (·.1)) (PySem.mem_of_lookup hk)
  have hm := (g.facts.exs C hC).1
  have hpl := compAs_plain ha
  have pa := paAs (F := F) (G := G) (u := u) (W := W) (X := X) (fun e c h => (snd P F G n).e h g) ha
  have run := mk X g.pr g.w g.K rfl rfl ((g.room hc).mono hl)
  refine wpAny_Call_Name_kw (ld_glob I hg hm ?_ hdb)
  have kk' : PySem.W.keepIn X.K (.ref (F.cad C)) = true := by rw [g.K]; exact kk
  cases args with
  | nil =>
    have z := compAs_nil ha
    subst z
    obtain ⟨A, env, st, rel, h⟩ := h
    unfold wpEs at h
    obtain ⟨h1, h2, h5, h3, h4⟩ := h A H [] .refl rel.rs .nil
    exact PySem.W.callWith_K0 I.kIn kk' (run pins s σ H [] [] Q I .nil h1 h2 h5 h3 h4)
  | cons e es =>
    obtain ⟨k1, k2⟩ := plain_cons hpl
    exact PySem.W.callWith_K (h₀ := X.base) I.ok.mod.kin kk' (thn (pa.run pos pins s σ H _ I h) fun us s1 ⟨vs, H1, I1, r, h1, h2, h5, h3, h4⟩ => ⟨I1.kIn, run pins s1 σ H1 us vs Q I1 r h1 h2 h5 h3 h4⟩) (star_plain k1) (any_plain k2)
theorem sS_raise (g : Good P F G cx X W u) {C : Str} {k : Nat} {args : List Expr} {as' : CEs} {p pos pos' : Pos} (hg : cx.glob C = true) (hk : P.excs.lookup C = some k) (h50 : k < 50) (hl : 2 ≤ cx.lvl) (hc : cx.calm = true) (hn : args.length = k)
    (ha : compAsW (compE P n cx false) args = some as') : PS X (.Raise (some (.Call (.Name C p) args [] pos)) none pos') (tS F G u W (.raise C as')) := by
  have hC : C ∈ F.excs := by rw [g.facts.excs]; exact List.mem_map_of_mem (f := (·.1)) (PySem.mem_of_lookup hk)
  refine psImp (ps_raise (g.calm hc) g.tk (pmk_call g hg hk h50 hl hc hn ha)) fun E σ H ⟨A0, H0, A, env, st, s, r, h⟩ => ?_
  unfold wpS at h
  refine tA_one r h (fun C f z s' q => KL.xl s r q) fun ds s1 A1 H1 vs t r1 p1 ⟨h1, h2, q⟩ => ?_
  have T1 : Stp A0 H0 A1 H1 := s.trans r.rs t
  refine ⟨by rw [← p1.length]; exact h2, fld_vals p1 (by simp only [excOk, Bool.and_eq_true] at h1; exact h1.1), fld_head p1 h1, fun e => ?_, fun e d fvs hd hfv => ?_⟩
  · exact q A1 H1 _ none σ T1 (r.stp t r1) ⟨⟨hC, rfl⟩, .inl ⟨e, rfl⟩⟩
  · refine q A1 _ _ (some d) σ (T1.trans r1 (Stp.new hd)) ((r.stp t r1).stp (Stp.new hd) (r1.new hd)) ⟨⟨hC, rfl⟩, .inr ⟨d, _, rfl, upd_same, r1.out hd, fun f x hx => ?_⟩⟩
    obtain ⟨v, e1, e2⟩ := lookF_zip p1 hx
    exact ⟨v, (hfv f).trans e1, e2.stp (Stp.new hd)⟩
/-! ### try -/
theorem Good.tr (g : Good P F G cx X W u) (hc : cx.calm = true) (hb : cx.blk = false) {W' : WX} {pn : List (Addr × Obj)} {xe : Value → Shared → Prop} (tk : Takes (X.tr pn xe) W') (po : PassesOwn (model X.prog X.w) X.A X.env xe) : Good P F G cx (X.tr pn xe) W' u where
  pr := g.pr
  w := g.w
  K := g.K
  N := g.N
  nd := g.nd
  sc := g.sc
  calm := g.calm
  fnd := g.fnd
  fnb := g.fnb
  room := g.room
  units := g.units
  tk := tk
  po := fun _ => po
  facts := g.facts
  stk := g.stk
  sui := by
    obtain ⟨h1, h2⟩ := g.nosui hc
    rw [h1, h2]
    trivial
theorem Good.suite (g : Good P F G cx X W u) (hb : cx.blk = false) {x : Str} {i : Nat} (hi : cx.N[i]? = some x) (hv : Vis X.env.scope x) (hd1 : (x == ("__debug__" : Str)) = false) (hd2 : (x == ("__classdict__" : Str)) = false)
    {a : Addr} {oe : Obj} {cls : Value} {dd : Option Addr} {pn : List (Addr × Obj)} (hz : Zc cls dd oe) (hf : ∃ vs, oe.data = .fields vs) :
    Good P F G { cx with calm := false, sui := some (x, i) } (X.suite a ((a, oe) :: pn)) (fun _ _ _ _ => False) (some (i, a, cls, dd)) where
  pr := g.pr
  w := g.w
  K := g.K
  N := g.N
  nd := g.nd
  sc := g.sc
  calm := fun h => by cases h
  fnd := g.fnd
  fnb := g.fnb
  room := fun h => by cases h
  units := g.units
  tk := L2.takes0
  po := fun _ => PassesOwn.never
  facts := g.facts
  stk := g.stk
  sui := ⟨rfl, hi, rfl, ⟨hv, hd1, hd2⟩, X, oe, pn, rfl, hz, hf⟩
/-- what the clauses do -/
def HsOk (F : Fx) (G : Sg) (X : Cx) (W : WX) (hs : List ExceptHandler) (c : CHs) : Prop :=
  ∃ l, HdsN X hs l ∧ ∀ (E : L2.Ends) A0 H0 e C fs xs s, wpHs G c C fs xs e s (KL F none W E A0 H0) → (KL F none (wNames X.K W E l) E A0 H0).xx e C fs xs s
structure StAt (P : PInfo) (F : Fx) (G : Sg) (n : Nat) : Prop where
  s : ∀ {cx s c X W u}, compS P n cx s = some c → cx.blk = false → Good P F G cx X W u → PS X s (tS F G u W c)
  ss : ∀ {cx s c X W u}, compSs P n cx s = some c → cx.blk = false → Good P F G cx X W u → PSs X s (tSs F G u W c)
  hs : ∀ {cx s c X W u}, compHs P n cx s = some c → cx.blk = false → cx.calm = true → Good P F G cx X W u → HsOk F G X W s c
theorem hs_rd {i : Nat} {C' : Str} {b : CSs} {r : CHs} {l : List (Value × Nat × (Addr → Value → Option Addr → TS))} (f : Facts P F G X.mg X.base cx.lvl) (hK : X.K = F.K) (hC : C' ∈ F.excs)
    (ih : ∀ (E : L2.Ends) A0 H0 e C fs xs s, wpHs G r C fs xs e s (KL F none W E A0 H0) → (KL F none (wNames X.K W E l) E A0 H0).xx e C fs xs s) :
    ∀ (E : L2.Ends) A0 H0 e C fs xs s, wpHs G (.cons C' i b r) C fs xs e s (KL F none W E A0 H0) →
      (KL F none (wNames X.K W E ((.ref (F.cad C'), i, fun a cls d => tSs F G (some (i, a, cls, d)) (fun _ _ _ _ => False) b) :: l)) E A0 H0).xx e C fs xs s := by
  intro E A0 H0 e C fs xs s h A' H' cls dd σ' t rel ex
  unfold wpHs at h
  obtain ⟨⟨hCm, rfl⟩, hx⟩ := ex
  refine ⟨G.sub C C', by rw [hK]; exact f.exm C C' hCm hC, fun hb a ha => ?_, fun hb => ?_⟩
  · rw [if_pos hb] at h
    obtain ⟨hi, h⟩ := h
    have hiσ : i < σ'.length := by rw [← rel.re.1]; exact hi
    refine ⟨A0, H0, A', _, s, t, ⟨rel.rs, ⟨by simp [rel.re.1], fun j d ej => ?_⟩, ⟨by rw [List.getElem?_set_self hiσ], C, fs, xs, by rw [List.getElem?_set_self hi], ⟨hCm, rfl⟩, hx⟩⟩, wpSs_mono b _ s ?_ h⟩
    · by_cases hj : j = i
      · subst hj; exact .inl rfl
      · rw [List.getElem?_set_ne (Ne.symm hj)] at ej
        rcases rel.re.2 j d ej with z | ⟨v, hv, p⟩
        · exact z.elim
        · exact .inr ⟨v, by rw [List.getElem?_set_ne (Ne.symm hj)]; exact hv, p⟩
    · refine ⟨Nat.le_refl _, fun e5 s5 q5 A5 H5 σ5 t5 r5 => q5 A5 H5 (σ5.set i none) t5 ⟨r5.rs, ⟨by simp [r5.re.1], fun j d ej => ?_⟩, trivial⟩, fun _ _ z => z, fun _ _ z => z.elim, fun _ _ z => z.elim, fun _ _ _ _ _ z => z.elim⟩
      by_cases hj : j = i
      · subst hj
        exfalso
        by_cases hl : j < e5.length
        · rw [List.getElem?_set_self hl] at ej; cases ej
        · rw [List.getElem?_eq_none (by simpa using hl)] at ej; cases ej
      · rw [List.getElem?_set_ne (Ne.symm hj)] at ej
        rcases r5.re.2 j d ej with z | ⟨v, hv, p⟩
        · exact absurd z.symm hj
        · exact .inr ⟨v, by rw [List.getElem?_set_ne (Ne.symm hj)]; exact hv, p⟩
  · rw [if_neg (by rw [hb]; exact Bool.false_ne_true)] at h
    exact ih E A0 H0 e C fs xs s h A' H' _ dd σ' t rel ⟨⟨hCm, rfl⟩, hx⟩
end
end Mini
end
section
/-! All statements. -/
namespace Mini
open PySem L2 PySem.Spec PyProof.Rows
section
variable {P : PInfo} {F : Fx} {G : Sg} {cx : CTX} {X : Cx} {W : WX} {u : SuiT} {n : Nat}
theorem sS_assign {tg v : Expr} {pos : Pos} {c : CS} (h : compS P (n + 1) cx (.Assign [tg] v pos) = some c) (g : Good P F G cx X W u) : PS X (.Assign [tg] v pos) (tS F G u W c) := by
  simp only [compS] at h
  split at h
  · obtain ⟨hc, h⟩ := ifB_some.mp h
    simp only [Bool.and_eq_true, decide_eq_true_eq] at hc
    obtain ⟨pk, hp, h⟩ := Option.bind_eq_some_iff.mp h
    obtain ⟨gs, hg, h⟩ := Option.bind_eq_some_iff.mp h
    obtain ⟨es, he, h⟩ := Option.map_eq_some_iff.mp h
    subst h
    exact sS_par g hc.1 hc.2 hp hg he
  · rename_i hnt
    obtain ⟨ho, h⟩ := ifB_some.mp h
    obtain ⟨g', hg, h⟩ := Option.bind_eq_some_iff.mp h
    obtain ⟨e, he, h⟩ := Option.map_eq_some_iff.mp h
    subst h
    have hst : isTupE tg = false ∨ isTupE v = false := by
      cases tg <;> first | exact .inl rfl | (cases v <;> first | exact .inr rfl | exact absurd rfl (hnt _ _ _ _ _ _ rfl))
    cases tg with
    | Name x p =>
      simp only [okSwap, Bool.or_eq_true, Bool.not_eq_true', Bool.and_eq_true] at ho
      rcases ho with (ho | ho) | ho
      · exact sS_asg0 g hg he (swap_plain ho) hst
      · exact sS_asg0 g hg he (swap_cell (by rw [g.sc]; simpa [isLoc] using ho)) hst
      · by_cases hl : isLoc cx x = true
        · exact sS_setC g hg he hl ho.1.1 ho.1.2 ho.2
        · exact sS_asg0 g hg he (swap_cell (by rw [g.sc]; simpa [isLoc] using hl)) hst
    | _ => exact sS_asg0 g hg he (swap_other (by intro x p z; cases z)) hst
theorem sS (ih : StAt P F G n) {s : Stmt} {c : CS} (h : compS P (n + 1) cx s = some c) (hb : cx.blk = false) (g : Good P F G cx X W u) : PS X s (tS F G u W c) := by
  cases s with
  | Assign tgs v pos =>
    match tgs, h with
    | [tg], h => exact sS_assign h g
  | AugAssign tg op v pos =>
    simp only [compS] at h
    split at h
    · obtain ⟨i, hi, h⟩ := Option.bind_eq_some_iff.mp h
      obtain ⟨o, ho, h⟩ := Option.bind_eq_some_iff.mp h
      obtain ⟨hs, h⟩ := ifB_some.mp h
      obtain ⟨hop, h⟩ := ifB_some.mp h
      obtain ⟨e, he, h⟩ := Option.map_eq_some_iff.mp h
      subst h
      obtain ⟨h1, h2, h3⟩ := g.tgt hi
      have hu : ¬ u.is i := by
        have z := g.sui
        cases hc : cx.sui with
        | some q => rw [hc] at hs; simp at hs
        | none =>
          rw [hc] at z
          cases u with
          | none => exact fun z => z
          | some _ => exact z.elim
      cases op <;> simp at hop
      · cases ho
        exact psImp (ps_aug g.nd h1 h2 ((snd P F G n).e he g) ip_add h3) fun E σ H q => aug_rd hu (fun s a b d h => by simpa [binD] using h.symm) q
      · cases ho
        exact psImp (ps_aug g.nd h1 h2 ((snd P F G n).e he g) ip_sub h3) fun E σ H q => aug_rd hu (fun s a b d h => by simpa [binD] using h.symm) q
    · cases h
  | Expr v pos =>
    simp only [compS] at h
    obtain ⟨hc, h⟩ := ifB_some.mp h
    split at h
    · cases h
      exact psImp ps_doc fun E σ H q => pass_rd q
    · obtain ⟨e, he, h⟩ := Option.map_eq_some_iff.mp h
      subst h
      exact psImp (ps_expr ((snd P F G n).e he g) (swap_plain (by simpa using hc))) fun E σ H q => exp_rd q
  | If c a b pos =>
    simp only [compS] at h
    obtain ⟨c', hc, h⟩ := Option.bind_eq_some_iff.mp h
    obtain ⟨a', ha, h⟩ := Option.bind_eq_some_iff.mp h
    obtain ⟨b', hb', h⟩ := Option.map_eq_some_iff.mp h
    subst h
    exact psImp (ps_if ((snd P F G n).t hc g) (ih.ss ha hb g) (ih.ss hb' hb g)) fun E σ H q => iff_rd q
  | For tg it b orelse pos =>
    match orelse, h with
    | [], h =>
      simp only [compS] at h
      obtain ⟨hc, h⟩ := ifB_some.mp h
      obtain ⟨it', hi, h⟩ := Option.bind_eq_some_iff.mp h
      obtain ⟨g', hg, h⟩ := Option.bind_eq_some_iff.mp h
      obtain ⟨b', hb', h⟩ := Option.map_eq_some_iff.mp h
      subst h
      exact psImp (ps_for (g.po hb) (g.calm hc) ((snd P F G n).i hi g) ((snd P F G n).g hg g) (ih.ss hb' hb g) (noset hi)) fun E σ H q => for_rd q
  | While c b orelse pos =>
    match orelse, h with
    | [], h =>
      simp only [compS] at h
      obtain ⟨c', hc, h⟩ := Option.bind_eq_some_iff.mp h
      obtain ⟨b', hb', h⟩ := Option.map_eq_some_iff.mp h
      subst h
      exact psImp (ps_while (g.po hb) ((snd P F G n).t hc g) (ih.ss hb' hb g)) fun E σ H q => whl_rd q
  | Return e pos =>
    cases e with
    | none =>
      simp only [compS, Option.some.injEq] at h
      subst h
      exact psImp ps_retN fun E σ H q => retn_rd q
    | some e =>
      simp only [compS] at h
      obtain ⟨e', he, h⟩ := Option.map_eq_some_iff.mp h
      subst h
      exact psImp (ps_ret ((snd P F G n).e he g)) fun E σ H q => ret_rd q
  | Raise e cause pos =>
    cases e with
    | none => simp [compS] at h
    | some e =>
      cases cause with
      | some _ => simp [compS] at h
      | none =>
        cases e with
        | Call f args kws cpos =>
          cases f with
          | Name C p =>
            cases kws with
            | nil =>
              simp only [compS] at h
              obtain ⟨hc, h⟩ := ifB_some.mp h
              obtain ⟨as', ha, h⟩ := Option.map_eq_some_iff.mp h
              subst h
              simp only [Bool.and_eq_true, decide_eq_true_eq] at hc
              obtain ⟨⟨⟨h1, h2⟩, h3⟩, h4⟩ := hc
              cases hk : P.excs.lookup C with
              | none => rw [hk] at h4; cases h4
              | some k =>
                rw [hk] at h4
                simp only [Bool.and_eq_true, decide_eq_true_eq] at h4
                exact sS_raise g h3 hk h4.2 h2 h1 h4.1 ha
            | cons _ _ => simp [compS] at h
          | _ => simp [compS] at h
        | _ => simp [compS] at h
  | Try b hs orelse fin pos =>
    match orelse, fin, h with
    | [], [], h =>
      simp only [compS] at h
      obtain ⟨hc, h⟩ := ifB_some.mp h
      simp only [Bool.and_eq_true] at hc
      obtain ⟨b', hb', h⟩ := Option.bind_eq_some_iff.mp h
      obtain ⟨hs', hh, h⟩ := Option.map_eq_some_iff.mp h
      subst h
      have hu := (g.nosui hc.1.1).1
      subst hu
      cases hs with
      | nil =>
        simp at hc
      | cons h0 hs =>
        obtain ⟨l, hl, rd⟩ := ih.hs hh hb hc.1.1 g
        refine psImp (ps_try_names (g.stk hb).1 (g.stk hb).2 g.nd g.tk (tb := fun W' => tSs F G none W' b') (fun W' pn xe tk po => ih.ss hb' hb (g.tr hc.1.1 hb tk po)) hl) fun E σ H ⟨A0, H0, A, env, st, s, r, h⟩ => ?_
        unfold wpS at h
        refine ⟨A0, H0, A, env, st, s, r, wpSs_mono b' env st ?_ h⟩
        exact ⟨Nat.le_refl _, fun _ _ z => z, fun _ _ z => z, fun _ _ z => z, fun _ _ z => z, fun e C fs xs s q => rd E A0 H0 e C fs xs s q⟩
  | Pass pos =>
    simp only [compS, Option.some.injEq] at h
    subst h
    exact psImp ps_pass fun E σ H q => pass_rd q
  | _ => simp [compS] at h
theorem sSs (ih : StAt P F G n) {s : List Stmt} {c : CSs} (h : compSs P (n + 1) cx s = some c) (hb : cx.blk = false) (g : Good P F G cx X W u) : PSs X s (tSs F G u W c) := by
  cases s with
  | nil =>
    simp only [compSs, Option.some.injEq] at h
    subst h
    exact pssImp pss_nil fun E σ H q => nil_rd q
  | cons s ss =>
    simp only [compSs] at h
    cases hs : compS P n cx s with
    | none =>
      rw [hs] at h
      cases h
      refine ⟨fun pins s0 σ H E I ⟨A0, H0, A, env, st, t, r, h⟩ => ?_⟩
      unfold wpSs at h
      unfold wpS at h
      exact h.elim
    | some s' =>
    rw [hs] at h
    obtain ⟨ss', hss, h⟩ := Option.map_eq_some_iff.mp h
    have key : PSs X (s :: ss) (tSs F G u W (.cons s' ss')) := pssImp (pss_cons (ih.s hs hb g) (ih.ss hss hb g)) fun E σ H q => cons_rd q
    split at h
    · rename_i hg
      subst h
      have hu : u = none := by
        have z := g.sui
        have hc : cx.sui = none := by
          unfold ghB at hg
          split at hg
          · simp only [Bool.and_eq_true, Option.isNone_iff_eq_none] at hg
            exact hg.2
          · cases hg
        rw [hc] at z
        cases u with
        | none => rfl
        | some _ => exact z.elim
      exact pssImp key fun E σ H q => gh_rd hu q
    · subst h
      exact key
theorem sHs (ih : StAt P F G n) {s : List ExceptHandler} {c : CHs} (h : compHs P (n + 1) cx s = some c) (hb : cx.blk = false) (hc : cx.calm = true) (g : Good P F G cx X W u) : HsOk F G X W s c := by
  match s, h with
  | [], h =>
    simp only [compHs, Option.some.injEq] at h
    subst h
    refine ⟨[], .nil, fun E A0 H0 e C fs xs s q => ?_⟩
    unfold wpHs at q
    exact q
  | .ExceptHandler (some (.Name C np)) (some x) (b0 :: b) pos :: r, h =>
    simp only [compHs] at h
    obtain ⟨hh, h⟩ := ifB_some.mp h
    obtain ⟨i, hi, h⟩ := Option.bind_eq_some_iff.mp h
    obtain ⟨b', hb', h⟩ := Option.bind_eq_some_iff.mp h
    obtain ⟨r', hr, h⟩ := Option.map_eq_some_iff.mp h
    subst h
    simp only [Bool.and_eq_true, Bool.not_eq_true'] at hh
    obtain ⟨⟨⟨⟨h1, h2⟩, h3⟩, h4⟩, h5⟩ := hh
    obtain ⟨l, hl, rd⟩ := ih.hs hr hb hc g
    obtain ⟨k, hk⟩ := Option.isSome_iff_exists.mp h2
    have hC : C ∈ F.excs := by rw [g.facts.excs]; exact List.mem_map_of_mem (f := (·.1)) (PySem.mem_of_lookup hk)
    obtain ⟨gl, hdb⟩ := g.glob h1
    have hloc : X.env.scope.names.lookup x = some .local := by rw [g.sc]; simpa [isLoc] using h3
    refine ⟨_, .cons (i := i) ⟨gl, hdb, .inl (g.facts.exs C hC).1⟩ (by rw [g.N]; exact idx_at hi) hloc (fun a oe cls d pn hz hf => ih.ss hb' hb (g.suite hb (idx_at hi) (.inl hloc) h4 h5 hz hf)) hl, hs_rd g.facts g.K hC rd⟩
theorem st_zero : StAt P F G 0 :=
  ⟨fun h => by simp [compS] at h, fun h => by simp [compSs] at h, fun h => by simp [compHs] at h⟩
theorem stm (P : PInfo) (F : Fx) (G : Sg) : ∀ n, StAt P F G n
  | 0 => st_zero
  | n + 1 => ⟨fun h hb g => sS (stm P F G n) h hb g, fun h hb g => sSs (stm P F G n) h hb g, fun h hb hc g => sHs (stm P F G n) h hb hc g⟩
end
end Mini
end
section
/-! A def by its body. -/
namespace Mini
open PySem L2 PySem.Spec PyProof.Rows
section
variable {P : PInfo} {F : Fx} {G : Sg} {cx : CTX} {A A0 : List Addr} {H H0 : Hp} {st : Sto}
theorem ExcR.take {C : Str} {fs : List Str} {xs : List Mini.D} {cls : Value} {dd : Option Addr} {n : Nat} (h : ExcR F A H C fs xs cls dd) (hb : bds n xs = true) : ExcR F (A.take n) H C fs xs cls dd := by
  obtain ⟨e, h⟩ := h
  refine ⟨e, ?_⟩
  rcases h with h | ⟨d, fvs, e1, e2, e3, e4⟩
  · exact .inl h
  · refine .inr ⟨d, fvs, e1, e2, e3.take, fun g x q => ?_⟩
    obtain ⟨v, a, b⟩ := e4 g x q
    refine ⟨v, a, b.take ?_⟩
    have key : ∀ {fs : List Str} {xs : List Mini.D}, bds n xs = true → lookF fs xs g = some x → bd n x = true := by
      intro fs
      induction fs with
      | nil => intro xs _ h; simp [lookF] at h
      | cons f fs ih =>
        intro xs hb h
        cases xs with
        | nil => simp [lookF] at h
        | cons y ys =>
          unfold bds at hb
          simp only [Bool.and_eq_true] at hb
          simp only [lookF] at h
          split at h
          · cases h; exact hb.1
          · exact ih hb.2 h
    exact key hb q
theorem RG.mono {n : Nat} {d : Mini.D} {st : Sto} {Q Q' : QD} (h : RG n d st Q) (hq : ∀ d s, Q d s → Q' d s) : RG n d st Q' := by
  rcases h with h | ⟨a, b, c, e, f, g, i, q⟩
  · exact .inl (hq _ _ h)
  · exact .inr ⟨a, b, c, e, f, g, i, hq _ _ q⟩
/-- the body keeps the promise -/
theorem def_fn {S : Mini.Spec} {mg : Str → Option Value} {base : Heap} {k fuel : Nat} {f : Addr} {name qual : Str} {params : Arguments} {body : List Stmt} {scope : Scope} {dV kV doc pm cdv ct oc : Value} {an od : Option Addr} {osl : Array (Option Value)} {N ps : List Str} {c : CSs}
    (lk : F.K.lookup f = some ⟨oc, od, .func (PySem.W.fnOf name qual params body scope dV kV doc pm an cdv ct), osl⟩) (hcd : PySem.W.codeIn F.K cdv qual = true) (Sc : FnScope N ps scope)
    (hc : compSs P fuel cx body = some c) (hN : cx.N = N) (hs : cx.sc = scope) (hb : cx.blk = false) (hsu : cx.sui = none) (hl : cx.lvl = k) (fac : Facts P F G mg base k)
    (hS : ∀ ds st Q X, S ds st Q X → defW G c N.length ps.length ds st Q X) :
    FnOk F.prog F.w F.K mg base (L2.CX F.prog F.w) (k + 1) f (PySem.W.fnOf name qual params body scope dV kV doc pm an cdv ct) ps (liftSp F ps.length S) := by
  refine fn_of lk hcd Sc (fun vs H Q E h => h.1) fun A outer s H vs Q E hr hsp => ?_
  obtain ⟨hl', pv, Ad, ds, st, r, rv, Q0, X0, hw, hq, hx⟩ := hsp
  obtain ⟨hdl, hw⟩ := hS _ _ _ _ hw
  let X : Cx := cxOf (L2.CX F.prog F.w) F.prog F.w F.K mg base N qual scope f cdv A outer s H E
  have tk : Takes X (fun cls d _ H => E cls d H) := L2.takes_of rfl rfl rfl rfl
  have g : Good P (F.pv pv) G cx X (fun cls d _ H => E cls d H) none :=
    { pr := rfl, w := rfl, K := rfl, N := hN.symm, nd := Sc.nd, sc := hs.symm, calm := fun _ => rfl, fnd := fun _ _ => rfl, fnb := fun h => by rw [hb] at h; cases h
      room := fun _ => by rw [hl]; exact hr
      units := by have := hr.un; show (A.deeper _).units + 100 < _; omega
      tk := tk, po := fun _ => L2.passes_of rfl, facts := by rw [hl]; exact fac.pv pv, stk := fun _ => ⟨rfl, rfl⟩, sui := by rw [hsu]; trivial }
  refine ⟨tSs (F.pv pv) G none (fun cls d _ H => E cls d H) c, (stm P (F.pv pv) G fuel).ss hc hb g, ?_⟩
  refine ⟨Ad, H, Ad, _, st, .refl, ⟨r, ⟨?_, fun i d e => ?_⟩, trivial⟩, wpSs_mono c _ st ?_ hw⟩
  · unfold L2.start
    simp [rv.length, hl']
  · right
    have hds : ds.length = vs.length := rv.length
    by_cases hi : i < ds.length
    · rw [List.getElem?_append_left (by simpa using hi), List.getElem?_map] at e
      cases hd : ds[i]? with
      | none => rw [hd] at e; cases e
      | some d' =>
        rw [hd] at e
        cases e
        obtain ⟨v, hv, p⟩ := rv.get hd
        refine ⟨v, ?_, p⟩
        unfold L2.start
        rw [List.getElem?_append_left (by simpa [← hds] using hi), List.getElem?_map, hv]
        rfl
    · rw [List.getElem?_append_right (by simpa using hi), List.getElem?_replicate] at e
      split at e <;> cases e
  · have hlen : Ad.length = st.length := r.1
    refine ⟨Nat.le_of_eq hlen, fun e s1 q A' H' σ' t r' => ?_, fun d s1 q A' H' v t r' p => ?_, fun _ _ z => z.elim, fun _ _ z => z.elim, fun e C fs xs s1 q A' H' cls dd σ' t r' ex => ?_⟩
    · rw [← hlen] at q
      exact RG.link (v := .non) (q.mono hq) t r'.rs .non
    · rw [← hlen] at q
      exact RG.link (q.mono hq) t r' p
    · rcases q with q | ⟨st0, gg, e1, e2, e3, e4, q⟩
      · exact hx _ _ _ _ q A' H' cls dd t r'.rs ex
      · subst e1
        exact hx _ _ _ _ q _ H' cls dd (t.take (by rw [hlen]; exact e2)) (r'.rs.take e3) (ex.take e4)
end
end Mini
end
section
/-! Instances made; calls with a keyword. -/
namespace Mini
open PySem L2 PySem.Spec PyProof.Rows
section
variable {P : PInfo} {F : Fx} {G : Sg}
theorem env0_at {X : Cx} {pins : List (Addr × Obj)} {s : Shared} {σ : L2.St} {H : Hp} {A0 : Around} (I : Inv X pins σ H s) (hfr : A0.frames = X.A.frames) : Env0 X.prog X.w X.K X.mg X.base A0 X.stack s H := by
  have e := I.env0
  exact ⟨by rw [hfr]; exact e.frames, e.mod, e.bs, e.bsz, e.funs, e.frf, e.hok, e.bare⟩
/-- C(..) -/
theorem make_ok {mg : Str → Option Value} {base : Heap} {k : Nat} {C : Str} {f : Addr} {fd : FuncData} {ps : List Str} (hC : C ∈ F.clss) (M : Mk F.K (F.cad C) f)
    (Fn : FnOk F.prog F.w F.K mg base (L2.CX F.prog F.w) k f fd ps (liftSp F ps.length (G.Gm (C ++ ".__init__")))) (hb : Binds F.K fd ps []) (hlen : ∀ ds st Q X, G.Gm (C ++ ".__init__") ds st Q X → ds.length = ps.length) :
    Callable F mg base (k + 1) (fun us => call (.ref (F.cad C)) us) (mkW G C) := by
  intro X W A0 h1 h2 h3 h4 h5 hr hfr tk pv pins s σ H A ds st us vs Q I r rv ru hw
  have Fn' : FnOk X.prog X.w X.K X.mg X.base (L2.CX X.prog X.w) k f fd ps (liftSp F ps.length (G.Gm (C ++ ".__init__"))) := by rw [h1, h2, h3, h4, h5]; exact Fn
  have hb' : Binds X.K fd ps [] := by rw [h3]; exact hb
  have M' : Mk X.K (F.cad C) f := by rw [h3]; exact M
  obtain ⟨Q0, X0, hw, hq, hx⟩ := hw
  have nx : H (s.heap.objs.size + 1) = none := I.hok.fresh (Nat.le_succ _)
  have nd : H s.heap.objs.size = none := I.hok.fresh (Nat.le_refl _)
  have ne : s.heap.objs.size ≠ s.heap.objs.size + 1 := Nat.ne_of_lt (Nat.lt_succ_self _)
  have I2 := Inv.made (C := F.cad C) I
  generalize hxx : s.heap.objs.size + 1 = x at *
  generalize hdd : s.heap.objs.size = dx at *
  -- the new instance
  have r1 : RelSt (F.pv pv) A (upd H dx (.own x)) st := r.new nd
  have nx1 : (upd H dx (HO.own x)) x = none := by rw [upd_ne (Ne.symm ne)]; exact nx
  have r2 : RelSt (F.pv pv) (A ++ [x]) (upd (upd H dx (.own x)) x (.ins (F.cad C) dx [])) (st ++ [.ins C [] []]) := r1.push nx1 (.ins hC upd_same rfl .nil)
  have T : Stp A H (A ++ [x]) (upd (upd H dx (.own x)) x (.ins (F.cad C) dx [])) := (Stp.new nd).trans r1 (Stp.push nx1)
  have hx0 : (A ++ [x])[st.length]? = some x := by rw [← r.1]; simp
  have hsp : liftSp F ps.length (G.Gm (C ++ ".__init__")) (.ref x :: vs) (upd (upd H dx (.own x)) x (.ins (F.cad C) dx [])) (fun v H2 => v = .non ∧ Q (.ref x) H2) (WE W σ) := by
    have rvs : Rps (F.pv pv) (A ++ [x]) (upd (upd H dx (.own x)) x (.ins (F.cad C) dx [])) (.ref st.length :: ds) (.ref x :: vs) := .cons (.ref hx0) (rv.stp T)
    refine ⟨?_, pv, A ++ [x], _, _, r2, rvs, hw.mono ?_ ?_⟩
    · obtain ⟨Q1, X1, hw, _⟩ := hw
      rw [← rvs.length]
      exact hlen _ _ _ _ hw
    · intro d s1 ⟨hd, q⟩ A' H' v t r' p
      subst hd
      cases p
      refine ⟨rfl, RG.link (A0 := A) (H0 := H) (F := F.pv pv) (A := A') (H := H') (v := .ref x) ((by rw [r.1]; exact q : RG A.length (.ref st.length) s1 Q0).mono hq) (T.trans r2 t) r' (.ref (t.at hx0))⟩
    · intro D fs xs s1 q A' H' cls dd t r' ex
      rcases q with q | ⟨st0, g, e1, e2, e3, e4, q⟩
      · exact hx _ _ _ _ q A' H' cls dd (T.trans r2 t) r' ex
      · subst e1
        exact hx _ _ _ _ q _ H' cls dd ((T.trans r2 t).take (by rw [r.1]; exact e2)) (r'.take e3) (ex.take e4)
  have e0 := env0_at I2 hfr
  have hl : (Value.ref x :: us).length = ps.length := by
    have e := (show Vals (V.ref x :: vs) (Value.ref x :: us) from .cons rfl ru).length
    rw [hsp.1] at e
    exact e.symm
  have b := hb' _ (Value.ref x :: us) I2.kIn (by rw [List.append_nil]; exact hl)
  rw [List.append_nil] at b
  subst hxx
  subst hdd
  refine wpAny_call (make_map (f := f) I.kIn M'.makes M'.init (beq_iff_eq.mp M'.fn) (codeAny_mono (Fn'.run _ X.stack _ _ ⟨Value.ref (s.heap.objs.size + 1) :: us, []⟩ (Value.ref (s.heap.objs.size + 1) :: us) _ _ (WE W σ) (hr.make (F.cad C) us [])
    (e0.make (F.cad C) us []) b (show Vals (V.ref (s.heap.objs.size + 1) :: vs) (Value.ref (s.heap.objs.size + 1) :: us) from .cons rfl ru) hsp) fun r s' hq' => ?_))
  cases r with
  | error e => exact passAt tk σ pins _ _ e s' I2 hq'
  | ok fl =>
    cases fl with
    | ret u =>
      obtain ⟨v, H', I3, rv', ev, q3⟩ := I2.after hq'
      subst ev
      exact ⟨rv', ⟨V.ref (s.heap.objs.size + 1), H', I3, rfl, q3⟩⟩
    | next => exact False.elim hq'
    | brk => exact False.elim hq'
    | cont => exact False.elim hq'
end
end Mini
end
section
/-! Calls without references run in a store of their own. -/
namespace Mini
open PySem L2 PySem.Spec PyProof.Rows
section
variable {F : Fx} {A A' ps : List Addr} {H : Hp}
theorem TupAt.tr (ho : ∀ p, Out F A p → Out (F.pv ps) A' p) {p : Addr} {vs : List V} (h : TupAt F A H p vs) : TupAt (F.pv ps) A' H p vs := by
  rcases h with ⟨h, o⟩ | h
  · exact .inl ⟨h, ho _ o⟩
  · exact .inr h
theorem ScrAt.tr (ho : ∀ p, Out F A p → Out (F.pv ps) A' p) {p : Addr} {vs : List V} (h : ScrAt F A H p vs) : ScrAt (F.pv ps) A' H p vs := by
  cases h with
  | frz o t hp => exact .frz o t (ho _ hp)
  | wr t => exact .wr t
mutual
theorem Rp.tr (ho : ∀ p, Out F A p → Out (F.pv ps) A' p) : ∀ {d : Mini.D} {v : V}, Rp F A H d v → bd 0 d = true → Rp (F.pv ps) A' H d v
  | _, _, .non, _ => .non
  | _, _, .bl b, _ => .bl b
  | _, _, .int i, _ => .int i
  | _, _, .str x, _ => .str x
  | _, _, .tup t r, h => .tup (t.tr ho) (Rps.tr ho r (by unfold bd at h; exact h))
  | _, _, .lst o hp, h => .lst (Ob.tr ho o (by unfold bd at h; unfold bdS; exact h)) (ho _ hp)
  | _, _, .dct o hp, h => .dct (Ob.tr ho o (by unfold bd at h; unfold bdS; exact h)) (ho _ hp)
  | _, _, .ins o hp, h => .ins (Ob.tr ho o (by unfold bd at h; unfold bdS; exact h)) (ho _ hp)
  | _, _, .ref e, h => by unfold bd at h; simp at h
  | _, _, .scr e, _ => .scr (e.tr ho)
theorem Rps.tr (ho : ∀ p, Out F A p → Out (F.pv ps) A' p) : ∀ {ds : List Mini.D} {vs : List V}, Rps F A H ds vs → bds 0 ds = true → Rps (F.pv ps) A' H ds vs
  | _, _, .nil, _ => .nil
  | _, _, .cons r t, h => by
    unfold bds at h
    simp only [Bool.and_eq_true] at h
    exact .cons (Rp.tr ho r h.1) (Rps.tr ho t h.2)
theorem Ob.tr (ho : ∀ p, Out F A p → Out (F.pv ps) A' p) : ∀ {so : SO} {p : Addr}, Ob F A H so p → bdS 0 so = true → Ob (F.pv ps) A' H so p
  | _, _, .lst e r, h => .lst e (Rps.tr ho r (by unfold bdS at h; exact h))
  | _, _, .dctK e1 e2 r, h => by
    unfold bdS at h
    simp only [Bool.and_eq_true] at h
    exact .dctK e1 e2 (Rps.tr ho r h.2)
  | _, _, .dctT e1 e2 e3 e4 r v r2, h => by
    unfold bdS at h
    simp only [Bool.and_eq_true] at h
    exact .dctT e1 e2 e3 e4 (Rps.tr ho r h.1) v (Rps.tr ho r2 h.2)
  | _, _, .ins c e1 e2 r, h => .ins c e1 e2 (Rps.tr ho r (by unfold bdS at h; exact h))
end
theorem look_bd {n : Nat} {g : Str} {x : Mini.D} : ∀ {fs : List Str} {xs : List Mini.D}, bds n xs = true → lookF fs xs g = some x → bd n x = true := by
  intro fs
  induction fs with
  | nil => intro xs _ h; simp [lookF] at h
  | cons f fs ih =>
    intro xs hb h
    cases xs with
    | nil => simp [lookF] at h
    | cons y ys =>
      unfold bds at hb
      simp only [Bool.and_eq_true] at hb
      simp only [lookF] at h
      split at h
      · cases h; exact hb.1
      · exact ih hb.2 h
theorem ExcR.tr (ho : ∀ p, Out F A p → Out (F.pv ps) A' p) {C : Str} {fs : List Str} {xs : List Mini.D} {cls : Value} {dd : Option Addr} (h : ExcR F A H C fs xs cls dd) (hb : bds 0 xs = true) : ExcR (F.pv ps) A' H C fs xs cls dd := by
  obtain ⟨e, h⟩ := h
  refine ⟨e, ?_⟩
  rcases h with h | ⟨d, fvs, e1, e2, e3, e4⟩
  · exact .inl h
  · refine .inr ⟨d, fvs, e1, e2, ho _ e3, fun g x q => ?_⟩
    obtain ⟨v, a, b⟩ := e4 g x q
    exact ⟨v, a, b.tr ho (look_bd hb q)⟩
/-- the store set aside -/
theorem aside {st : Sto} (r : RelSt F A H st) : RelSt (F.pv (A ++ F.priv)) [] H [] ∧ (∀ p, Out F A p → Out (F.pv (A ++ F.priv)) [] p) ∧ (∀ p, Out (F.pv (A ++ F.priv)) [] p → Out F A p) := by
  refine ⟨⟨rfl, ⟨List.nodup_nil, fun b hb => ⟨by simp, ?_⟩⟩, fun n so e => by simp at e⟩, fun p h => ⟨by simp, fun hm => ?_⟩, fun p h => ⟨fun hm => h.2 (List.mem_append_left _ hm), fun hm => h.2 (List.mem_append_right _ hm)⟩⟩
  · rcases List.mem_append.mp hb with hb | hb
    · exact r.there hb
    · exact (r.2.1.2 b hb).2
  · rcases List.mem_append.mp hm with hm | hm
    · exact h.1 hm
    · exact h.2 hm
theorem back {st : Sto} (r : RelSt F A H st) {A' : List Addr} {H' : Hp} (t : Stp [] H A' H') (r' : RelSt (F.pv (A ++ F.priv)) A' H' []) : A' = [] ∧ Stp A H A H' ∧ RelSt F A H' st := by
  have e : A' = [] := List.length_eq_zero_iff.mp r'.1
  subst e
  have k : ∀ b o, H b = some o → H' b = some o := fun b o h => t.keep b o (by simp) h
  exact ⟨rfl, ⟨⟨[], by simp, by simp⟩, fun b o _ h => k b o h⟩, r.ext k⟩
/-- what is wanted, set aside -/
theorem clo_aside {S : Mini.Spec} {ds : List Mini.D} {st : Sto} {Q : VK} {XF : Value → Option Addr → Hp → Prop} (r : RelSt F A H st)
    (h : Clo (FrS S) ds st (QLink F A H Q) (fun C fs xs s => ∀ A' H' cls dd, Stp A H A' H' → RelSt F A' H' s → ExcR F A' H' C fs xs cls dd → XF cls dd H')) :
    bds 0 ds = true ∧ Clo S ds [] (QLink (F.pv (A ++ F.priv)) [] H Q) (fun C fs xs s => ∀ A' H' cls dd, Stp [] H A' H' → RelSt (F.pv (A ++ F.priv)) A' H' s → ExcR (F.pv (A ++ F.priv)) A' H' C fs xs cls dd → XF cls dd H') := by
  obtain ⟨Q0, X0, ⟨hb, hw⟩, hq, hx⟩ := h
  refine ⟨hb, _, _, hw, fun d s ⟨e, hd, q⟩ A' H' v t r' p => ?_, fun C fs xs s ⟨e, hd, q⟩ A' H' cls dd t r' ex => ?_⟩
  · subst e
    obtain ⟨e, t2, r2⟩ := back r t r'
    subst e
    exact hq d st q A H' v t2 r2 (Rp.tr (F := F.pv (A ++ F.priv)) (ps := F.priv) (aside r).2.2 p hd)
  · subst e
    obtain ⟨e, t2, r2⟩ := back r t r'
    subst e
    exact hx C fs xs st q A H' cls dd t2 r2 (ExcR.tr (F := F.pv (A ++ F.priv)) (ps := F.priv) (aside r).2.2 ex hd)
end
theorem frame_lift {F : Fx} {n : Nat} {S : Mini.Spec} {vs : List V} {H : Hp} {Q : VK} {E : XK} (h : liftSp F n (FrS S) vs H Q E) : liftSp F n S vs H Q E := by
  obtain ⟨hl, pv, A, ds, st, r, rv, hw⟩ := h
  obtain ⟨hb, hw⟩ := clo_aside (F := F.pv pv) (XF := E) r hw
  exact ⟨hl, A ++ pv, [], ds, [], (aside (F := F.pv pv) r).1, rv.tr (F := F.pv pv) (aside (F := F.pv pv) r).2.1 hb, hw⟩
theorem lift_or {F : Fx} {n : Nat} {S S' : Mini.Spec} (hS : ∀ ds st Q X, S' ds st Q X → S ds st Q X ∨ FrS S ds st Q X) {vs : List V} {H : Hp} {Q : VK} {E : XK} (h : liftSp F n S' vs H Q E) : liftSp F n S vs H Q E := by
  obtain ⟨hl, pv, A, ds, st, r, rv, Q0, X0, hw, hq, hx⟩ := h
  rcases hS _ _ _ _ hw with hw | hw
  · exact ⟨hl, pv, A, ds, st, r, rv, Q0, X0, hw, hq, hx⟩
  · exact frame_lift ⟨hl, pv, A, ds, st, r, rv, Q0, X0, hw, hq, hx⟩
theorem callable_or {F : Fx} {mg : Str → Option Value} {base : Heap} {lvl : Nat} {run : List Value → Sem Value} {S S' : Mini.Spec} (hS : ∀ ds st Q X, S' ds st Q X → S ds st Q X ∨ FrS S ds st Q X) (h : Callable F mg base lvl run S) : Callable F mg base lvl run S' := by
  intro X W A0 q1 q2 q3 q4 q5 q6 q7 q8 ps pins s σ H A ds st us vs Q I r rv ru hw
  obtain ⟨Q0, X0, hw, hq, hx⟩ := hw
  rcases hS _ _ _ _ hw with hw | hw
  · exact h X W A0 q1 q2 q3 q4 q5 q6 q7 q8 ps pins s σ H A ds st us vs Q I r rv ru ⟨Q0, X0, hw, hq, hx⟩
  · obtain ⟨hb, hw⟩ := clo_aside (F := F.pv ps) (XF := fun cls dd H' => W cls dd σ H') r ⟨Q0, X0, hw, hq, hx⟩
    exact h X W A0 q1 q2 q3 q4 q5 q6 q7 q8 (A ++ ps) pins s σ H [] ds [] us vs Q I (aside (F := F.pv ps) r).1 (rv.tr (F := F.pv ps) (aside (F := F.pv ps) r).2.1 hb) ru hw
theorem fnok_imp {P : Program} {w : World} {K : PySem.W.Frag} {mg : Str → Option Value} {base : Heap} {CX : CXT} {k : Nat} {f : Addr} {fd : FuncData} {ps : List Str} {sp sp' : Sp} (h : FnOk P w K mg base CX k f fd ps sp) (hi : ∀ vs H Q E, sp' vs H Q E → sp vs H Q E) : FnOk P w K mg base CX k f fd ps sp' :=
  ⟨fun vs H Q E q => h.len vs H Q E (hi _ _ _ _ q), fun A outer s H args us vs Q E hr e0 hb r q => h.run A outer s H args us vs Q E hr e0 hb r (hi _ _ _ _ q)⟩
end Mini
end
section
set_option maxHeartbeats 1000000
/-! super().__init__(e) in an own exception's __init__. -/
namespace Mini
open PySem L2 PySem.Spec PyProof.Rows PySem.W NdefX PySem.Calls PyProof.V
theorem mcall_eq {o : Expr} {name : Str} {apos pos : Pos} {args : List Expr} {env : PySem.Env} (hpl : args.all (fun e => !isStar e) = true) (hl : args.length < 20) (hline : (apos.endLine == pos.line) = true) :
    eval (.Call (.Attribute o name apos) args [] pos) env = (do
      let ov ← attributeBase o name env (eval o env)
      standAt apos.atName
      let (f, first) ← holding [ov] (getMethod ov name (plainOf o env))
      callWith pos f first (backTo pos (starEach args env)) []) := by
  have hform : methodCallForm (args.length + ([] : List Keyword).length) (backTo pos (starEach args env)) (backToKw pos (keywordEach [] env)) = true := few_plain hpl hl
  rw [arm_eval_Call]
  congr 1
  funext ov
  congr 1
  funext _
  exact mcall_line hform hline
/-- what the written part says of C and of its __init__ -/
structure SupC (prog : Program) (K : Frag) (mg : Str → Option Value) (C fI : Addr) (F : NF) : Prop where
  T : OexC K C
  init : findIn K (.ref C) "__init__" = some (some (.ref fI))
  tI : typeIn K (.ref fI) = some (.type "function")
  lk : ∃ oc od kV doc pm an ctv sl, K.lookup fI = some ⟨oc, od, .func (fnX F.name F.qual F.params F.body F.scope F.cl .none kV doc pm an (.ref F.c) ctv), sl⟩
  hcd : codeIn K (.ref F.c) F.qual = true
  code : ∃ ccl cdd vs ccs file tf, K.lookup F.c = some ⟨ccl, cdd, .fields vs, ccs⟩ ∧ vs[2]? = some (.str file tf) ∧ ((prog.main.file : Str) == file) = true
  cl : ∃ cc, F.cl = [(("__class__" : Str), cc)] ∧ ∃ cl cld csl, K.lookup cc = some ⟨cl, cld, .cell (some (.ref C)), csl⟩
  sup : ks_superIn K C C "__init__" = some (some (.builtin "ValueError.__init__"))
  sub : mroIn K C (.ref C) = some true
  isV : subIn K (.ref C) (.type "ValueError") = some true
  opq : nsIn K cStatics "thirdparty.any" = some none
  free : mg "super" = none
  top : (prog.main.scope.names.lookup ("super" : Str)).isSome = false
section
variable {X : Cx} {σ : L2.St} {H : Hp} {s : Shared} {a C fI : Addr} {F : NF} {e : Expr} {te : TE} {Q : Hp → Prop} {p0 p1 p2 p3 p4 : Pos} {body : List Stmt}
theorem at_super (SC : SupC X.prog X.K X.mg C fI F) (hF : X.env.func = some fI) (hcode : X.env.code = .ref F.c) (hcl : X.env.cells = F.cl) (hN : X.N[0]? = some ("self" : Str)) (hself : X.env.scope.names.lookup ("self" : Str) = some .local)
    (hsup : X.env.scope.names.lookup ("super" : Str) = some .globalImplicit) (hcls : X.env.scope.names.lookup ("__class__" : Str) = some .free) (hpar : (F.params.posonlyargs ++ F.params.args).head?.map (·.arg) = some ("self" : Str))
    (he : PE X e te) (hst : isStar e = false) (hline : (p2.endLine == p3.line) = true) (I : Inv X [] σ H s) (hs0 : σ[0]? = some (some (.ref a))) (hx : H a = some (exo a C none))
    (h : te σ H fun x H1 => (∃ v : V, [x] = [v]) ∧ H1 a = some (exo a C none) ∧ Q H1) :
    _root_.PySem.wpAt (model X.prog X.w) X.A (.func body X.env) (eval (.Call (.Attribute (.Call (.Name "super" p0) [] [] p1) "__init__" p2) [e] [] p3) X.env) (fun _ s' => ∃ H', Inv X [] σ H' s' ∧ Q H') X.xe s := by
  obtain ⟨cc, hcc, cl', cld, csl, hcell⟩ := SC.cl
  obtain ⟨ccl, cdd, vs, ccs, file, tf, hcode1, hvs, hfile⟩ := SC.code
  obtain ⟨oc, od, kV, doc, pm, an, ctv, sl, lk⟩ := SC.lk
  obtain ⟨nm, q, N, bs, bm, sn, sub, ab, col, dd, k0, k1, k2, k3, k5, hC, hbm⟩ := SC.T.cls
  have hkf : X.env.scope.kind = .function := I.ok.kind
  obtain ⟨m, hn, hl⟩ := id I.loc
  obtain ⟨u0, ru, lu⟩ := hl 0 "self" (.ref a) hN hs0 (.inl hself)
  obtain rfl : u0 = Value.ref a := ru
  have hms : m "self" = some (Value.ref a) := by
    rcases lu with ⟨_, z⟩ | ⟨z | z, _⟩
    · exact z
    · have z' : X.env.scope.names.lookup ("self" : Str) = some .cell := z
      rw [hself] at z'; cases z'
    · have z' : X.env.scope.names.lookup ("self" : Str) = some .free := z
      rw [hself] at z'; cases z'
  obtain ⟨ar, har, har2⟩ := Option.map_eq_some_iff.mp hpar
  have hcl' : PySem.W.clsIn X.K C = some { name := nm, bases := bs, mro := .ref C :: bm, ns := N, qualname := q, hasDict := true, slotNames := sn, subclasses := sub, abstract := ab, collection := col, hasDel := false } := by unfold PySem.W.clsIn; rw [hC] <;> rfl
  refine PySem.ks_wpAt_MethodCall (pl := plainOf (.Call (.Name "super" p0) [] [] p1) X.env) ?_ (mcall_eq (by simp [hst]) (by simp) hline)
  refine PySem.ks_wpAt_super_base (env := X.env) hsup hcls (by decide) hF (I.kIn _ _ lk) rfl har hcode (I.kIn _ _ hcode1) rfl hvs hfile SC.top ?_
  obtain ⟨mb, hb1, hb2⟩ := I.mod.blt
  refine PySem.W.ks_loadName_global hkf hsup (PySem.Calls.loadGlobal_builtin (by rw [I.ok.glob]; exact I.mod.glob.keeps I.bk) SC.free (by rw [I.ok.blt]; exact hb1.keeps I.bk) ((hb2 _ (by decide)).trans PyProof.Rows.Boot.«super») ⟨rfl, ?_⟩)
  refine wpAny_loadName_free hkf hcls (by rw [hcl, hcc]; rfl) ⟨_, I.kIn _ _ hcell, rfl⟩ ?_
  rw [har2]
  refine wpAny_loadName_local hkf hself hn hms ?_
  refine PySem.ks_wpAny_isType_cls (I.kIn _ _ hC) rfl ⟨rfl, ?_⟩
  obtain ⟨t1, ho⟩ := exo_at I.hok hx
  have hlt : s.heap.objs.size ≤ s.heap.objs.size := Nat.le_refl _
  have hKx : X.K.In s.heap := I.kIn
  have hneC : a ≠ C := by
    rintro rfl
    have := I.kIn _ _ hC
    rw [ho] at this
    cases this
  obtain ⟨hh, g, d, tk, os⟩ := s
  refine PySem.ks_wpAny_call_super (I.kIn _ _ hC) rfl ho rfl (fun c z => by cases z) (PySem.W.looks_mroIn hKx SC.sub) fun h' eso k => ?_
  have I1 : Inv X [] σ H ⟨h', g, d, tk, os⟩ := I.kept (t' := tk) k
  have hno := PySem.W.looks_opaque (M := model X.prog X.w) (C := C) I1.kIn SC.opq
  have ho1 := k _ _ ho
  have hsup2 := SC.sup
  unfold PySem.W.ks_superIn at hsup2
  rw [hcl'] at hsup2
  have hI : PySem.W.Looks (model X.prog X.w) h' (isInstance (.ref a) (.type "ValueError")) true :=
    (show PySem.W.Looks (model X.prog X.w) h' (typeOf (.ref a)) (.ref C) from fun A Q E s k q => wpAny_typeOf_ref (k _ _ ho1) q).andThen (PySem.W.looks_subIn I1.kIn SC.isV)
  refine PySem.W.kxs_getMethod PySem.W.kxs_ValueError eso hno (l₀ := .ref C :: bm) (fun A Q E s k q => wpAny_bind ((PySem.W.looks_clsIn I1.kIn hcl') A _ E s k (wpAny_pure q))) rfl I1.kIn hsup2 hI hneC (by decide) ?_
  have I2 : Inv X [] σ H ⟨h'.push (PySem.W.kxs_mw "ValueError.__init__" a), g, d, tk + 1, os⟩ := I1.kept (t' := tk + 1) fun b o e => Heap.get?_push_of_some _ e
  have I3 : Inv X [(h'.objs.size, PySem.W.kxs_mw "ValueError.__init__" a)] σ H ⟨h'.push (PySem.W.kxs_mw "ValueError.__init__" a), g, d, tk + 1, os⟩ := I2.pins_of fun p hp => by
    rw [List.mem_singleton.mp hp]
    exact ⟨Heap.get?_push_at rfl rfl, I1.hok.fresh (Nat.le_refl _), Nat.ne_of_gt I1.lt, I1.nofs (Nat.le_refl _), fun v z => by cases z⟩
  show wpAny _ _ (callWith p3 (.ref h'.objs.size) [] (backTo p3 (starEach [e] X.env)) []) _ _ _
  have pa : PA X [e] (tCons te tNil) := pa_cons he pa_nil (star_plain hst)
  have hrun := pa.run p3 _ _ σ H (fun vs H1 => (∃ v, vs = [v]) ∧ H1 a = some (exo a C none) ∧ Q H1) I3 h
  rw [star_plain hst] at hrun ⊢
  refine PySem.W.kxs_callWith (i := "ValueError.__init__") (x := a) rfl (evalArgs_plain (wpAny_mono hrun (fun us s1 ⟨vs, H1, J, rv, ⟨v, ev⟩, hx1, q⟩ => ?_) fun _ _ z => z))
  subst ev
  have hu := (J.pin _ (List.mem_append_right _ (List.mem_singleton.mpr rfl))).1
  refine ⟨hu, ?_⟩
  obtain ⟨t2, ho2⟩ := exo_at J.hok hx1
  have hus : us.length ≤ sizeLine := by rw [← rv.length]; show 1 ≤ sizeLine; decide
  have J' : Inv X [] σ H1 s1 := J.pins_of fun p hp => by cases hp
  obtain ⟨hp2, g2, d2, tk2, os2⟩ := s1
  refine wpAny_call (codeAny_of_tree ?_)
  show wpAny _ (Around.in1 X.A) (callAny (.ref h'.objs.size) ⟨us, []⟩) _ _ _
  simp only [callAny]
  refine wpAny_bind (wpAny_load hu ?_)
  simp only [PySem.W.kxs_mw, show (Value.type "method-wrapper" == Value.type "method" || Value.type "method-wrapper" == Value.type "builtin_function_or_method" || Value.type "method-wrapper" == Value.type "method-wrapper") = true by decide, if_true]
  refine PySem.W.KFB.if_so (by decide) ?_
  refine wpAny_bind (PySem.W.check_bound_init _root_.PySem.F.excBase_ValueError.toExcCallFacts (J.kIn _ _ hC) ho2 rfl ?_)
  refine wpAny_bind (wpAny_pure (wpAny_pure ?_))
  refine ⟨plainId_quiet _root_.PySem.F.excBase_ValueError.init.plain _, codeAny_builtin _root_.PySem.F.excBase_ValueError.initEntry ?_⟩
  refine PySem.W.exc_init_tree (cls := .ref C) (t0 := t2) (dv := none) (c2 := .none) (c3 := .none) (b4 := .bool false) ho2 hus fun h4 k4 e4 _ => ?_
  have J4 := J'.write (t' := tk2) (x := a) (e := a) (o := exo a C none) (by rw [hx1]; exact True.intro) (.inl rfl) k4 ⟨_, e4⟩ (exo_ok e4)
  have eu : upd H1 a (exo a C none) = H1 := by
    funext b
    by_cases hb : b = a
    · rw [hb, upd_same, hx1]
    · rw [upd_ne hb]
  rw [eu] at J4
  exact ⟨H1, J4, q⟩
end
end Mini
end
section
set_option maxHeartbeats 1000000
/-! An own exception made: C(..), its __init__ by super().__init__(text), then its fields. -/
namespace Mini
open PySem L2 PySem.Spec PyProof.Rows PySem.W NdefX PySem.Calls PyProof.V
/-- what the message may be: a text; a text with the first argument in it -/
inductive MsgOk (N : List Str) : Expr → Prop
  | cst {x : Str} {j : Nat} {p : Pos} : MsgOk N (.Constant (.str x) j p)
  | fmt {x y n : Str} {j1 j2 : Nat} {p1 p2 p3 p4 p : Pos} : N[1]? = some n → x.length ≤ 1000 → y.length ≤ 1000 → (n == ("__debug__" : Str)) = false → (n == ("__classdict__" : Str)) = false →
      MsgOk N (.JoinedStr [.Constant (.str x) j1 p1, .FormattedValue (.Name n p2) (-1) none p3, .Constant (.str y) j2 p4] p)
inductive RestOk (N : List Str) : List Stmt → List (Str × Nat) → Prop
  | nil : RestOk N [] []
  | cons {f n : Str} {i : Nat} {p1 p2 p3 p4 : Pos} {rest : List Stmt} {l : List (Str × Nat)} : N[i]? = some n → (n == ("__debug__" : Str)) = false → (n == ("__classdict__" : Str)) = false → RestOk N rest l →
      RestOk N (.Assign [.Attribute (.Name "self" p1) f p2] (.Name n p3) p4 :: rest) ((f, i) :: l)
section
variable {X : Cx} {σ : L2.St} {H : Hp} {a : Addr}
/-- {x}: an int or None, as a text -/
def tFmtN (te : TE) : TE := fun σ H Q => te σ H fun x H1 => (x = .non ∧ Q (.str "None") H1) ∨ ∃ i : Int, x = .int i ∧ i.natAbs.log2 < 1920 ∧ Q (.str (toString i)) H1
theorem pe_fmtN {X : Cx} {e : Expr} {te : TE} {pos : Pos} (he : PE X e te) : PE X (.FormattedValue e (-1) none pos) (tFmtN te) := by
  refine ⟨fun pins s σ H Q I h => ?_⟩
  refine wpAny_FormattedValue_plain (thn (he.run pins s σ H _ I h) fun v s1 hv => ?_)
  obtain ⟨x, H1, I1, r1, q⟩ := hv
  rcases q with ⟨rfl, q⟩ | ⟨i, rfl, hz, q⟩
  · cases r1
    exact wpAny_formatField_none ⟨.str "None", H1, I1.tok _, ⟨_, rfl⟩, q⟩
  · obtain ⟨t, rfl⟩ := r1
    exact wpAny_formatField_int hz ⟨.str (toString i), H1, I1.tok _, ⟨_, rfl⟩, q⟩
theorem msg_pe {e : Expr} (h : MsgOk X.N e) (hv : ∀ n, X.N[1]? = some n → Vis X.env.scope n) (hh : (∃ x j p, e = .Constant (.str x) j p) ∨ σ[1]? = some (some .non) ∨ ∃ i : Int, σ[1]? = some (some (.int i)) ∧ -(10 ^ 9) < i ∧ i < 10 ^ 9) :
    isStar e = false ∧ ∃ te, PE X e te ∧ ∀ Q : VK, (∀ v, Q v H) → te σ H Q := by
  cases h with
  | cst => exact ⟨rfl, _, pe_str, fun Q q => q _⟩
  | @fmt x y n j1 j2 p1 p2 p3 p4 p hN hx hy hd1 hd2 =>
    have hh' := hh.resolve_left (by rintro ⟨_, _, _, z⟩; cases z)
    refine ⟨rfl, _, pe_joined (.cons pe_str (.cons (pe_fmtN (pe_var hN (hv n hN) hd1 hd2)) (.cons pe_str .nil))), fun Q q => ?_⟩
    rcases hh' with hs | ⟨i, hs, hi1, hi2⟩
    · have hl : ("None" : Str).length = 4 := by decide
      refine ⟨x, rfl, ?_, .non, hs, .inl ⟨rfl, "None", rfl, ?_, y, rfl, ?_, q _⟩⟩
      · rw [Str.length_append, sizeLine_eq]
        have : Str.empty.length = 0 := rfl
        omega
      · rw [Str.length_append, Str.length_append, sizeLine_eq]
        have : Str.empty.length = 0 := rfl
        omega
      · rw [Str.length_append, Str.length_append, Str.length_append, sizeLine_eq]
        have : Str.empty.length = 0 := rfl
        omega
    · have hlog : i.natAbs.log2 < 1920 := by
        have h3 : i.natAbs < 2 ^ 30 := by omega
        have : i.natAbs.log2 ≤ 30 := by
          by_cases h0 : i.natAbs = 0
          · rw [h0]; decide
          · exact Nat.le_of_lt ((Nat.log2_lt h0).mpr h3)
        omega
      have hl := int_text_len_1921 hlog
      refine ⟨x, rfl, ?_, .int i, hs, .inr ⟨i, rfl, hlog, Str.ofString (toString i), rfl, ?_, y, rfl, ?_, q _⟩⟩
      · rw [Str.length_append, sizeLine_eq]
        have : Str.empty.length = 0 := rfl
        omega
      · rw [Str.length_append, Str.length_append, sizeLine_eq]
        have : Str.empty.length = 0 := rfl
        omega
      · rw [Str.length_append, Str.length_append, Str.length_append, sizeLine_eq]
        have : Str.empty.length = 0 := rfl
        omega
/-- the fields' stores, read -/
def tR (K : Frag) : List (Str × Nat) → TS
  | [] => tNext
  | (f, i) :: l => fun E σ H => ∃ (y : V) (a C : Addr), σ[i]? = some (some y) ∧ σ[0]? = some (some (.ref a)) ∧ OexC K C ∧ findIn K (.ref C) f = some none ∧
      ((H a = some (exo a C none) ∧ ∀ dx, H dx = none → dx ≠ a → tR K l E σ (upd (upd H dx (exd dx [(f, y)])) a (exo a C (some dx)))) ∨
        ∃ (dx : Addr) (fs : List (Str × V)), H a = some (exo a C (some dx)) ∧ H dx = some (exd dx fs) ∧ fs.length ≤ 900 ∧ tR K l E σ (upd H dx (exd dx ((f, y) :: fs))))
theorem rest_pss {rest : List Stmt} {l : List (Str × Nat)} (h : RestOk X.N rest l) (hN : X.N[0]? = some ("self" : Str)) (hv : ∀ (i : Nat) (n : Str), X.N[i]? = some n → Vis X.env.scope n) : PSs X rest (tR X.K l) := by
  induction h with
  | nil => exact pss_nil
  | @cons f n i p1 p2 p3 p4 rest l hi hd1 hd2 r ih =>
    refine pssImp (pss_cons (ps_ost (f := f) (pe_var hN (hv 0 _ hN) (by decide) (by decide)) (pe_var hi (hv i n hi) hd1 hd2)) ih) fun E σ H ⟨y, a, C, h1, h2, h3, h4, h5⟩ => ?_
    refine ⟨y, h1, .ref a, h2, a, C, rfl, h3, h4, ?_⟩
    rcases h5 with ⟨e, q⟩ | ⟨dx, fs, e1, e2, e3, q⟩
    · exact .inl ⟨e, q⟩
    · exact .inr ⟨dx, fs, e1, e2, e3, q⟩
/-- the heap with some fields stored -/
def HF (H : Hp) (a C dx : Addr) (fs : List (Str × V)) : Hp := upd (upd H dx (exd dx fs)) a (exo a C (some dx))
theorem HF_put {C dx : Addr} {fs fs' : List (Str × V)} (hne : dx ≠ a) : upd (HF H a C dx fs) dx (exd dx fs') = HF H a C dx fs' := by
  funext b
  unfold HF
  by_cases h1 : b = dx
  · subst h1; rw [upd_same, upd_ne hne, upd_same]
  · rw [upd_ne h1]
    by_cases h2 : b = a
    · subst h2; rw [upd_same, upd_same]
    · rw [upd_ne h2, upd_ne h2, upd_ne h1, upd_ne h1]
/-- the fields, last first -/
def fldsOf (σ : L2.St) : List (Str × Nat) → List (Str × V) → List (Str × V)
  | [], acc => acc
  | (f, i) :: l, acc => fldsOf σ l ((f, slotAtD σ i) :: acc)
where slotAtD (σ : L2.St) (i : Nat) : V := match σ[i]? with
  | some (some v) => v
  | _ => .non
theorem tR_from {K : Frag} {C dx : Addr} (T : OexC K C) (hs : σ[0]? = some (some (.ref a))) (hne : dx ≠ a) : ∀ (l : List (Str × Nat)) (fs : List (Str × V)) (E : L2.Ends), (∀ p ∈ l, (∃ v, σ[p.2]? = some (some v)) ∧ findIn K (.ref C) p.1 = some none) → fs.length + l.length ≤ 900 →
    E.nx σ (HF H a C dx (fldsOf σ l fs)) → tR K l E σ (HF H a C dx fs)
  | [], fs, E, _, _, q => q
  | (f, i) :: l, fs, E, h, hl, q => by
    obtain ⟨⟨v, hv⟩, hno⟩ := h (f, i) List.mem_cons_self
    have e : fldsOf.slotAtD σ i = v := by unfold fldsOf.slotAtD; simp only at hv; rw [hv]
    have hl' : fs.length + (l.length + 1) ≤ 900 := hl
    refine ⟨v, a, C, hv, hs, T, hno, .inr ⟨dx, fs, by unfold HF; rw [upd_same], by unfold HF; rw [upd_ne hne, upd_same], by omega, ?_⟩⟩
    rw [HF_put hne]
    refine tR_from T hs hne l _ E (fun p hp => h p (List.mem_cons_of_mem _ hp)) (by simp; omega) ?_
    unfold fldsOf at q
    rw [e] at q
    exact q
theorem tR_all {K : Frag} {C : Addr} (T : OexC K C) (hs : σ[0]? = some (some (.ref a))) (hx : H a = some (exo a C none)) (l : List (Str × Nat)) (E : L2.Ends) (h : ∀ p ∈ l, (∃ v, σ[p.2]? = some (some v)) ∧ findIn K (.ref C) p.1 = some none) (hl : l.length ≤ 800)
    (q0 : l = [] → E.nx σ H) (q : l ≠ [] → ∀ dx, H dx = none → dx ≠ a → E.nx σ (HF H a C dx (fldsOf σ l []))) : tR K l E σ H := by
  cases l with
  | nil => exact q0 rfl
  | cons p l =>
    obtain ⟨f, i⟩ := p
    obtain ⟨⟨v, hv⟩, hno⟩ := h (f, i) List.mem_cons_self
    have e : fldsOf.slotAtD σ i = v := by unfold fldsOf.slotAtD; simp only at hv; rw [hv]
    refine ⟨v, a, C, hv, hs, T, hno, .inl ⟨hx, fun dx hd hne => ?_⟩⟩
    have q := q (by simp) dx hd hne
    unfold fldsOf at q
    rw [e] at q
    exact tR_from (H := H) T hs hne l [(f, v)] E (fun p hp => h p (List.mem_cons_of_mem _ hp)) (by simp at hl ⊢; omega) q
end
end Mini
end
section
set_option maxHeartbeats 1000000
namespace Mini
open PySem L2 PySem.Spec PyProof.Rows PySem.W NdefX PySem.Calls PyProof.V
section
variable {X : Cx}
/-- the end of C(e, ..) without fields -/
theorem mk_endN {pins : List (Addr × Obj)} {σ : L2.St} {H1 H2 : Hp} {Q : XK} {hp hp2 h2 : Heap} {g1 g2 : Array GenState} {d1 d2 : Drawn} {t1 t2 : Nat} {os1 os2 : OsState} {a C : Addr} (T : Raises X (.ref C)) (I1 : Inv X pins σ H1 ⟨hp, g1, d1, t1, os1⟩)
    (ha : hp.objs.size ≤ a) (k : ∀ b o, hp.get? b = some o → hp2.get? b = some o) (un : Un (frs X.stack) [] (upd H1 a (exo a C none)) H2 hp2 h2) (hok : HOk X.prog X.w H2 h2) (ho : os2 = os1) (hb : AllBare g2)
    (ea : H2 a = some (exo a C none)) (q : Q (.ref C) none (del H2 a)) : MkP X pins σ Q (.ref a) ⟨h2, g2, d2, t2, os2⟩ := by
  obtain ⟨t0, hoe⟩ := exo_at hok ea
  have hn : H1 a = none := I1.hok.fresh ha
  obtain ⟨G, g1', g2'⟩ := restrict h2 fun b => decide (b ≠ a)
  have gk : ∀ b, b ≠ a → G.get? b = h2.get? b := fun b hb => g1' b (decide_eq_true hb)
  have ge : G.get? a = none := g2' a (by simp)
  have nha : ∀ {b : Addr} {o : Obj}, hp.get? b = some o → b ≠ a := fun {b o} z => Nat.ne_of_lt (Nat.lt_of_lt_of_le (Heap.lt_size z) ha)
  have up : ∀ {b : Addr}, b ≠ a → H1 b = none → upd H1 a (exo a C none) b = none := fun {b} hb n => by rw [upd_ne hb]; exact n
  have U : Un (frs X.stack) [] H1 (del H2 a) hp G := {
    keep := fun b o z n hf hx => by
      rw [gk b (nha z)]
      exact un.keep b o (k b o z) (up (nha z) n) hf hx
    slot := fun b o z n hf hx => by
      rw [gk b (nha z)]
      exact un.slot b o (k b o z) (up (nha z) n) hf hx
    free := fun b o z n hx => by
      rw [del_ne (nha z)]
      exact un.free b o (k b o z) (up (nha z) n) hx
    there := fun b o z hx => by
      rw [gk b (nha z)]
      exact un.there b o (k b o z) hx
    tups := fun b xs z => by
      rw [del_ne (ne_of_none z hn)]
      exact un.tups b xs (by rw [upd_ne (ne_of_none z hn)]; exact z)
    frzs := fun b o v z => by
      rw [del_ne (ne_of_none z hn)]
      exact un.frzs b o v (by rw [upd_ne (ne_of_none z hn)]; exact z)
    tbls := fun b ps z => by
      rw [del_ne (ne_of_none z hn)]
      exact un.tbls b ps (by rw [upd_ne (ne_of_none z hn)]; exact z) }
  have hok3 : HOk X.prog X.w (del H2 a) G := fun b o z => by
    have hba : b ≠ a := fun e => by
      rw [e, del_same] at z
      cases z
    rw [del_ne hba] at z
    have noa : ∀ {c : Addr}, H2 c = some (.own b) → c ≠ a := fun {c} hc => at_ne ea hc exo_own
    exact (hok b o z).stay (fun c v hc y => by
        have hca : c ≠ a := by
          rcases hc with hc | hc
          · rw [hc]
            exact hba
          · exact noa hc
        rw [gk c hca]
        exact y)
      (fun c hc => by rw [del_ne (noa hc)]; exact hc) (fun c xs hc => by rw [del_ne (at_ne ea hc exo_tup)]; exact hc)
  have J : Inv X pins σ (del H2 a) ⟨G, g2, d2, t2, os2⟩ := I1.call' (ch := []) ho U hok3 hb (fun b z => absurd z (by simp))
  refine ⟨a, _, _, ⟨G, g2, d2, t2, os2⟩, _, .ref C, none, rfl, J, fun b o z => ?_, ge, hoe, ⟨rfl, rfl⟩, rfl, rfl, del_same, rfl, hb, T, q⟩
  by_cases hba : b = a
  · rw [hba, ge] at z
    cases z
  · exact (gk b hba).symm.trans z
end
theorem del_upd {H : Hp} {a : Addr} {o : HO} (h : H a = none) : del (upd H a o) a = H := by
  funext b
  by_cases hb : b = a
  · rw [hb, del_same, h]
  · rw [del_ne hb, upd_ne hb]
theorem del_HF {H : Hp} {a C dx : Addr} {o : HO} {fs fs' : List (Str × V)} (h : H a = none) (hne : dx ≠ a) : upd (del (HF (upd H a o) a C dx fs) a) dx (.xd fs') = upd H dx (.xd fs') := by
  funext b
  by_cases h1 : b = dx
  · rw [h1, upd_same, upd_same]
  · rw [upd_ne h1, upd_ne h1]
    by_cases h2 : b = a
    · rw [h2, del_same, h]
    · rw [del_ne h2]
      unfold HF
      rw [upd_ne h2, upd_ne h1, upd_ne h2]
abbrev slf : Str := "self"
/-- what is asked of the text of C's __init__ -/
structure InitTx (FN : NF) (N ps efs : List Str) (l : List (Str × Nat)) : Prop where
  sc : NScope N (slf :: ps) [("__class__" : Str)] FN.scope
  hN : N = slf :: ps ++ [("__class__" : Str)]
  body : ∃ (p0 p1 p2 p3 p4 : Pos) (e : Expr) (rest : List Stmt), FN.body = .Expr (.Call (.Attribute (.Call (.Name "super" p0) [] [] p1) "__init__" p2) [e] [] p3) p4 :: rest ∧ (p2.endLine == p3.line) = true ∧ MsgOk N e ∧ (ps = [] → ∃ x j p, e = .Constant (.str x) j p) ∧ RestOk N rest l
  sup : FN.scope.names.lookup ("super" : Str) = some .globalImplicit
  par : (FN.params.posonlyargs ++ FN.params.args).head?.map (·.arg) = some ("self" : Str)
  bind : ∀ (kV doc pm : Value) (an : Option Addr) (ctv : Value) (us : List Value), us.length = (slf :: ps).length → bindArgs (fnX FN.name FN.qual FN.params FN.body FN.scope FN.cl .none kV doc pm an (.ref FN.c) ctv) ⟨us, []⟩ = pure ((slf :: ps).zip us)
  len : efs.length = ps.length
  slots : ∀ p ∈ l, 1 ≤ p.2 ∧ p.2 ≤ ps.length
  nil : l = [] ↔ efs = []
  few : l.length ≤ 800
  pfew : ps.length ≤ 1000
  look : ∀ (vs : List V) (x c : V), vs.length = ps.length → ∀ g, (fldsOf ((x :: vs).map some ++ [some c]) l []).lookup g = (efs.zip vs).lookup g
theorem mk_ok {F : Fx} {mg : Str → Option Value} {base : Heap} {C : Str} {fI : Addr} {FN : NF} {N ps efs : List Str} {l : List (Str × Nat)} (SC : SupC F.prog F.K mg (F.cad C) fI FN) (TX : InitTx FN N ps efs l)
    (hno : ∀ p ∈ l, findIn F.K (.ref (F.cad C)) p.1 = some none) : MkOk F mg base C efs := by
  intro X h1 h2 h3 h4 h5 hr pins s σ H us vs Q I ru hlen hsm hhd q0 q1
  have SC' : SupC X.prog X.K X.mg (F.cad C) fI FN := by rw [h1, h3, h4]; exact SC
  have hno' : ∀ p ∈ l, findIn X.K (.ref (F.cad C)) p.1 = some none := by rw [h3]; exact hno
  generalize F.cad C = Ca at *
  obtain ⟨nm, q, Nn, bs, bm, sn, sub, ab, col, dd, k0, k1, k2, k3, k5, hC, hbm⟩ := SC'.T.cls
  obtain ⟨p0, p1, p2, p3, p4, e, rest, hbody, hline, hmsg, hcst, hrest⟩ := TX.body
  obtain ⟨oc, od, kV, doc, pm, an, ctv, sl, lk⟩ := SC'.lk
  obtain ⟨hp, g, dr, tk, os⟩ := s
  have hsz : hp.objs.size ≤ hp.objs.size + 1 := Nat.le_succ _
  have hn : H (hp.objs.size + 1) = none := I.hok.fresh hsz
  have kk : ∀ b o, hp.get? b = some o → ((hp.push (PySem.W.kdv_tup us)).push (PySem.HandSPX.excO Ca hp.objs.size)).get? b = some o := fun b o e => Heap.get?_push_of_some _ (Heap.get?_push_of_some _ e)
  have hget : ((hp.push (PySem.W.kdv_tup us)).push (PySem.HandSPX.excO Ca hp.objs.size)).get? (hp.objs.size + 1) = some (PySem.HandSPX.excO Ca hp.objs.size) := by heap_get
  have I2 : Inv X pins σ (upd H (hp.objs.size + 1) (exo (hp.objs.size + 1) Ca none)) ⟨(hp.push (PySem.W.kdv_tup us)).push (PySem.HandSPX.excO Ca hp.objs.size), g, dr, tk, os⟩ :=
    I.laid (t' := tk) (a := hp.objs.size + 1) (o := exo (hp.objs.size + 1) Ca none) (h' := (hp.push (PySem.W.kdv_tup us)).push (PySem.HandSPX.excO Ca hp.objs.size)) kk hsz (exo_ok hget)
  have hus : us.length ≤ sizeLine := by
    rw [← Paired.length ru, hlen, TX.len]
    have := TX.pfew
    rw [sizeLine_eq]; omega
  have e0 := I2.env0
  have hr1 : Room 1 (X.A.under (.builtin "type.__call__" ⟨.ref Ca :: us, []⟩)) := hr.make Ca us []
  have e1 := e0.make Ca us []
  refine wpAny_call (PySem.HandSPX.call_own _root_.PySem.F.excBase_ValueError (fun Y => PySem.HandSPX.refsVE_contains Y bm hbm) (I.kIn _ _ hC) (PySem.W.looks_findIn I.kIn SC'.init) (fun self => PySem.W.bind_fn I.kIn self SC'.tI) hus ?_)
  generalize ha : hp.objs.size + 1 = a at *
  generalize hA1 : X.A.under (.builtin "type.__call__" ⟨.ref Ca :: us, []⟩) = A1 at *
  generalize hs2 : (⟨(hp.push (PySem.W.kdv_tup us)).push (PySem.HandSPX.excO Ca hp.objs.size), g, dr, tk, os⟩ : Shared) = s2 at *
  have hvl : vs.length = ps.length := by rw [hlen, TX.len]
  have ru2 : Vals (V.ref a :: vs) (Value.ref a :: us) := .cons rfl ru
  have hul : (Value.ref a :: us).length = (slf :: ps).length := by rw [← ru2.length]; simp [hvl]
  obtain ⟨cc, hcc, cl', cld, csl, hcell⟩ := SC'.cl
  have CA : CellsAt FN.cl [("__class__" : Str)] [some (V.ref Ca)] s2.heap (upd H a (exo a Ca none)) := by
    have hbc := e1.bs cc _ (e1.mod.kin _ _ hcell)
    have hlk : ∀ y c, FN.cl.lookup y = some c → y = ("__class__" : Str) ∧ c = cc := fun y c z => by
      rw [hcc] at z
      simp only [List.lookup] at z
      split at z
      · rename_i hy
        cases z
        exact ⟨by simpa using hy, rfl⟩
      · cases z
    refine ⟨rfl, fun y c z => ?_, fun x y c z1 z2 => (hlk x c z1).1.trans (hlk y c z2).1.symm, fun i y hy => ?_⟩
    · obtain ⟨_, rfl⟩ := hlk y c z
      exact ⟨hbc.2, _, _, hbc.1, rfl⟩
    · cases i with
      | zero =>
        simp at hy; subst hy
        exact ⟨cc, by rw [hcc]; simp [List.lookup], fun v hv => by simp at hv; subst hv; exact ⟨_, rfl, _, hbc.1, rfl⟩⟩
      | succ i => simp at hy
  have hNl : N.length = ps.length + 2 := by rw [TX.hN]; simp
  have hst0 : startF N (V.ref a :: vs) [some (V.ref Ca)] = (V.ref a :: vs).map some ++ [some (V.ref Ca)] := by
    unfold startF
    rw [hNl]
    simp [hvl]
  have hvis : ∀ (i : Nat) (n : Str), N[i]? = some n → Vis FN.scope n := fun i n z => by
    have hm := List.mem_of_getElem? z
    rw [TX.hN] at hm
    rcases List.mem_append.mp hm with hm | hm
    · exact .inl (TX.sc.par n hm)
    · exact .inr (.inr (TX.sc.frk n hm))
  refine PySem.ks_codeAny_call_defAt (fd := fnX FN.name FN.qual FN.params FN.body FN.scope FN.cl .none kV doc pm an (.ref FN.c) ctv) (body := FN.body) (binds := (slf :: ps).zip (Value.ref a :: us)) hr1.depth (I2.kIn _ _ lk) rfl
    (e1.mod.nolimit.keeps fun b o e => (e1.bs b o e).1) (PySem.W.codeRec_of I2.kIn SC'.hcd) rfl (.of_eq (TX.bind _ _ _ _ _ _ hul)) TX.sc.nocell (fun ⟨n, _⟩ hy => TX.sc.par n (List.of_mem_zip hy).1) (fun h₀ hns hk => ?_) TX.sc.co TX.sc.gen TX.sc.kind
  have I3 : Inv (ncx CX0 X.prog X.w X.K X.mg X.base N FN fI A1 X.stack s2 (upd H a (exo a Ca none)) (fun _ _ _ => False)) [] (startF N (V.ref a :: vs) [some (V.ref Ca)]) (upd H a (exo a Ca none)) { s2 with heap := h₀, toks := s2.toks + ((slf :: ps).zip (Value.ref a :: us)).length } :=
    inv_startN TX.sc hr1.hd e1 (by simp [hvl]) ru2 CA hns hk
  let X' : Cx := ncx CX0 X.prog X.w X.K X.mg X.base N FN fI A1 X.stack s2 (upd H a (exo a Ca none)) (fun _ _ _ => False)
  have hx0 : (upd H a (exo a Ca none)) a = some (exo a Ca none) := upd_same
  have hs0 : (startF N (V.ref a :: vs) [some (V.ref Ca)])[0]? = some (some (V.ref a)) := by rw [hst0]; rfl
  have hN0 : N[0]? = some slf := by rw [TX.hN]; rfl
  have hself : FN.scope.names.lookup slf = some .local := TX.sc.par slf List.mem_cons_self
  have hcl2 : FN.scope.names.lookup ("__class__" : Str) = some .free := TX.sc.frk _ List.mem_cons_self
  have hmm : (∃ x j p, e = .Constant (.str x) j p) ∨ (startF N (V.ref a :: vs) [some (V.ref Ca)])[1]? = some (some .non) ∨ ∃ i : Int, (startF N (V.ref a :: vs) [some (V.ref Ca)])[1]? = some (some (.int i)) ∧ -(10 ^ 9) < i ∧ i < 10 ^ 9 := by
    cases vs with
    | nil =>
      have : ps = [] := List.length_eq_zero_iff.mp hvl.symm
      exact .inl (hcst this)
    | cons v vs =>
      rcases hhd v vs rfl with rfl | ⟨i, rfl, hi⟩
      · exact .inr (.inl (by rw [hst0]; rfl))
      · exact .inr (.inr ⟨i, by rw [hst0]; rfl, hi⟩)
  obtain ⟨hst, te, hte, hread⟩ := msg_pe (X := X') (σ := startF N (V.ref a :: vs) [some (V.ref Ca)]) (H := upd H a (exo a Ca none)) hmsg (fun n z => hvis 1 n z) hmm
  have hslot : ∀ p ∈ l, (∃ v, (startF N (V.ref a :: vs) [some (V.ref Ca)])[p.2]? = some (some v)) ∧ findIn X.K (.ref Ca) p.1 = some none := fun p hp => by
    obtain ⟨b1, b2⟩ := TX.slots p hp
    refine ⟨?_, hno' p hp⟩
    have hlt : p.2 < ((V.ref a :: vs).map some).length := by simp [hvl]; omega
    rw [hst0, List.getElem?_append_left hlt, List.getElem?_map]
    have hlt2 : p.2 < (V.ref a :: vs).length := by simpa using hlt
    exact ⟨(V.ref a :: vs)[p.2], by rw [List.getElem?_eq_getElem hlt2]; rfl⟩
  let E : L2.Ends := { nx := fun _ H' => (efs = [] ∧ H' = upd H a (exo a Ca none)) ∨ (efs ≠ [] ∧ ∃ dx, (upd H a (exo a Ca none)) dx = none ∧ dx ≠ a ∧ H' = HF (upd H a (exo a Ca none)) a Ca dx (fldsOf (startF N (V.ref a :: vs) [some (V.ref Ca)]) l [])), rt := fun _ _ => False }
  have htr : tR X.K l E (startF N (V.ref a :: vs) [some (V.ref Ca)]) (upd H a (exo a Ca none)) := tR_all SC'.T hs0 hx0 l E hslot TX.few (fun h => .inl ⟨TX.nil.mp h, rfl⟩) fun h dx hd hne => .inr ⟨fun h' => h (TX.nil.mpr h'), dx, hd, hne, rfl⟩
  have RS := raises_own SC'.T.exC SC'.T.tyC
  show _root_.PySem.wpAt (model X.prog X.w) X'.A (.func FN.body X'.env) (execs FN.body X'.env) _ _ _
  rw [show execs FN.body X'.env = execs (.Expr (.Call (.Attribute (.Call (.Name "super" p0) [] [] p1) "__init__" p2) [e] [] p3) p4 :: rest) X'.env by rw [hbody]]
  refine PySem.ks_wpAt_execs_cons (PySem.ks_wpAt_Expr_any (PySem.ks_wpAt_mono (at_super (X := X') (body := FN.body) (Q := fun H' => H' = upd H a (exo a Ca none)) SC' rfl rfl rfl hN0 hself TX.sup hcl2 TX.par hte hst hline I3 hs0 hx0 ?_) (fun v s' ⟨H', J, q⟩ => ?_) fun e s' z => ?_) I3.quiet rfl)
  · exact hread _ fun v => ⟨⟨v, rfl⟩, hx0, rfl⟩
  · subst q
    refine _root_.PySem.wpAt_of_wpAny (wpAny_mono ((rest_pss (X := X') hrest hN0 hvis).run [] s' _ _ E J htr) (fun fl s4 hs => ?_) fun e s4 z => ?_)
    · cases fl with
      | next =>
        obtain ⟨σ4, H4, J4, q4⟩ := hs
        refine ⟨rfl, ?_⟩
        obtain ⟨h4, g4, d4, t4, os4⟩ := s4
        have hH2 : ∀ dx, (upd H a (exo a Ca none)) dx = none → dx ≠ a → H dx = none := fun dx z hne => by rw [upd_ne hne] at z; exact z
        subst hs2
        rcases q4 with ⟨he, rfl⟩ | ⟨he, dx, hd, hne, rfl⟩
        · refine mk_endN RS I hsz kk J4.base J4.hok J4.os J4.bare hx0 ?_
          rw [del_upd hn]
          exact q0 he
        · refine mk_end RS I hsz kk J4.base J4.hok J4.os J4.bare (d := dx) (fs := fldsOf (startF N (V.ref a :: vs) [some (V.ref Ca)]) l []) (by unfold HF; rw [upd_same]) (by unfold HF; rw [upd_ne hne, upd_same]) (hH2 dx hd hne) ?_
          rw [del_HF hn hne]
          exact q1 he dx _ (hH2 dx hd hne) fun g => by rw [hst0]; exact TX.look vs _ _ hvl g
      | ret u => obtain ⟨_, _, _, _, _, z⟩ := hs; exact z.elim
      | brk => obtain ⟨_, _, _, z⟩ := hs; exact z.elim
      | cont => obtain ⟨_, _, _, z⟩ := hs; exact z.elim
    · exact wpAny_mono z (fun _ _ h => h.elim) fun _ _ h => h.elim
  · exact wpAny_mono z (fun _ _ h => h.elim) fun _ _ h => h.elim
end Mini
end
section
/-! What the program's top leaves, checked; what may be called, by levels. -/
namespace Mini
open PySem L2 PySem.Spec PyProof.Rows NdefX
open PySem.W (Frag findIn nsIn kitOne exmOne subIn keepIn isFn specialIn takesIn mroIn hasDictIn makesIn typeIn recIn notFirst codeIn clsIn)
/-- a def of the text -/
structure MD where
  q : Str
  cls : Option Str
  m : Str
  prop : Bool
  qual : Str
  params : Arguments
  body : List Stmt
  scope : Scope
  N : List Str
  ps : List Str
  lvl : Nat
  muts : List Str
  keep : Bool
  ir : CSs
  kw : Option Str
def MD.cx (d : MD) : CTX := ⟨d.N, d.scope, [], false, d.lvl, true, d.muts, d.keep, none⟩
def MD.ent (d : MD) : Ent := .fn (if d.prop then d.cls else none) d.ps.length d.N.length d.keep d.ir
/-- what is said of its text -/
structure MD.Tx (P : PInfo) (d : MD) : Prop where
  comp : compSs P 60 d.cx d.body = some d.ir
  sc : FnScope d.N d.ps d.scope
  bind : d.kw = none → ∀ (kV doc pm : Value) (an : Option Addr) (cdv ct : Value) (us : List Value), us.length = d.ps.length → bindArgs (PySem.W.fnOf d.m d.qual d.params d.body d.scope .none kV doc pm an cdv ct) ⟨us, []⟩ = pure (d.ps.zip us)
  bindk : ∀ k, d.kw = some k → (∀ (kV doc pm : Value) (an : Option Addr) (cdv ct : Value) (us : List Value), us.length = d.ps.length → bindArgs (PySem.W.fnOf d.m d.qual d.params d.body d.scope .none kV doc pm an cdv ct) ⟨us.dropLast, [(k, us.getLastD .none)]⟩ = pure (d.ps.zip us)) ∧
    ∀ (D : Addr) (doc pm : Value) (an : Option Addr) (cdv ct : Value) (us : List Value) (v : Value), us.length + 1 = d.ps.length → KwChain D [(k, v)] (bindArgs (PySem.W.fnOf d.m d.qual d.params d.body d.scope .none (.ref D) doc pm an cdv ct) ⟨us, []⟩) (d.ps.zip (us ++ [v]))
/-- where it stands -/
def MD.adr (K : Frag) (d : MD) : Addr := match d.cls with
  | none => He.ga K d.m
  | some C => (match d.prop with
    | false => He.ma K (He.ga K C) d.m
    | true => (match recIn K (He.ma K (He.ga K C) d.m) "property" with
      | some (.ref g :: _) => g
      | _ => 0))
def fnAt (K : Frag) (a : Addr) : He.FnV := match K.lookup a with
  | some ⟨_, _, .func fd, _⟩ => some (fd.name, fd.qualname, fd.params, fd.body, fd.scope, fd.globals, fd.closure, fd.defaults, fd.builtins)
  | _ => none
def MD.val (d : MD) : He.FnV := some (d.m, d.qual, d.params, .stmts d.body, d.scope, mainGlobals, [], .none, builtinsNs)
def MD.ok (K : Frag) (d : MD) : Bool := (match K.lookup (d.adr K) with
  | some ⟨_, _, .func fd, _⟩ => codeIn K fd.code d.qual
  | _ => false) && (match d.cls with
  | none => decide (nsIn K mainGlobals d.m = some (some (.ref (He.ga K d.m)))) && keepIn K (.ref (He.ga K d.m))
  | some C => (match d.prop with
    | false => decide (findIn K (.ref (He.ga K C)) d.m = some (some (.ref (He.ma K (He.ga K C) d.m)))) && isFn K (.ref (He.ma K (He.ga K C) d.m)) && keepIn K (.ref (He.ma K (He.ga K C) d.m))
    | true => decide (findIn K (.ref (He.ga K C)) d.m = some (some (.ref (He.ma K (He.ga K C) d.m)))) && decide (specialIn K (.ref (He.ma K (He.ga K C) d.m)) "__get__" = some (some (.builtin "property.__get__"))) &&
        decide (takesIn K (.ref (He.ma K (He.ga K C) d.m)) = some true) && (match recIn K (He.ma K (He.ga K C) d.m) "property" with
          | some (.ref _ :: _) => true
          | _ => false)))
theorem md_fn {K : Frag} {d : MD} (e : fnAt K (d.adr K) = d.val) (c : d.ok K = true) :
    ∃ oc od osl kV doc pm an cdv ct, K.lookup (d.adr K) = some ⟨oc, od, .func (PySem.W.fnOf d.m d.qual d.params d.body d.scope .none kV doc pm an cdv ct), osl⟩ ∧ codeIn K cdv d.qual = true := by
  unfold MD.ok at c
  have c2 := (Bool.and_eq_true_iff.mp c).1
  unfold fnAt at e
  cases q : K.lookup (d.adr K) with
  | none => rw [q] at c2; cases c2
  | some o =>
    obtain ⟨oc, od, dt, osl⟩ := o
    rw [q] at c2 e
    cases dt with
    | func fd =>
      obtain ⟨n1, n2, n3, n4, n5, n6, n7, n8, n9, n10, n11, n12, n13, n14, n15⟩ := fd
      have e2 : (some (n1, n2, n3, n4, n5, n6, n7, n8, n15) : He.FnV) = some (d.m, d.qual, d.params, .stmts d.body, d.scope, mainGlobals, [], .none, builtinsNs) := e
      simp only [Option.some.injEq, Prod.mk.injEq] at e2
      obtain ⟨h1, h2, h3, h4, h5, h6, h7, h8, h9⟩ := e2
      subst h1 h2 h3 h4 h5 h6 h7 h8 h9
      exact ⟨oc, od, osl, n9, n10, n11, n12, n13, n14, rfl, c2⟩
    | _ => cases c2
/-! ### constants -/
def leafV : D → Option V
  | .non => some .non
  | .bl b => some (.bl b)
  | .int i => some (.int i)
  | .str x => some (.str x)
  | _ => none
def leafVs : List D → Option (List V)
  | [] => some []
  | x :: r => match leafV x, leafVs r with
    | some v, some vs => some (v :: vs)
    | _, _ => none
/-- the keyword's own default -/
def MD.okK (K : Frag) (d : MD) (k : Str) (v : D) : Bool := match K.lookup (d.adr K) with
  | some ⟨_, _, .func fd, _⟩ => (match fd.kwdefaults with
    | .ref E => (match nsIn K E k, leafV v with
      | some (some u), some w => He.relB w u
      | _, _ => false)
    | _ => false)
  | _ => false
theorem md_fnK {K : Frag} {d : MD} {k : Str} {v : D} (e : fnAt K (d.adr K) = d.val) (c : d.ok K = true) (ck : d.okK K k v = true) :
    ∃ oc od osl E doc pm an cdv ct u w, K.lookup (d.adr K) = some ⟨oc, od, .func (PySem.W.fnOf d.m d.qual d.params d.body d.scope .none (.ref E) doc pm an cdv ct), osl⟩ ∧ codeIn K cdv d.qual = true ∧ nsIn K E k = some (some u) ∧ leafV v = some w ∧ RelV w u := by
  obtain ⟨oc, od, osl, kV, doc, pm, an, cdv, ct, lk, hc⟩ := md_fn e c
  unfold MD.okK at ck
  rw [lk] at ck
  simp only [PySem.W.fnOf] at ck
  split at ck
  · rename_i E
    split at ck
    · rename_i u w e1 e2
      exact ⟨oc, od, osl, E, doc, pm, an, cdv, ct, u, w, lk, hc, e1, e2, He.relB_ok ck⟩
    · cases ck
  · cases ck
theorem leafV_rp {F : Fx} {A : List Addr} {H : Hp} : ∀ {d : D} {v : V}, leafV d = some v → Rp F A H d v := fun {d v} h => by
  cases d <;> simp only [leafV, Option.some.injEq, reduceCtorEq] at h <;> subst h
  · exact .non
  · exact .bl _
  · exact .int _
  · exact .str _
theorem leafVs_rps {F : Fx} {A : List Addr} {H : Hp} : ∀ {d : List D} {v : List V}, leafVs d = some v → Rps F A H d v
  | [], _, h => by simp only [leafVs, Option.some.injEq] at h; subst h; exact .nil
  | x :: r, _, h => by
    simp only [leafVs] at h
    split at h
    · rename_i v vs e1 e2
      cases h
      exact .cons (leafV_rp e1) (leafVs_rps e2)
    · cases h
def constB (K : Frag) (x : Str) (d : D) : Bool := match nsIn K mainGlobals x with
  | some (some u) => (match d with
    | .tup ds => (match leafVs ds, u with
      | some vs, .ref a => (match K.lookup a with
        | some ⟨c, _, .seq its _, _⟩ => decide (c = .type "tuple") && decide (its.size ≤ sizeLine) && He.relAll vs its.toList
        | _ => false)
      | _, _ => false)
    | d => (match leafV d with
      | some v => He.relB v u
      | none => false))
  | _ => false
theorem constB_ok {K : Frag} {h : Heap} {mg : Str → Option Value} (X : K.In h) (G : h.Ns mainGlobals mg) {F : Fx} (hF : F.K = K) {x : Str} {d : D} (c : constB K x d = true) : ∃ u v, mg x = some u ∧ RelV v u ∧ ∀ ps A H, Rp (F.pv ps) A H d v := by
  unfold constB at c
  split at c
  · rename_i u e
    have hm := PySem.W.mg_of X G e
    split at c
    · rename_i ds
      split at c
      · rename_i vs a ev
        split at c
        · rename_i cl od its n osl ho
          simp only [Bool.and_eq_true, decide_eq_true_eq] at c
          refine ⟨_, .ref a, hm, rfl, fun ps A H => .tup (.inr ⟨_, its, n, by rw [hF]; exact ho, c.1.1, rfl, c.1.2, He.relAll_ok c.2⟩) (leafVs_rps ev)⟩
        · cases c
      · cases c
    · split at c
      · rename_i v ev
        exact ⟨u, v, hm, He.relB_ok c, fun ps A H => leafV_rp ev⟩
      · cases c
  · cases c
end Mini
end
section
set_option maxHeartbeats 1000000
/-! Exceptions' classes, checked. -/
namespace Mini
open PySem L2 PySem.Spec PyProof.Rows NdefX
open PySem.W (Frag findIn nsIn kitOne exmOne subIn keepIn isFn specialIn takesIn mroIn hasDictIn makesIn typeIn recIn notFirst codeIn clsIn ks_superIn fnX)
def oexB (K : Frag) (C : Addr) : Bool := (match K.lookup C with
  | some ⟨.type "type", _, .cls cd, sl⟩ => (match cd.mro, sl.toList with
    | .ref C' :: bm, [_, _, _, _, some (.builtin n), _] => decide (C' = C) && decide (n = "ValueError.__new__") && !cd.hasDel && cd.hasDict && PySem.HandSPX.refsVE bm
    | _, _ => false)
  | _ => false) && decide (findIn K (.ref C) "__setattr__" = some (some (.builtin "object.__setattr__"))) && decide (subIn K (.ref C) (.type "BaseException") = some true) && decide (typeIn K (.ref C) = some (.type "type")) && keepIn K (.ref C)
theorem oexB_ok {K : Frag} {C : Addr} (h : oexB K C = true) : OexC K C := by
  unfold oexB at h
  simp only [Bool.and_eq_true, decide_eq_true_eq] at h
  obtain ⟨⟨⟨⟨h1, h2⟩, h3⟩, h4⟩, h5⟩ := h
  refine ⟨?_, h2, h3, h4, h5⟩
  split at h1
  · rename_i dd cd sl ho
    split at h1
    · rename_i C' bm k0 k1 k2 k3 n k5 e1 e2
      simp only [Bool.and_eq_true, decide_eq_true_eq, Bool.not_eq_true'] at h1
      obtain ⟨⟨⟨⟨rfl, rfl⟩, h8⟩, h9⟩, h10⟩ := h1
      obtain ⟨nm, bs, mro, ns, qn, hd, sn, sb, ab, col, del⟩ := cd
      simp only at e1 h8 h9
      subst e1 h8 h9
      have : sl = #[k0, k1, k2, k3, some (.builtin "ValueError.__new__"), k5] := by
        rw [← e2]
      subst this
      exact ⟨nm, qn, ns, bs, bm, sn, sb, ab, col, dd, k0, k1, k2, k3, k5, ho, h10⟩
    · cases h1
  · cases h1
/-- an exception's class with its own __init__ -/
structure XD where
  C : Str
  qual : Str
  params : Arguments
  body : List Stmt
  scope : Scope
  N : List Str
  ps : List Str
  efs : List Str
  l : List (Str × Nat)
abbrev XV : Type := Option (Str × Str × Arguments × FuncBody × Scope × Addr × Addr × Value)
def XD.adr (K : Frag) (x : XD) : Addr := He.ma K (He.ga K x.C) "__init__"
def xAt (K : Frag) (a : Addr) : XV := match K.lookup a with
  | some ⟨_, _, .func fd, _⟩ => some (fd.name, fd.qualname, fd.params, fd.body, fd.scope, fd.globals, fd.builtins, fd.defaults)
  | _ => none
def XD.val (x : XD) : XV := some (("__init__" : Str), x.qual, x.params, .stmts x.body, x.scope, mainGlobals, builtinsNs, .none)
def XD.ok (prog : Program) (K : Frag) (x : XD) : Bool := (match K.lookup (x.adr K) with
    | some ⟨_, _, .func fd, _⟩ => (match fd.closure with
      | [(y, cc)] => decide (y = ("__class__" : Str)) && (match K.lookup cc with
        | some ⟨_, _, .cell (some (.ref D)), _⟩ => decide (D = He.ga K x.C)
        | _ => false)
      | _ => false) && (match fd.code with
      | .ref c => codeIn K (.ref c) x.qual && (match K.lookup c with
        | some ⟨_, _, .fields vs, _⟩ => (match (vs[2]? : Option Value) with
          | some (Value.str file _) => ((prog.main.file : Str) == file)
          | _ => false)
        | _ => false)
      | _ => false)
    | _ => false) && oexB K (He.ga K x.C) && decide (findIn K (.ref (He.ga K x.C)) "__init__" = some (some (.ref (x.adr K)))) && decide (typeIn K (.ref (x.adr K)) = some (.type "function")) &&
  decide (ks_superIn K (He.ga K x.C) (He.ga K x.C) "__init__" = some (some (.builtin "ValueError.__init__"))) && decide (mroIn K (He.ga K x.C) (.ref (He.ga K x.C)) = some true) && decide (subIn K (.ref (He.ga K x.C)) (.type "ValueError") = some true) &&
  x.l.all (fun p => decide (findIn K (.ref (He.ga K x.C)) p.1 = some none))
def XD.nf (x : XD) (cl : List (Str × Addr)) (c : Addr) : NF := ⟨"__init__", x.qual, x.params, x.body, x.scope, cl, c⟩
theorem xd_sup {prog : Program} {K : Frag} {mg : Str → Option Value} {x : XD} (e : xAt K (x.adr K) = x.val) (c : x.ok prog K = true) (opq : nsIn K cStatics "thirdparty.any" = some none) (free : mg "super" = none)
    (top : (prog.main.scope.names.lookup ("super" : Str)).isSome = false) : ∃ cl cd, SupC prog K mg (He.ga K x.C) (x.adr K) (x.nf cl cd) ∧ ∀ p ∈ x.l, findIn K (.ref (He.ga K x.C)) p.1 = some none := by
  unfold XD.ok at c
  simp only [Bool.and_eq_true, decide_eq_true_eq, List.all_eq_true] at c
  obtain ⟨⟨⟨⟨⟨⟨⟨c1, c2⟩, c3⟩, c4⟩, c5⟩, c6⟩, c7⟩, c8⟩ := c
  unfold xAt at e
  cases q : K.lookup (x.adr K) with
  | none => rw [q] at c1; cases c1
  | some o =>
    obtain ⟨oc, od, dt, osl⟩ := o
    rw [q] at c1 e
    cases dt with
    | func fd =>
      obtain ⟨n1, n2, n3, n4, n5, n6, n7, n8, n9, n10, n11, n12, n13, n14, n15⟩ := fd
      have e2 : (some (n1, n2, n3, n4, n5, n6, n15, n8) : XV) = some (("__init__" : Str), x.qual, x.params, .stmts x.body, x.scope, mainGlobals, builtinsNs, .none) := e
      simp only [Option.some.injEq, Prod.mk.injEq] at e2
      obtain ⟨h1, h2, h3, h4, h5, h6, h7, h8⟩ := e2
      simp only [Bool.and_eq_true] at c1
      obtain ⟨d1, d2⟩ := c1
      split at d1
      · rename_i y cc
        simp only [Bool.and_eq_true, decide_eq_true_eq] at d1
        obtain ⟨rfl, d1⟩ := d1
        split at d1
        · rename_i c1' cd1 D sl1 hcell
          have hD : D = He.ga K x.C := of_decide_eq_true d1
          split at d2
          · rename_i cda
            simp only [Bool.and_eq_true] at d2
            obtain ⟨d3, d4⟩ := d2
            split at d4
            · rename_i ccl cdd vs ccs hcode
              split at d4
              · rename_i file tf hvs
                subst h1 h2 h3 h4 h5 h6 h7 h8
                subst hD
                refine ⟨[(("__class__" : Str), cc)], cda, ⟨oexB_ok c2, c3, c4, ⟨oc, od, _, _, _, _, _, _, q⟩, d3, ⟨ccl, cdd, vs, ccs, file, tf, hcode, hvs, d4⟩, ⟨cc, rfl, _, _, _, hcell⟩, c5, c6, c7, opq, free, top⟩, c8⟩
              · cases d4
            · cases d4
          · cases d2
        · cases d1
      · cases d1
    | _ => cases c1
/-- an exception's class, as the suites ask it -/
def excB (K : Frag) (D : Addr) : Bool := decide (findIn K (.ref D) "__getattribute__" = some (some (.builtin "BaseException.__getattribute__"))) && decide (findIn K (.ref D) "__getattr__" = some none) && decide (subIn K (.ref D) (.type "BaseException") = some true) && hasDictIn K D &&
  decide (findIn K (.ref D) "__class__" = some (some (.builtin "object.__class__"))) && decide (specialIn K (.builtin "object.__class__") "__get__" = some (some (.builtin "getset_descriptor.__get__"))) && decide (takesIn K (.builtin "object.__class__") = some true) && decide (mroIn K D (.type "object") = some true)
theorem excB_ok {K : Frag} {D : Addr} (h : excB K D = true) : ExcC K D ∧ XfC K D := by
  unfold excB at h
  simp only [Bool.and_eq_true, decide_eq_true_eq] at h
  obtain ⟨⟨⟨⟨⟨⟨⟨h1, h2⟩, h3⟩, h4⟩, h5⟩, h6⟩, h7⟩, h8⟩ := h
  exact ⟨⟨h1, h2, h3, h4, h5, h6, h7, h8⟩, ⟨h1, h2, h3, h4⟩⟩
end Mini
end
section
set_option maxHeartbeats 1000000
/-! All facts, by levels. -/
namespace Mini
open PySem L2 PySem.Spec PyProof.Rows NdefX
open PySem.W (Frag findIn nsIn kitOne exmOne subIn keepIn isFn specialIn takesIn mroIn hasDictIn makesIn typeIn recIn notFirst codeIn clsIn ks_superIn fnX)
/-- all that is written of a law's program -/
structure LW where
  P : PInfo
  defs : List MD
  xs : List XD
  sub : Str → Str → Bool
  wf : Nat
def LW.find (L : LW) (q : Str) : Option MD := L.defs.find? fun d => d.q == q
def LW.T (L : LW) (q : Str) : Option Ent := match L.find q with
  | some d => some d.ent
  | none => if L.P.clss.contains q then some .mk else none
def LW.xfind (L : LW) (C : Str) : Option XD := L.xs.find? fun x => x.C == C
def LW.efs (L : LW) (C : Str) : List Str := match L.xfind C with
  | some x => x.efs
  | none => []
abbrev LW.G (L : LW) : Sg := GT L.T L.sub L.efs L.wf
def LW.F (L : LW) (K : Frag) (prog : Program) (w : World) : Fx := { K := K, cad := He.ga K, clss := L.P.clss, excs := L.P.excs.map (·.1), prog := prog, w := w }
/-- the tables fit -/
def LW.tabB (L : LW) : Bool :=
  (L.P.funs.all fun p => match L.find p.1 with
    | some d => decide (d.cls = none) && decide (d.m = p.1) && decide (p.2.lvl = d.lvl + 1) && (match p.2.kw, d.kw with | none, none => true | some (k, _), some k' => decide (k = k') && decide (d.ps ≠ []) | _, _ => false)
    | none => false) &&
  (L.P.makes.all fun p => L.P.clss.contains p.1 && (L.find p.1).isNone && match L.find (p.1 ++ ".__init__") with
    | some d => decide (d.cls = some p.1) && decide (d.m = ("__init__" : Str)) && !d.prop && decide (p.2.lvl = d.lvl + 2)
    | none => false) &&
  (L.P.props.all fun p => match L.find p.2.1 with
    | some d => d.prop && decide (d.m = p.1) && (match d.cls with | some C => L.P.clss.contains C | none => false) && decide (d.ps.length = 1) && decide (p.2.2 = d.lvl + 2)
    | none => false) &&
  (L.P.meths.all fun p => L.P.clss.contains p.2.1 && match L.find p.2.2.1 with
    | some d => decide (d.cls = some p.2.1) && decide (d.m = p.1) && !d.prop && decide (p.2.2.2.lvl = d.lvl + 1)
    | none => false) &&
  (L.P.eqs.all fun p => L.P.clss.contains p.1 && match L.find (p.1 ++ ".__eq__") with
    | some d => decide (d.cls = some p.1) && decide (d.m = ("__eq__" : Str)) && !d.prop && decide (p.2 = d.lvl + 2)
    | none => false) &&
  (L.P.excs.all fun p => decide (50 ≤ p.2) || match L.xfind p.1 with
    | some x => decide (x.C = p.1) && decide (x.efs.length = p.2) && decide x.efs.Nodup
    | none => false) &&
  (L.defs.all fun d => d.kw.isNone || d.cls.isNone)
def freeL : List Str := (["len", "list", "tuple", "int", "str", "all", "any", "min", "max", "dict", "sorted", "isinstance", "range", "enumerate", "zip", "bool", "ValueError"] : List Str) ++ [("super" : Str)]
/-- what the top leaves -/
def LW.ckB (L : LW) (prog : Program) (K : Frag) : Bool :=
  (freeL.all fun x => decide (nsIn K mainGlobals x = some none)) && decide (nsIn K cStatics "thirdparty.any" = some none) &&
  (L.P.consts.all fun p => constB K p.1 p.2) &&
  (L.P.excs.all fun p => decide (nsIn K mainGlobals p.1 = some (some (.ref (He.ga K p.1)))) && excB K (He.ga K p.1) && (L.P.xflds.all fun f => decide (findIn K (.ref (He.ga K p.1)) f = some none)) &&
    decide (kitOne K (.ref (He.ga K p.1)) (.type "ValueError") = some true) && L.sub p.1 "ValueError" && keepIn K (.ref (He.ga K p.1)) &&
    (L.P.excs.all fun r => decide (kitOne K (.ref (He.ga K p.1)) (.ref (He.ga K r.1)) = some (L.sub p.1 r.1)) && decide (exmOne K (.ref (He.ga K p.1)) (.ref (He.ga K r.1)) = some (L.sub p.1 r.1)))) &&
  (L.P.clss.all fun C => decide (nsIn K mainGlobals C = some (some (.ref (He.ga K C)))) && (He.Fa.cls C).ok K && decide (findIn K (.ref (He.ga K C)) "__class__" = some (some (.builtin "object.__class__"))) && decide (mroIn K (He.ga K C) (.type "object") = some true) &&
    makesIn K (He.ga K C) && (L.P.flds.all fun f => decide (findIn K (.ref (He.ga K C)) f = some none)) &&
    ((["NoneType", "bool", "int", "str", "tuple", "list", "dict"] : List String).all fun t => decide (kitOne K (.type t) (.ref (He.ga K C)) = some false)) && ((["bool", "int", "str", "tuple", "list"] : List String).all fun t => decide (kitOne K (.ref (He.ga K C)) (.type t) = some false)) &&
    (L.P.clss.all fun D => decide (kitOne K (.ref (He.ga K C)) (.ref (He.ga K D)) = some (L.sub C D)) && notFirst K (He.ga K C) (.ref (He.ga K D)))) &&
  decide (specialIn K (.builtin "object.__class__") "__get__" = some (some (.builtin "getset_descriptor.__get__"))) && decide (takesIn K (.builtin "object.__class__") = some true) &&
  (L.P.makes.all fun p => keepIn K (.ref (He.ga K p.1))) &&
  (L.P.eqs.all fun p => decide (findIn K (.ref (He.ga K p.1)) "__ne__" = some (some (.builtin "object.__ne__")))) &&
  (L.defs.all fun d => d.ok K) && (L.xs.all fun x => x.ok prog K) &&
  (L.P.funs.all fun p => match p.2.kw, L.find p.1 with
    | some (k, v), some d => d.okK K k v
    | some _, none => false
    | none, _ => true)
structure LW.Tx (L : LW) : Prop where
  defs : ∀ d ∈ L.defs, d.Tx L.P
  xs : ∀ x ∈ L.xs, ∀ cl c, InitTx (x.nf cl c) x.N x.ps x.efs x.l
  tab : L.tabB = true
theorem find_ok {L : LW} {q : Str} {d : MD} (h : L.find q = some d) : d ∈ L.defs ∧ d.q = q := by
  refine ⟨List.mem_of_find?_eq_some h, ?_⟩
  have := List.find?_some h
  simpa using this
theorem look_all {α : Type} {l : List (Str × α)} {f : Str × α → Bool} (h : l.all f = true) {x : Str} {y : α} (e : l.lookup x = some y) : f (x, y) = true := List.all_eq_true.mp h _ (PySem.mem_of_lookup e)
end Mini
end
section
set_option maxHeartbeats 1000000
namespace Mini
open PySem L2 PySem.Spec PyProof.Rows NdefX
open PySem.W (Frag findIn nsIn kitOne exmOne subIn keepIn isFn specialIn takesIn mroIn hasDictIn makesIn typeIn recIn notFirst codeIn clsIn ks_superIn fnX)
section
variable {L : LW} {prog : Program} {w : World} {K : Frag} {h : Heap} {mg : Str → Option Value} {base : Heap}
theorem T_def {q : Str} {d : MD} (h : L.find q = some d) : L.T q = some d.ent := by unfold LW.T; rw [h]
/-- called with other values than those that are bound -/
theorem callable_gen {F : Fx} {mg : Str → Option Value} {base : Heap} {k : Nat} {f : Addr} {fd : FuncData} {ps : List Str} {S : Mini.Spec} (Fn : FnOk F.prog F.w F.K mg base (L2.CX F.prog F.w) k f fd ps (liftSp F ps.length S))
    (pos : List Value → List Value) (kws : List Value → List (Str × Value)) (tot : List Value → List Value) (totV : List V → List V) (totD : List D → List D)
    (hb : ∀ (s : Shared) (us : List Value), F.K.In s.heap → (tot us).length = ps.length → BindsTo s fd ⟨pos us, kws us⟩ (ps.zip (tot us)))
    (hv : ∀ vs us, Vals vs us → Vals (totV vs) (tot us)) (hrp : ∀ (pv : List Addr) (A : List Addr) (H : Hp) (ds : List D) (vs : List V), Rps (F.pv pv) A H ds vs → Rps (F.pv pv) A H (totD ds) (totV vs))
    (hS : ∀ ds st Q X, S ds st Q X → ds.length = ps.length) : Callable F mg base k (fun us => call (.ref f) (pos us) (kws us)) (fun ds => S (totD ds)) := by
  intro X W A0 h1 h2 h3 h4 h5 hr hfr tk pv pins s σ H A ds st us vs Q I r rv ru hw
  have hl : (totD ds).length = ps.length := by
    obtain ⟨_, _, h, _⟩ := hw
    exact hS _ _ _ _ h
  have rv' := hrp pv A H ds vs rv
  have ru' := hv vs us ru
  have Fn' : FnOk X.prog X.w X.K X.mg X.base (L2.CX X.prog X.w) k f fd ps (liftSp F ps.length S) := by rw [h1, h2, h3, h4, h5]; exact Fn
  have hw' : Clo S (totD ds) st (QLink (F.pv pv) A H Q) (XLink (F.pv pv) W σ A H) := hw
  have hsp : liftSp F ps.length S (totV vs) H Q (WE W σ) := ⟨by rw [← rv'.length]; exact hl, pv, A, totD ds, st, r, rv', hw'⟩
  have hlu : (tot us).length = ps.length := by rw [← ru'.length]; exact hsp.1
  have b := hb s us (by rw [← h3]; exact I.kIn) hlu
  have e0 : Env0 X.prog X.w X.K X.mg X.base A0 X.stack s H := by
    have e := I.env0
    exact ⟨by rw [hfr]; exact e.frames, e.mod, e.bs, e.bsz, e.funs, e.frf, e.hok, e.bare⟩
  refine wpAny_call (codeAny_mono (Fn'.run A0 X.stack s H ⟨pos us, kws us⟩ (tot us) (totV vs) Q (WE W σ) hr e0 b ru' hsp) fun r s' hq => ?_)
  cases r with
  | error e => exact passAt tk σ pins H s e s' I hq
  | ok fl =>
    cases fl with
    | ret u => exact I.after hq
    | next => exact False.elim hq
    | brk => exact False.elim hq
    | cont => exact False.elim hq
theorem fn_at (tx : L.Tx) (ob : ∀ d ∈ L.defs, fnAt K (d.adr K) = d.val) (ok : ∀ d ∈ L.defs, d.ok K = true) {q : Str} {d : MD} (hf : L.find q = some d) (fac : Facts L.P (L.F K prog w) L.G mg base d.lvl) (hkw : d.kw = none) :
    ∃ fd, FnOk prog w K mg base (L2.CX prog w) (d.lvl + 1) (d.adr K) fd d.ps (liftSp (L.F K prog w) d.ps.length (L.G.Gm q)) ∧ Binds K fd d.ps [] ∧ ∀ ds st Q X, L.G.Gm q ds st Q X → ds.length = d.ps.length := by
  obtain ⟨hd, _⟩ := find_ok hf
  obtain ⟨oc, od, osl, kV, doc, pm, an, cdv, ct, lk, hcd⟩ := md_fn (ob d hd) (ok d hd)
  have t := tx.defs d hd
  have hS : ∀ ds st Q X, Gm0 L.T L.sub L.efs L.wf q ds st Q X → defW L.G d.ir d.N.length d.ps.length ds st Q X := fun ds st Q X h => GmT_fn (T_def hf) h
  have F0 := def_fn (F := L.F K prog w) (cx := d.cx) lk hcd t.sc t.comp rfl rfl rfl rfl rfl fac hS
  refine ⟨_, fnok_imp F0 fun vs H Q E h => lift_or (fun ds st Q X h => GmT_or h) h, .all (t.bind hkw kV doc pm an cdv ct), fun ds st Q X h => ?_⟩
  rcases GmT_or h with h | ⟨_, h⟩
  · exact (hS ds st Q X h).1
  · exact (hS _ _ _ _ h).1
theorem fn_atK (tx : L.Tx) (ob : ∀ d ∈ L.defs, fnAt K (d.adr K) = d.val) (ok : ∀ d ∈ L.defs, d.ok K = true) {q : Str} {d : MD} (hf : L.find q = some d) (fac : Facts L.P (L.F K prog w) L.G mg base d.lvl) {k : Str} {v : D} (hkw : d.kw = some k) (hok : d.okK K k v = true) :
    ∃ fd u wv, FnOk prog w K mg base (L2.CX prog w) (d.lvl + 1) (d.adr K) fd d.ps (liftSp (L.F K prog w) d.ps.length (L.G.Gm q)) ∧ leafV v = some wv ∧ RelV wv u ∧
      (∀ (s : Shared) (us : List Value), K.In s.heap → us.length = d.ps.length → BindsTo s fd ⟨us.dropLast, [(k, us.getLastD .none)]⟩ (d.ps.zip us)) ∧
      (∀ (s : Shared) (us : List Value), K.In s.heap → (us ++ [u]).length = d.ps.length → BindsTo s fd ⟨us, []⟩ (d.ps.zip (us ++ [u]))) ∧ ∀ ds st Q X, L.G.Gm q ds st Q X → ds.length = d.ps.length := by
  obtain ⟨hd, _⟩ := find_ok hf
  obtain ⟨oc, od, osl, E, doc, pm, an, cdv, ct, u, wv, lk, hcd, hns, hlv, hrel⟩ := md_fnK (ob d hd) (ok d hd) hok
  have t := tx.defs d hd
  have hS : ∀ ds st Q X, Gm0 L.T L.sub L.efs L.wf q ds st Q X → defW L.G d.ir d.N.length d.ps.length ds st Q X := fun ds st Q X h => GmT_fn (T_def hf) h
  have F0 := def_fn (F := L.F K prog w) (cx := d.cx) lk hcd t.sc t.comp rfl rfl rfl rfl rfl fac hS
  obtain ⟨b1, b2⟩ := t.bindk k hkw
  refine ⟨_, u, wv, fnok_imp F0 fun vs H Q E h => lift_or (fun ds st Q X h => GmT_or h) h, hlv, hrel, fun s us _ hl => .of_eq (b1 (.ref E) doc pm an cdv ct us hl), fun s us KI hl => ?_, fun ds st Q X h => ?_⟩
  · refine BindsTo.of_looks fun M => KwChain.looks KI (fun q hq => ?_) (b2 E doc pm an cdv ct us u (by rw [← hl]; simp))
    rw [List.mem_singleton.mp hq]; exact hns
  · rcases GmT_or h with h | ⟨_, h⟩
    · exact (hS ds st Q X h).1
    · exact (hS _ _ _ _ h).1
theorem facts_all (tx : L.Tx) (X : K.In h) (Gm : h.Ns mainGlobals mg) (ck : L.ckB prog K = true) (ob : ∀ d ∈ L.defs, fnAt K (d.adr K) = d.val) (ox : ∀ x ∈ L.xs, xAt K (x.adr K) = x.val)
    (top : (prog.main.scope.names.lookup ("super" : Str)).isSome = false) : ∀ n, Facts L.P (L.F K prog w) L.G mg base n := by
  unfold LW.ckB at ck
  simp only [Bool.and_eq_true] at ck
  obtain ⟨⟨⟨⟨⟨⟨⟨⟨⟨⟨⟨c1, c2⟩, c3⟩, c4⟩, c5⟩, c6⟩, c7⟩, c8⟩, c9⟩, c10⟩, c11⟩, c12⟩ := ck
  have tab := tx.tab
  unfold LW.tabB at tab
  simp only [Bool.and_eq_true] at tab
  obtain ⟨⟨⟨⟨⟨⟨t1, t2⟩, t3⟩, t4⟩, t5⟩, t6⟩, t7⟩ := tab
  have hkwn : ∀ d ∈ L.defs, d.cls ≠ none → d.kw = none := fun d hd hc => by
    have z := List.all_eq_true.mp t7 d hd
    simp only [Bool.or_eq_true, Option.isNone_iff_eq_none] at z
    exact z.resolve_right hc
  have okd : ∀ d ∈ L.defs, d.ok K = true := fun d hd => List.all_eq_true.mp c10 d hd
  have free : ∀ x, x ∈ freeL → mg x = none := fun x hx => PySem.W.mg_none_of X Gm (of_decide_eq_true (List.all_eq_true.mp c1 x hx))
  have excsA : ∀ C, C ∈ L.P.excs.map (·.1) → ∃ k, (C, k) ∈ L.P.excs := fun C hC => by
    obtain ⟨p, hp, rfl⟩ := List.mem_map.mp hC
    exact ⟨p.2, hp⟩
  have ex4 := fun C k (hm : (C, k) ∈ L.P.excs) => by
    have z := List.all_eq_true.mp c4 (C, k) hm
    simp only [Bool.and_eq_true, decide_eq_true_eq, List.all_eq_true] at z
    exact z
  have cl5 := fun C (hm : C ∈ L.P.clss) => by
    have z := List.all_eq_true.mp c5 C hm
    simp only [Bool.and_eq_true, decide_eq_true_eq, List.all_eq_true] at z
    exact z
  have hcls : ∀ C, C ∈ L.P.clss → Cls K (He.ga K C) := fun C hC => He.cls_ok (cl5 C hC).1.1.1.1.1.1.1.2
  intro n
  induction n using Nat.strongRecOn with
  | _ n ih =>
  refine ⟨fun x hx => free x ?_, fun x d e => ?_, rfl, rfl, fun C hC => ?_, fun C D hC hD => ?_, fun C D hC hD => ?_, fun C k e h50 _ => ?_, fun C hC => ?_, fun C hC => ?_, ⟨of_decide_eq_true c6, of_decide_eq_true c7⟩,
    fun C D hC hD => ?_, fun D t hD ht => ?_, fun C t hC ht => ?_, fun C f hC hf => ?_, fun f fi e hl => ?_, fun C fi e hl => ?_, fun f q l e hl => ?_, fun m C q fi e hl => ?_, fun C l e hl => ?_, fun C D hC hD => ?_⟩
  · exact List.mem_append_left _ hx
  · have z := look_all c3 e
    exact constB_ok X Gm rfl z
  · obtain ⟨k, hk⟩ := excsA C hC
    have z := ex4 C k hk
    obtain ⟨e1, e2⟩ := excB_ok z.1.1.1.1.1.2
    exact ⟨PySem.W.mg_of X Gm z.1.1.1.1.1.1, e1, e2, fun f hf => z.1.1.1.1.2 f hf⟩
  · obtain ⟨k, hk⟩ := excsA C hC
    obtain ⟨k', hk'⟩ := excsA D hD
    exact ((ex4 C k hk).2 (D, k') hk').1
  · obtain ⟨k, hk⟩ := excsA C hC
    obtain ⟨k', hk'⟩ := excsA D hD
    exact ((ex4 C k hk).2 (D, k') hk').2
  · have hm := PySem.mem_of_lookup e
    have z := List.all_eq_true.mp t6 (C, k) hm
    simp only [Bool.or_eq_true, decide_eq_true_eq] at z
    rcases z with z | z
    · omega
    · cases hx : L.xfind C with
      | none => rw [hx] at z; cases z
      | some x =>
        rw [hx] at z
        simp only [Bool.and_eq_true, decide_eq_true_eq] at z
        obtain ⟨⟨z1, z2⟩, z3⟩ := z
        have hxm : x ∈ L.xs := List.mem_of_find?_eq_some hx
        have he : L.G.efs C = x.efs := by show L.efs C = _; unfold LW.efs; rw [hx]
        obtain ⟨cl, cd, SC, hno⟩ := xd_sup (mg := mg) (ox x hxm) (List.all_eq_true.mp c11 x hxm) (of_decide_eq_true c2) (free _ (by simp [freeL])) top
        subst z1
        refine ⟨(ex4 x.C k hm).1.2, by rw [he]; exact z2, by rw [he]; exact z3, ?_⟩
        rw [he]
        exact mk_ok (F := L.F K prog w) SC (tx.xs x hxm cl cd) hno
  · obtain ⟨k, hk⟩ := excsA C hC
    have z := ex4 C k hk
    exact ⟨z.1.1.1.2, z.1.1.2⟩
  · have z := cl5 C hC
    exact ⟨PySem.W.mg_of X Gm z.1.1.1.1.1.1.1.1, hcls C hC, ⟨z.1.1.1.1.1.1.2, z.1.1.1.1.1.2⟩, z.1.1.1.1.2⟩
  · exact ((cl5 C hC).2 D hD).1
  · exact (cl5 D hD).1.1.2 t ht
  · exact (cl5 C hC).1.2 t ht
  · exact (cl5 C hC).1.1.1.2 f hf
  · -- defs
    have z := look_all t1 e
    simp only at z
    cases hf : L.find f with
    | none => rw [hf] at z; cases z
    | some d =>
      rw [hf] at z
      simp only [Bool.and_eq_true, decide_eq_true_eq, Option.isNone_iff_eq_none] at z
      obtain ⟨⟨⟨z1, z2⟩, z3⟩, z4⟩ := z
      obtain ⟨hd, _⟩ := find_ok hf
      have o := okd d hd
      unfold MD.ok at o
      rw [z1] at o
      simp only [Bool.and_eq_true, decide_eq_true_eq] at o
      have ea : d.adr K = He.ga K f := by unfold MD.adr; rw [z1, z2]
      rw [z2] at o
      refine ⟨He.ga K f, PySem.W.mg_of X Gm o.2.1, o.2.2, ?_⟩
      have z12 := look_all c12 e
      simp only at z12
      cases hfk : fi.kw with
      | none =>
        rw [hfk] at z4
        have hk : d.kw = none := by
          cases hdk : d.kw with
          | none => rfl
          | some k => rw [hdk] at z4; cases z4
        obtain ⟨fd, F1, hb, hlen⟩ := fn_at (mg := mg) (base := base) (w := w) tx ob okd hf (ih d.lvl (by omega)) hk
        rw [ea] at F1
        rw [z3]
        exact callable_of (F := L.F K prog w) F1 hb hlen
      | some kv =>
        obtain ⟨k, v⟩ := kv
        rw [hfk] at z4
        rw [hfk, hf] at z12
        obtain ⟨hk, hne⟩ : d.kw = some k ∧ d.ps ≠ [] := by
          cases hdk : d.kw with
          | none => rw [hdk] at z4; cases z4
          | some k' =>
            rw [hdk] at z4
            simp only [Bool.and_eq_true, decide_eq_true_eq] at z4
            rw [z4.1]; exact ⟨rfl, z4.2⟩
        obtain ⟨fd, u, wv, F1, hlv, hrel, b1, b2, hlen⟩ := fn_atK (mg := mg) (base := base) (w := w) tx ob okd hf (ih d.lvl (by omega)) hk z12
        rw [ea] at F1
        rw [z3]
        refine ⟨callable_gen (F := L.F K prog w) F1 (fun us => us.dropLast) (fun us => [(k, us.getLastD .none)]) (fun us => us) (fun vs => vs) (fun ds => ds) (fun s us KI hl => b1 s us KI hl) (fun _ _ h => h) (fun _ _ _ _ _ h => h) hlen,
          callable_gen (F := L.F K prog w) F1 (fun us => us) (fun _ => []) (fun us => us ++ [u]) (fun vs => vs ++ [wv]) (fun ds => ds ++ [v]) (fun s us KI hl => b2 s us KI hl) (fun _ _ h => h.append (.cons hrel .nil)) (fun _ _ _ _ _ h => h.append (.cons (leafV_rp hlv) .nil)) hlen⟩
  · have z := look_all t2 e
    simp only [Bool.and_eq_true] at z
    obtain ⟨⟨z0, z1⟩, z⟩ := z
    have hC : C ∈ L.P.clss := by simpa using z0
    cases hf : L.find (C ++ ".__init__") with
    | none => rw [hf] at z; cases z
    | some d =>
      rw [hf] at z
      simp only [Bool.and_eq_true, decide_eq_true_eq, Bool.not_eq_true'] at z
      obtain ⟨⟨⟨y1, y2⟩, y3⟩, y4⟩ := z
      obtain ⟨hd, _⟩ := find_ok hf
      obtain ⟨fd, F1, hb, hlen⟩ := fn_at (mg := mg) (base := base) (w := w) tx ob okd hf (ih d.lvl (by have : fi.lvl = d.lvl + 2 := y4; omega)) (hkwn d hd (by rw [y1]; simp))
      have o := okd d hd
      unfold MD.ok at o
      rw [y1, y3, y2] at o
      simp only [Bool.and_eq_true, decide_eq_true_eq] at o
      have ea : d.adr K = He.ma K (He.ga K C) "__init__" := by unfold MD.adr; rw [y1, y3, y2]
      rw [ea] at F1
      have kp : keepIn K (.ref (He.ga K C)) = true := look_all c8 e
      have mk : Mk K (He.ga K C) (He.ma K (He.ga K C) "__init__") := ⟨(cl5 C hC).1.1.1.1.2, o.2.1.1, o.2.1.2, kp⟩
      have T0 : L.T C = some .mk := by unfold LW.T; rw [Option.isNone_iff_eq_none.mp z1]; simp [hC]
      refine ⟨PySem.W.mg_of X Gm (cl5 C hC).1.1.1.1.1.1.1.1, kp, ?_⟩
      have y4' : fi.lvl = d.lvl + 2 := y4
      rw [y4']
      have Cl := make_ok (F := L.F K prog w) (G := L.G) (C := C) hC mk F1 hb hlen
      refine callable_or (S := Gm0 L.T L.sub L.efs L.wf C) (fun ds st Q X h => GmT_or h) ?_
      intro X' W A0 q1 q2 q3 q4 q5 q6 q7 q8 ps pins s σ H A ds st us vs Q I r rv ru hw
      refine Cl X' W A0 q1 q2 q3 q4 q5 q6 q7 q8 ps pins s σ H A ds st us vs Q I r rv ru ?_
      obtain ⟨Q0, X0, hw, a, b⟩ := hw
      exact ⟨Q0, X0, GmT_mk T0 hw, a, b⟩
  · have z := look_all t3 e
    simp only at z
    cases hf : L.find q with
    | none => rw [hf] at z; cases z
    | some d =>
      rw [hf] at z
      simp only [Bool.and_eq_true, decide_eq_true_eq] at z
      obtain ⟨⟨⟨⟨y1, y2⟩, y3⟩, y4⟩, y5⟩ := z
      obtain ⟨hd, _⟩ := find_ok hf
      cases hc : d.cls with
      | none => rw [hc] at y3; cases y3
      | some C =>
        rw [hc] at y3
        have hC : C ∈ L.P.clss := by simpa using y3
        obtain ⟨fd, F1, hb, hlen⟩ := fn_at (mg := mg) (base := base) (w := w) tx ob okd hf (ih d.lvl (by omega)) (hkwn d hd (by rw [hc]; simp))
        have o := okd d hd
        unfold MD.ok at o
        rw [hc, y1, y2] at o
        simp only [Bool.and_eq_true, decide_eq_true_eq] at o
        refine ⟨C, hC, fun ds st Q X' hh => GmT_own (C := C) (by rw [T_def hf]; unfold MD.ent; rw [y1, hc]; rfl) hh, He.ma K (He.ga K C) f, d.adr K, ?_, fd, d.ps, hb, ?_, y4, by omega⟩
        · refine ⟨o.2.1.1.1, o.2.1.1.2, o.2.1.2, ?_⟩
          have o4 := o.2.2
          have ea : d.adr K = match recIn K (He.ma K (He.ga K C) f) "property" with
            | some (.ref g :: _) => g
            | _ => 0 := by
            unfold MD.adr
            rw [hc]
            simp only [y1, y2]
            all_goals rfl
          rw [ea]
          show ∃ rest, recIn K (He.ma K (He.ga K C) f) "property" = _
          revert o4
          cases recIn K (He.ma K (He.ga K C) f) "property" with
          | none => intro o4; cases o4
          | some l2 =>
            cases l2 with
            | nil => intro o4; cases o4
            | cons v r => cases v <;> first | exact fun _ => ⟨r, rfl⟩ | (intro o4; cases o4)
        · have e1 : l - 1 = d.lvl + 1 := by omega
          rw [e1]
          have := F1
          rw [y4] at this
          exact this
  · have z := look_all t4 e
    simp only [Bool.and_eq_true] at z
    obtain ⟨z0, z⟩ := z
    have hC : C ∈ L.P.clss := by simpa using z0
    cases hf : L.find q with
    | none => rw [hf] at z; cases z
    | some d =>
      rw [hf] at z
      simp only [Bool.and_eq_true, decide_eq_true_eq, Bool.not_eq_true'] at z
      obtain ⟨⟨⟨y1, y2⟩, y3⟩, y4⟩ := z
      obtain ⟨hd, _⟩ := find_ok hf
      obtain ⟨fd, F1, hb, hlen⟩ := fn_at (mg := mg) (base := base) (w := w) tx ob okd hf (ih d.lvl (by omega)) (hkwn d hd (by rw [y1]; simp))
      have o := okd d hd
      unfold MD.ok at o
      rw [y1, y3, y2] at o
      simp only [Bool.and_eq_true, decide_eq_true_eq] at o
      have ea : d.adr K = He.ma K (He.ga K C) m := by unfold MD.adr; rw [y1, y3, y2]
      rw [ea] at F1
      refine ⟨hC, He.ma K (He.ga K C) m, ⟨o.2.1.1, o.2.1.2, o.2.2⟩, ?_⟩
      rw [y4]
      exact callable_of (F := L.F K prog w) F1 hb hlen
  · have z := List.all_eq_true.mp t5 (C, l) e
    simp only [Bool.and_eq_true] at z
    obtain ⟨z0, z⟩ := z
    have hC : C ∈ L.P.clss := by simpa using z0
    cases hf : L.find (C ++ ".__eq__") with
    | none => rw [hf] at z; cases z
    | some d =>
      rw [hf] at z
      simp only [Bool.and_eq_true, decide_eq_true_eq, Bool.not_eq_true'] at z
      obtain ⟨⟨⟨y1, y2⟩, y3⟩, y4⟩ := z
      obtain ⟨hd, _⟩ := find_ok hf
      obtain ⟨fd, F1, hb, hlen⟩ := fn_at (mg := mg) (base := base) (w := w) tx ob okd hf (ih d.lvl (by omega)) (hkwn d hd (by rw [y1]; simp))
      have o := okd d hd
      unfold MD.ok at o
      rw [y1, y3, y2] at o
      simp only [Bool.and_eq_true, decide_eq_true_eq] at o
      have ea : d.adr K = He.ma K (He.ga K C) "__eq__" := by unfold MD.adr; rw [y1, y3, y2]
      rw [ea] at F1
      refine ⟨hC, by omega, He.ma K (He.ga K C) "__eq__", o.2.1.1, o.2.1.2, of_decide_eq_true (List.all_eq_true.mp c9 (C, l) e), ?_⟩
      have e1 : l - 1 = d.lvl + 1 := by omega
      rw [e1]
      exact callable_of (F := L.F K prog w) F1 hb hlen
  · exact ((cl5 C hC).2 D hD).2
end
end Mini
end
section
set_option maxHeartbeats 1000000
/-! The Hook; a law's end. -/
namespace Mini
open PySem L2 PySem.Spec PyProof.Rows NdefX
open PySem.W (Frag)
def asM (g : Addr → Option Obj) : Nat → List Addr
  | 0 => [mainGlobals, cStatics]
  | n + 1 => He.growD g (asM g n)
abbrev AlM : Type := Bool × List He.FnV × List XV
def LW.obsK (L : LW) (prog : Program) (K : Frag) : AlM := (L.ckB prog K, L.defs.map (fun d => fnAt K (d.adr K)), L.xs.map fun x => xAt K (x.adr K))
def LW.val (L : LW) : AlM := (true, L.defs.map MD.val, L.xs.map XD.val)
def LW.obsG (L : LW) (prog : Program) (n : Nat) (g : Addr → Option Obj) : AlM := L.obsK prog (He.frG g (asM g n))
def LW.hook (L : LW) (prog : Program) (n : Nat) : PySem.W.Hook where
  α := AlM
  obs := fun s => L.obsG prog n s.heap.get?
  val := fun _ => L.val
  says := fun _ h => ∃ K : Frag, K.In h ∧ L.obsK prog K = L.val
  of := fun _ _ e => ⟨_, He.frG_in, e⟩
  keeps := fun _ _ _ ⟨K, hK, c⟩ k => ⟨K, PySem.W.Frag.In.keeps hK k, c⟩
/-- the same, at given addresses -/
def LW.obsA (L : LW) (prog : Program) (as : List Addr) (g : Addr → Option Obj) : AlM := L.obsK prog (He.frG g as)
def LW.hookA (L : LW) (prog : Program) (as : List Addr) : PySem.W.Hook where
  α := AlM
  obs := fun s => L.obsA prog as s.heap.get?
  val := fun _ => L.val
  says := fun _ h => ∃ K : Frag, K.In h ∧ L.obsK prog K = L.val
  of := fun _ _ e => ⟨_, He.frG_in, e⟩
  keeps := fun _ _ _ ⟨K, hK, c⟩ k => ⟨K, PySem.W.Frag.In.keeps hK k, c⟩
theorem LW.obs_eqA (L : LW) (prog : Program) (as : List Addr) (s : PySem.W.SharedT) : L.obsA prog as (HandSHeadRun.getT s) = (L.hookA prog as).obs s.abs := by
  have e : HandSHeadRun.getT s = s.abs.heap.get? := funext (HandSHeadRun.getT_eq s)
  rw [e]; rfl
theorem LW.obs_eq (L : LW) (prog : Program) (n : Nat) (s : PySem.W.SharedT) : L.obsG prog n (HandSHeadRun.getT s) = (L.hook prog n).obs s.abs := by
  have e : HandSHeadRun.getT s = s.abs.heap.get? := funext (HandSHeadRun.getT_eq s)
  rw [e] <;> rfl
theorem run_both {α β γ δ : Type} {o : Option α} {f : α → β} {g : α → γ} {h : α → δ} {x : β} {y : γ} {z : δ} (h1 : o.map (fun s => (f s, g s)) = some (x, y)) (h2 : o.map h = some z) : o.map (fun s => (f s, g s, h s)) = some (x, y, z) := by
  cases o with
  | none => cases h1
  | some s =>
    simp only [Option.map_some, Option.some.injEq, Prod.mk.injEq] at h1 h2 ⊢
    exact ⟨h1.1, h1.2, h2⟩
theorem map_eq {α β : Type} {l : List α} {f g : α → β} (h : l.map f = l.map g) : ∀ a ∈ l, f a = g a := by
  induction l with
  | nil => intro a ha; simp at ha
  | cons x l ih =>
    simp only [List.map_cons, List.cons.injEq] at h
    intro a ha
    rcases List.mem_cons.mp ha with e | ha
    · rw [e]; exact h.1
    · exact ih h.2 a ha
theorem all_cons {α : Type} {P : α → Prop} {a : α} {l : List α} (h : P a) (t : ∀ b ∈ l, P b) : ∀ b ∈ a :: l, P b := fun b hb => by
  rcases List.mem_cons.mp hb with e | hb
  · rw [e]; exact h
  · exact t b hb
theorem look2 {a b : Str} {x y : V} (h : a ≠ b) (g : Str) : [(b, y), (a, x)].lookup g = [(a, x), (b, y)].lookup g := by
  by_cases h1 : g = a
  · subst h1
    have : (g == b) = false := by simpa using h
    simp [List.lookup, this]
  · have e1 : (g == a) = false := by simpa using h1
    by_cases h2 : g = b
    · subst h2; simp [List.lookup, e1]
    · have e2 : (g == b) = false := by simpa using h2
      simp [List.lookup, e1, e2]
theorem fnok0 {P : Program} {w : World} {K : Frag} {mg : Str → Option Value} {base : Heap} {k : Nat} {f : Addr} {fd : FuncData} {ps : List Str} {sp : Sp} (F : FnOk P w K mg base (L2.CX P w) k f fd ps sp) :
    FnOk P w K mg base CX0 k f fd ps (fun vs H Q _ => sp vs H Q fun _ _ _ => False) := by
  refine ⟨fun vs H Q E h => F.len vs H Q _ h, fun A outer s H args us vs Q E hr e0 hb r hsp => codeAny_mono (F.run A outer s H args us vs Q _ hr e0 hb r hsp) fun r s' h => ?_⟩
  cases r with
  | error e =>
    obtain ⟨_, _, _, _, _, _, _, _, _, _, _, _, z⟩ := h
    exact z.elim
  | ok fl => cases fl <;> exact h
theorem walk_law {l : PySem.W.OpenLaw} {q : Program} {loose : List Str} {XP : (Str → Option Value) → Heap → Prop} {d : DefRec} {x : Str} (L : LW) (n : Nat) (tx : L.Tx) (h63 : l.most = some 63) (hnm : d.name = ("law" : Str)) (hdf : d.params.defaults = []) {dl : MD} (hf : L.find ("law" : Str) = some dl)
    (hcls : dl.cls = none) (hm : dl.m = ("law" : Str)) (hps : dl.ps = [x]) (hkw : dl.kw = none) (hr : Room (dl.lvl + 1) callerA) (top : (l.prog.main.scope.names.lookup ("super" : Str)).isSome = false)
    (main : ∀ ns : List Int, ns.length ≤ 63 → ∃ n s, evF L.T L.sub L.efs L.wf n ("law" : Str) [.scr ns] [] = .ok (.bl true) s) :
    PySem.W.WalkO q loose XP (L.hook l.prog n).says l.row.toRowW d [] (fun f vs => PySem.call f vs) := by
  refine L2.walk_ofE (l := l) (n := 63) (k := dl.lvl + 1) (x := x) (CX := CX0) h63 (by decide) hdf hr ?_ (fun _ _ _ _ z => z)
  intro w mg fa h Y G hmg0
  obtain ⟨K, KX, c⟩ := Y
  have c1 : L.ckB l.prog K = true := congrArg (fun z : AlM => z.1) c
  have c2 : ∀ d ∈ L.defs, fnAt K (d.adr K) = d.val := map_eq (congrArg (fun z : AlM => z.2.1) c)
  have c3 : ∀ x ∈ L.xs, xAt K (x.adr K) = x.val := map_eq (congrArg (fun z : AlM => z.2.2) c)
  have ck := c1
  unfold LW.ckB at ck
  simp only [Bool.and_eq_true] at ck
  have okd : ∀ d ∈ L.defs, d.ok K = true := fun d hd => List.all_eq_true.mp ck.1.1.2 d hd
  obtain ⟨hdl, _⟩ := find_ok hf
  have o := okd dl hdl
  unfold MD.ok at o
  rw [hcls] at o
  simp only [Bool.and_eq_true, decide_eq_true_eq] at o
  have ea : dl.adr K = He.ga K ("law" : Str) := by unfold MD.adr; rw [hcls, hm]
  have hfa : mg ("law" : Str) = some (.ref (He.ga K ("law" : Str))) := by
    have := PySem.W.mg_of KX G o.2.1
    rw [hm] at this
    exact this
  have e : fa = He.ga K ("law" : Str) := by
    rw [hnm, hfa] at hmg0
    cases hmg0
    rfl
  subst e
  obtain ⟨fd, F0, hb0, _⟩ := fn_at (mg := mg) (base := h) (w := w) tx c2 okd hf (facts_all tx KX G c1 c2 c3 top dl.lvl) hkw
  -- the function object is the same over every base
  obtain ⟨oc, od, osl, kV, doc, pm, an, cdv, ct, lk, hcd⟩ := md_fn (c2 dl hdl) (okd dl hdl)
  have t := tx.defs dl hdl
  refine ⟨K, PySem.W.fnOf dl.m dl.qual dl.params dl.body dl.scope .none kV doc pm an cdv ct, fun vs H Q _ => liftSp (L.F K l.prog w) 1 (L.G.Gm ("law" : Str)) vs H Q fun _ _ _ => False, KX, fun s u => ?_, fun H a ns hl hO hS => ?_, fun base hB hG => ?_⟩
  · have hb : Binds K (PySem.W.fnOf dl.m dl.qual dl.params dl.body dl.scope .none kV doc pm an cdv ct) dl.ps [] := .all (t.bind hkw kV doc pm an cdv ct)
    have b : BindsTo s (PySem.W.fnOf dl.m dl.qual dl.params dl.body dl.scope .none kV doc pm an cdv ct) ⟨[u], []⟩ (dl.ps.zip [u]) := .of_eq (t.bind hkw kV doc pm an cdv ct [u] (by rw [hps]; rfl))
    rw [hps] at b
    exact b
  · obtain ⟨m, s, hm'⟩ := main ns hl
    have sc : ScrAt ((L.F K l.prog w).pv []) [] H a (ns.map V.int) := by
      rcases hS with (z | ⟨ob, z⟩) | z
      · exfalso
        rcases hO a with y | ⟨o, xs, y⟩
        · rw [z] at y; cases y
        · rw [z] at y; cases y
      · exact .frz ob z ⟨by simp, by simp⟩
      · exact .wr fun H' => .inr z
    refine ⟨rfl, [], [], [.scr ns], [], ⟨rfl, ⟨List.nodup_nil, by simp⟩, by simp⟩, .cons (.scr sc) .nil, Clo.mk ⟨m, ?_⟩⟩
    rw [hm']
    intro A' H' v _ _ p
    cases p
    rfl
  · have F1 := def_fn (F := L.F K l.prog w) (G := L.G) (cx := dl.cx) (S := Gm0 L.T L.sub L.efs L.wf ("law" : Str)) (mg := mg) (base := base) lk hcd t.sc t.comp rfl rfl rfl rfl rfl (facts_all tx hB hG c1 c2 c3 top dl.lvl) (fun ds st Q X h => GmT_fn (T_def hf) h)
    rw [ea, hps] at F1
    exact fnok0 (fnok_imp F1 fun vs H Q E h => lift_or (fun ds st Q X h => GmT_or h) h)
end Mini
end
section
/-! Rules to run the interpreter by simp. -/
namespace Mini
open PySem
section
variable {α β : Type} {a : α} {s : Sto} {C : Str} {fs : List Str} {xs : List D} {f : α → Sto → Res β} {g : α → Sto → Fl} {e : Env} {h : Env → Sto → Fl}
theorem bind_ok : (Res.ok a s).bind f = f a s := rfl
theorem bind_exc : (Res.exc C fs xs s : Res α).bind f = .exc C fs xs s := rfl
theorem bind_bad : (Res.bad : Res α).bind f = .bad := rfl
theorem nox_ok : (Res.ok a s).nox = .ok a s := rfl
theorem fl_ok : (Res.ok a s).fl e g = g a s := rfl
theorem fl_exc : (Res.exc C fs xs s : Res α).fl e g = .ex e C fs xs s := rfl
theorem fb_nx : (Fl.nx e s).bind h = h e s := rfl
theorem fb_rt {d : D} : (Fl.rt d s).bind h = .rt d s := rfl
theorem fb_ex : (Fl.ex e C fs xs s).bind h = .ex e C fs xs s := rfl
theorem opt_some : Res.opt (some a) s = .ok a s := rfl
theorem optB_some {b : Bool} {k : Bool → Res α} : optB (some b) k = k b := rfl
theorem blR_bl {b : Bool} {k : Bool → Sto → Res D} : blR (.bl b) s k = k b s := rfl
theorem retR_false {d : D} : retR false d s = .ok d s := by cases d <;> rfl
theorem retR_lst {xs : List D} : retR true (.lst xs) s = .ok (.ref s.length) (s ++ [.lst xs]) := rfl
theorem retR_int {m : Bool} {i : Int} : retR m (.int i) s = .ok (.int i) s := by cases m <;> rfl
end
theorem shal_int (i : Int) : shal (.int i) = true := by unfold shal PyData.depth; decide
theorem shal_bl (i : Bool) : shal (.bool i) = true := by unfold shal PyData.depth; decide
theorem shal_str (i : Str) : shal (.str i) = true := by unfold shal PyData.depth; decide
theorem cmp_eq_int (st : Sto) (a b : Int) : cmpD st .eq (.int a) (.int b) = some (decide (a = b)) := by
  simp only [cmpD, eqD, asC, eqP, drf, toPD, shal_int, Bool.and_self, if_true]
  rfl
theorem cmp_lt_int (st : Sto) (a b : Int) : cmpD st .lt (.int a) (.int b) = some (decide (a < b)) := rfl
theorem cmp_le_int (st : Sto) (a b : Int) : cmpD st .le (.int a) (.int b) = some (decide (a ≤ b)) := rfl
theorem cmp_gt_int (st : Sto) (a b : Int) : cmpD st .gt (.int a) (.int b) = some (decide (b < a)) := rfl
theorem cmp_ge_int (st : Sto) (a b : Int) : cmpD st .ge (.int a) (.int b) = some (decide (b ≤ a)) := rfl
theorem cmp_ne_bl (st : Sto) (a b : Bool) : cmpD st .ne (.bl a) (.bl b) = some (a != b) := by
  simp only [cmpD, eqD, asC, eqP, drf, toPD, shal_bl, Bool.and_self, if_true, Option.map_some]
  cases a <;> cases b <;> rfl
theorem evC_int (call : Str → List D → Sto → Res D) (cls : List Str) (op : COp) (a : Int) (y : D) (st : Sto) : evC call cls op (.int a) y st = optB (cmpD st op (.int a) y) fun b => .ok (.bl b) st := by cases op <;> rfl
theorem evC_bl (call : Str → List D → Sto → Res D) (cls : List Str) (op : COp) (a : Bool) (y : D) (st : Sto) : evC call cls op (.bl a) y st = optB (cmpD st op (.bl a) y) fun b => .ok (.bl b) st := by cases op <;> rfl
theorem evC_str (call : Str → List D → Sto → Res D) (cls : List Str) (op : COp) (a : Str) (y : D) (st : Sto) : evC call cls op (.str a) y st = optB (cmpD st op (.str a) y) fun b => .ok (.bl b) st := by cases op <;> rfl
theorem evC_lst (call : Str → List D → Sto → Res D) (cls : List Str) (op : COp) (a : List D) (y : D) (st : Sto) : evC call cls op (.lst a) y st = optB (cmpD st op (.lst a) y) fun b => .ok (.bl b) st := by cases op <;> rfl
theorem evC_isn (call : Str → List D → Sto → Res D) (cls : List Str) (x y : D) (st : Sto) : evC call cls .isn x y st = optB (cmpD st .isn x y) fun b => .ok (.bl b) st := rfl
theorem evC_is (call : Str → List D → Sto → Res D) (cls : List Str) (x y : D) (st : Sto) : evC call cls .is_ x y st = optB (cmpD st .is_ x y) fun b => .ok (.bl b) st := rfl
theorem idx_ref {st : Sto} {k : Nat} {xs : List D} (h : st[k]? = some (.lst xs)) (i : Int) : idxD st (.ref k) (.int i) = atD xs i := by
  simp only [idxD, asS, asL, h]
theorem idx_lst {st : Sto} {xs : List D} (i : Int) : idxD st (.lst xs) (.int i) = atD xs i := rfl
theorem at_nat {xs : List D} {i : Int} (h0 : 0 ≤ i) (h : i < xs.length) : atD xs i = xs[i.toNat]? := by
  unfold atD plc
  rw [if_pos h0, if_pos h]
theorem set_ref {st : Sto} {k : Nat} {xs : List D} {env : Env} (h : st[k]? = some (.lst xs)) {i : Int} {v : D} (h0 : 0 ≤ i) (hi : i < xs.length) : setIR (.ref k) (.int i) v st env = .ok env (st.set k (.lst (xs.set i.toNat v))) := by
  unfold setIR
  simp only [h]
  unfold plc
  rw [if_pos h0, if_pos hi]
theorem get_set {st : Sto} {k : Nat} {x : SO} (h : k < st.length) : (st.set k x)[k]? = some x := by
  rw [List.getElem?_set_self h]
theorem int_int {st : Sto} {i : Int} : biD st .int [.int i] = some (.int i) := rfl
theorem len_lst {st : Sto} {xs : List D} : biD st .len [.lst xs] = some (.int xs.length) := rfl
theorem bin_add {st : Sto} {a b : Int} : binD st .add (.int a) (.int b) = some (.int (a + b)) := rfl
theorem bin_mod {st : Sto} {a b : Int} (h : 0 < b) : binD st .mod (.int a) (.int b) = some (.int (a % b)) := by
  show (if 0 < b then _ else _) = _
  rw [if_pos h]
theorem bin_fdiv {st : Sto} {a b : Int} (h : 0 < b) (h2 : b < 1073741824) : binD st .fdiv (.int a) (.int b) = some (.int (a / b)) := by
  show (if 0 < b ∧ b < 1073741824 then _ else _) = _
  rw [if_pos ⟨h, h2⟩]
theorem bin_mul {st : Sto} {a b : Int} (h : small b = true) : binD st .mul (.int a) (.int b) = some (.int (a * b)) := by
  show (if small a || small b then _ else _) = _
  rw [if_pos (by simp [h])]
end Mini
end
section
/-! More rules to run the interpreter: values without refs, equality, runs in a store of their own. -/
namespace Mini
open PySem
mutual
theorem sameD_refl : ∀ d : D, sameD d d = true
  | .non => rfl
  | .bl b => by unfold sameD; simp
  | .int b => by unfold sameD; simp
  | .str b => by unfold sameD; simp
  | .tup xs => by unfold sameD; exact sameDs_refl xs
  | .lst xs => by unfold sameD; exact sameDs_refl xs
  | .dct ks xs => by unfold sameD; rw [sameDs_refl ks, sameDs_refl xs]; rfl
  | .ins C fs xs => by unfold sameD; rw [sameDs_refl xs]; simp
  | .exc C fs xs => by unfold sameD; rw [sameDs_refl xs]; simp
  | .ref k => by unfold sameD; simp
  | .scr k => by unfold sameD; simp
theorem sameDs_refl : ∀ d : List D, sameDs d d = true
  | [] => rfl
  | a :: r => by unfold sameDs; rw [sameD_refl a, sameDs_refl r]; rfl
end
theorem dep_ref {k : Nat} {xs : List D} {st : Sto} (h : st[k]? = some (.lst xs)) : depB (.ref k) xs st = true := by
  unfold depB; simp only [h]; exact sameDs_refl xs
theorem dep_val {d : D} {xs : List D} {st : Sto} (h : ∀ k, d ≠ .ref k) : depB d xs st = true := by
  cases d <;> first | rfl | exact absurd rfl (h _)
def memB (d : D) (l : List D) : Bool := l.any fun x => sameD x d
theorem memB_ok {d : D} {l : List D} (h : memB d l = true) : d ∈ l := by
  obtain ⟨x, hx, e⟩ := List.any_eq_true.mp h
  rw [← sameD_eq e]; exact hx
def optD (o : Option D) (d : D) : Bool := match o with
  | some x => sameD x d
  | none => false
theorem optD_ok {o : Option D} {d : D} (h : optD o d = true) : o = some d := by
  unfold optD at h
  split at h
  · rw [sameD_eq h]
  · cases h
def nr : D → Bool
  | .ref _ => false
  | _ => true
theorem asC_nr {d : D} (h : nr d = true) (st : Sto) : asC st d = asC [] d := by cases d <;> first | rfl | cases h
theorem asS_nr {d : D} (h : nr d = true) (st : Sto) : asS st d = asS [] d := by cases d <;> first | rfl | cases h
theorem drf_nr {d : D} (h : nr d = true) (st : Sto) : drf st d = d := by cases d <;> first | rfl | cases h
theorem asI_nr {d : D} (h : nr d = true) (st : Sto) : asI st d = asI [] d := by cases d <;> first | rfl | cases h
theorem kdOf_nr {d : D} (h : nr d = true) (st : Sto) : kdOf st d = kdOf [] d := by cases d <;> first | rfl | cases h
theorem asL_nr {d : D} (h : nr d = true) (st : Sto) : asL st d = asL [] d := by cases d <;> first | rfl | cases h
theorem eqD_nr {x y : D} (hx : nr x = true) (hy : nr y = true) (st : Sto) : eqD st x y = eqD [] x y := by
  unfold eqD eqP
  rw [asC_nr hx st, asC_nr hy st, asL_nr hx st, drf_nr hx st, drf_nr hy st, drf_nr hx [], drf_nr hy []]
theorem cmp_eq_nr {x y : D} (hx : nr x = true) (hy : nr y = true) (st : Sto) : cmpD st .eq x y = cmpD [] .eq x y := eqD_nr hx hy st
theorem cmp_ne_nr {x y : D} (hx : nr x = true) (hy : nr y = true) (st : Sto) : cmpD st .ne x y = cmpD [] .ne x y := by
  show (eqD st x y).map _ = (eqD [] x y).map _
  rw [eqD_nr hx hy]
theorem is_non (st : Sto) : cmpD st .is_ .non .non = some true := rfl
theorem isn_non (st : Sto) : cmpD st .isn .non .non = some false := rfl
theorem is_tup (st : Sto) (xs : List D) : cmpD st .is_ (.tup xs) .non = some false := rfl
theorem isn_tup (st : Sto) (xs : List D) : cmpD st .isn (.tup xs) .non = some true := rfl
theorem is_lst (st : Sto) (xs : List D) : cmpD st .is_ (.lst xs) .non = some false := rfl
theorem isn_lst (st : Sto) (xs : List D) : cmpD st .isn (.lst xs) .non = some true := rfl
theorem is_str (st : Sto) (x : Str) : cmpD st .is_ (.str x) .non = some false := rfl
theorem isn_str (st : Sto) (x : Str) : cmpD st .isn (.str x) .non = some true := rfl
theorem is_int (st : Sto) (x : Int) : cmpD st .is_ (.int x) .non = some false := rfl
theorem isn_int (st : Sto) (x : Int) : cmpD st .isn (.int x) .non = some true := rfl
theorem evC_tup (call : Str → List D → Sto → Res D) (cls : List Str) (op : COp) (a : List D) (y : D) (st : Sto) : evC call cls op (.tup a) y st = optB (cmpD st op (.tup a) y) fun b => .ok (.bl b) st := by cases op <;> rfl
theorem evC_non (call : Str → List D → Sto → Res D) (cls : List Str) (op : COp) (y : D) (st : Sto) : evC call cls op .non y st = optB (cmpD st op .non y) fun b => .ok (.bl b) st := by cases op <;> rfl
theorem evC_dct (call : Str → List D → Sto → Res D) (cls : List Str) (op : COp) (ks a : List D) (y : D) (st : Sto) : evC call cls op (.dct ks a) y st = optB (cmpD st op (.dct ks a) y) fun b => .ok (.bl b) st := by cases op <;> rfl
theorem asS_tup (st : Sto) (xs : List D) : asS st (.tup xs) = some xs := rfl
theorem asS_lst (st : Sto) (xs : List D) : asS st (.lst xs) = some xs := rfl
theorem asL_lst (st : Sto) (xs : List D) : asL st (.lst xs) = some xs := rfl
theorem append_ok {st : Sto} {k : Nat} {xs : List D} {v : D} (h : st[k]? = some (.lst xs)) (hl : xs.length < line) : evM .append (.ref k) [v] st = .ok .non (st.set k (.lst (xs ++ [v]))) := by
  unfold evM
  simp only [h]
  rw [if_pos hl]
theorem extend_ok {st : Sto} {k : Nat} {xs ys : List D} {v : D} (h : st[k]? = some (.lst xs)) (hv : asL st v = some ys) (hl : xs.length + ys.length ≤ line) : evM .extend (.ref k) [v] st = .ok .non (st.set k (.lst (xs ++ ys))) := by
  unfold evM
  simp only [h, hv]
  rw [if_pos hl]
theorem tyM_ref {st : Sto} {k : Nat} {xs : List D} (h : st[k]? = some (.lst xs)) : tyM .append (.ref k) st = true ∧ tyM .extend (.ref k) st = true := by
  simp only [tyM, asL, h, Option.isSome_some, and_self]
/-! ### strings -/
theorem str_inj {a b : String} (h : Str.ofString a = Str.ofString b) : a = b := by
  rw [Str.ofString_eq_toList, Str.ofString_eq_toList] at h
  injection h with h
  have h : a.toList.map Char.toNat = b.toList.map Char.toNat := by simpa using h
  have : a.toList = b.toList := by
    revert h
    generalize a.toList = x
    generalize b.toList = y
    intro h
    induction x generalizing y with
    | nil => cases y with
      | nil => rfl
      | cons _ _ => cases h
    | cons c r ih => cases y with
      | nil => cases h
      | cons d s =>
        simp only [List.map_cons, List.cons.injEq] at h
        rw [ih s h.2, Char.ext (UInt32.toNat_inj.mp h.1)]
  rw [← String.ofList_toList (s := a), this, String.ofList_toList]
theorem str_eq (a b : String) : (Str.ofString a = Str.ofString b) = (a = b) := propext ⟨str_inj, fun h => by rw [h]⟩
theorem eqv_str (x y : Str) : PyData.eqv (.str x) (.str y) = decide (x = y) := by
  unfold PyData.eqv
  by_cases h : x = y <;> simp [h]
theorem cmp_eq_str (st : Sto) (x y : Str) : cmpD st .eq (.str x) (.str y) = some (decide (x = y)) := by
  simp only [cmpD, eqD, asC, eqP, drf, toPD, shal_str, Bool.and_self, if_true, eqv_str]
theorem cmp_ne_str (st : Sto) (x y : Str) : cmpD st .ne (.str x) (.str y) = some (!decide (x = y)) := by
  simp only [cmpD, eqD, asC, eqP, drf, toPD, shal_str, Bool.and_self, if_true, eqv_str, Option.map_some]
theorem eqv_is (x : Int) (y : Str) : PyData.eqv (.int x) (.str y) = false := by unfold PyData.eqv; rfl
theorem cmp_eq_is (st : Sto) (x : Int) (y : Str) : cmpD st .eq (.int x) (.str y) = some false := by
  simp only [cmpD, eqD, asC, eqP, drf, toPD, shal_str, shal_int, Bool.and_self, if_true, eqv_is]
theorem shal_none : shal .none = true := by unfold shal PyData.depth; decide
theorem cmp_eq_ns (st : Sto) (y : Str) : cmpD st .eq .non (.str y) = some false := by
  simp only [cmpD, eqD, asC, eqP, drf, toPD, shal_str, shal_none, Bool.and_self, if_true]
  unfold PyData.eqv; rfl
theorem cmp_eq_sn (st : Sto) (y : Str) : cmpD st .eq (.str y) .non = some false := by
  simp only [cmpD, eqD, asC, eqP, drf, toPD, shal_str, shal_none, Bool.and_self, if_true]
  unfold PyData.eqv; rfl
theorem cmp_ne_int (st : Sto) (a b : Int) : cmpD st .ne (.int a) (.int b) = some (!decide (a = b)) := by
  have := cmp_eq_int st a b
  show (eqD st (.int a) (.int b)).map _ = _
  rw [show eqD st (.int a) (.int b) = _ from this]; rfl
/-! ### data of small depth -/
mutual
def dat : Nat → D → Bool
  | _, .non => true
  | _, .bl _ => true
  | _, .int _ => true
  | _, .str _ => true
  | n + 1, .tup xs => dats n xs
  | n + 1, .lst xs => dats n xs
  | _, _ => false
def dats : Nat → List D → Bool
  | _, [] => true
  | n, x :: xs => dat n x && dats n xs
end
mutual
theorem dat_ok : ∀ {n : Nat} {d : D}, dat n d = true → ∃ p, toPD d = some p ∧ p.depth ≤ n + 1
  | _, .non, _ => ⟨_, rfl, by unfold PyData.depth; omega⟩
  | _, .bl _, _ => ⟨_, rfl, by unfold PyData.depth; omega⟩
  | _, .int _, _ => ⟨_, rfl, by unfold PyData.depth; omega⟩
  | _, .str _, _ => ⟨_, rfl, by unfold PyData.depth; omega⟩
  | n + 1, .tup xs, h => by
    obtain ⟨ps, e, hd⟩ := dats_ok (n := n) (xs := xs) (by unfold dat at h; exact h)
    exact ⟨.tuple ps, by unfold toPD; rw [e], by unfold PyData.depth; omega⟩
  | n + 1, .lst xs, h => by
    obtain ⟨ps, e, hd⟩ := dats_ok (n := n) (xs := xs) (by unfold dat at h; exact h)
    exact ⟨.list ps, by unfold toPD; rw [e], by unfold PyData.depth; omega⟩
  | 0, .tup xs, h => by unfold dat at h; cases h
  | 0, .lst xs, h => by unfold dat at h; cases h
  | _, .dct _ _, h => by unfold dat at h; cases h
  | _, .ins _ _ _, h => by unfold dat at h; cases h
  | _, .exc _ _ _, h => by unfold dat at h; cases h
  | _, .ref _, h => by unfold dat at h; cases h
  | _, .scr _, h => by unfold dat at h; cases h
theorem dats_ok : ∀ {n : Nat} {xs : List D}, dats n xs = true → ∃ ps, toPDs xs = some ps ∧ PyData.depthAll ps ≤ n + 1
  | _, [], _ => ⟨[], rfl, by unfold PyData.depthAll; omega⟩
  | n, x :: xs, h => by
    unfold dats at h
    simp only [Bool.and_eq_true] at h
    obtain ⟨p, e, hd⟩ := dat_ok h.1
    obtain ⟨ps, e', hd'⟩ := dats_ok h.2
    refine ⟨p :: ps, by unfold toPDs; rw [e, e'], ?_⟩
    unfold PyData.depthAll
    omega
end
mutual
theorem eqv_refl : ∀ {d : D} {p : PyData}, toPD d = some p → PyData.eqv p p = true
  | .non, _, h => by cases h; unfold PyData.eqv; rfl
  | .bl _, _, h => by cases h; unfold PyData.eqv; simp
  | .int _, _, h => by cases h; unfold PyData.eqv; simp
  | .str _, _, h => by cases h; unfold PyData.eqv; simp
  | .tup xs, p, h => by
    unfold toPD at h
    cases e : toPDs xs with
    | none => rw [e] at h; cases h
    | some ps => rw [e] at h; cases h; unfold PyData.eqv; exact eqvAll_refl e
  | .lst xs, p, h => by
    unfold toPD at h
    cases e : toPDs xs with
    | none => rw [e] at h; cases h
    | some ps => rw [e] at h; cases h; unfold PyData.eqv; exact eqvAll_refl e
  | .dct _ _, _, h => by cases h
  | .ins _ _ _, _, h => by cases h
  | .exc _ _ _, _, h => by cases h
  | .ref _, _, h => by cases h
  | .scr _, _, h => by cases h
theorem eqvAll_refl : ∀ {xs : List D} {ps : List PyData}, toPDs xs = some ps → PyData.eqvAll ps ps = true
  | [], _, h => by cases h; unfold PyData.eqvAll; rfl
  | x :: xs, _, h => by
    unfold toPDs at h
    cases e : toPD x with
    | none => rw [e] at h; cases h
    | some p =>
      cases e' : toPDs xs with
      | none => rw [e, e'] at h; cases h
      | some ps =>
        rw [e, e'] at h; cases h
        unfold PyData.eqvAll
        rw [eqv_refl e, eqvAll_refl e']; rfl
end
theorem nr_dat {n : Nat} {d : D} (h : dat n d = true) : nr d = true := by
  cases d <;> first | rfl | (unfold dat at h; cases h)
theorem asC_dat {n : Nat} {d : D} (h : dat n d = true) (st : Sto) : asC st d = none := by
  cases d <;> first | rfl | (unfold dat at h; cases h)
theorem shal_of {p : PyData} {n : Nat} (h : p.depth ≤ n + 1) (hn : n < 60) : shal p = true := by
  unfold shal; exact decide_eq_true (by omega)
theorem eq_self {n : Nat} {d : D} (h : dat n d = true) (hn : n < 60) (st : Sto) : cmpD st .eq d d = some true := by
  obtain ⟨p, e, hd⟩ := dat_ok h
  show eqD st d d = _
  unfold eqD
  rw [asC_dat h]
  show eqP st d d = _
  unfold eqP
  rw [drf_nr (nr_dat h), e]
  show (if (shal p && shal p) = true then some (PyData.eqv p p) else none) = _
  rw [shal_of hd hn, eqv_refl e]
  rfl
theorem ne_self {n : Nat} {d : D} (h : dat n d = true) (hn : n < 60) (st : Sto) : cmpD st .ne d d = some false := by
  show (cmpD st .eq d d).map _ = _
  rw [eq_self h hn]; rfl
/-! ### comprehensions -/
def compB (call : Str → List D → Sto → Res D) (sub : Str → Str → Bool) (own : List Nat) (tg : CG) (t el : CE) (env : Env) (x : D) (acc : List D) (s : Sto) : Res (List D) :=
  ((evG call sub tg x (wipeE env own) s).bind fun e2 s2 => (evE call sub t e2 s2).bind fun b s3 => (match b with
        | .bl true => (evE call sub el e2 s3).bind fun y s4 => if acc.length < line then .ok (acc ++ [y]) s4 else .bad
        | .bl false => .ok acc s3
        | _ => .bad)).nox
theorem evE_comp (call : Str → List D → Sto → Res D) (sub : Str → Str → Bool) (m : Bool) (own : List Nat) (tg : CG) (it : CI) (t el : CE) (env : Env) (st : Sto) :
    evE call sub (.comp m own tg it t el) env st = (evI call sub it env st).bind fun xd s1 => (loopR xd.2 (compB call sub own tg t el env) xd.1 [] s1).bind fun ys s => retR m (.lst ys) s := by
  unfold evE; rfl
/-! ### runs in a store of their own -/
def valR : Res D → Option D
  | .ok d [] => if bd 0 d then some d else none
  | _ => none
theorem valR_ok {r : Res D} {d : D} (h : valR r = some d) : r = .ok d [] ∧ bd 0 d = true := by
  unfold valR at h
  split at h
  · split at h
    · rename_i c
      cases h
      exact ⟨rfl, c⟩
    · cases h
  · cases h
def excR : Res D → Option (Str × List Str × List D)
  | .exc C fs xs [] => if bds 0 xs then some (C, fs, xs) else none
  | _ => none
theorem excR_ok {r : Res D} {C : Str} {fs : List Str} {xs : List D} (h : excR r = some (C, fs, xs)) : r = .exc C fs xs [] ∧ bds 0 xs = true := by
  unfold excR at h
  split at h
  · split at h
    · rename_i c
      cases h
      exact ⟨rfl, c⟩
    · cases h
  · cases h
section
variable {T : Str → Option Ent} {sub : Str → Str → Bool} {efs : Str → List Str} {wf : Nat}
theorem run_frame {n : Nat} {q : Str} {ds : List D} {d : D} (st : Sto) (hb : bds 0 ds = true) (hl : Ent.loose (T q) = true) (h : valR (ev0 T sub efs wf (evF T sub efs wf n) q ds []) = some d) : evF T sub efs wf (n + 1) q ds st = .ok d st := by
  obtain ⟨e, c⟩ := valR_ok h
  unfold evF
  rw [hb, hl]
  show frame st (ev0 T sub efs wf (evF T sub efs wf n) q ds []) = _
  rw [e]
  show (if bd 0 d then Res.ok d st else .bad) = _
  rw [if_pos c]
theorem run_framex {n : Nat} {q : Str} {ds : List D} {C : Str} {fs : List Str} {xs : List D} (st : Sto) (hb : bds 0 ds = true) (hl : Ent.loose (T q) = true) (h : excR (ev0 T sub efs wf (evF T sub efs wf n) q ds []) = some (C, fs, xs)) : evF T sub efs wf (n + 1) q ds st = .exc C fs xs st := by
  obtain ⟨e, c⟩ := excR_ok h
  unfold evF
  rw [hb, hl]
  show frame st (ev0 T sub efs wf (evF T sub efs wf n) q ds []) = _
  rw [e]
  show (if bds 0 xs then Res.exc C fs xs st else .bad) = _
  rw [if_pos c]
end
section
variable {T : Str → Option Ent} {sub : Str → Str → Bool} {efs : Str → List Str} {wf : Nat}
theorem run_fn {n np N : Nat} {q : Str} {b : CSs} {ds : List D} {d : D} (st : Sto) (hT : T q = some (.fn none np N false b)) (hb : bds 0 ds = true) (hl : ds.length = np) (h : finB false 0 (evSs (evF T sub efs wf n) sub efs wf b (ds.map some ++ List.replicate (N - np) none) []) = .ok d []) (hd : bd 0 d = true) : evF T sub efs wf (n + 1) q ds st = .ok d st := by
  have he : ev0 T sub efs wf (evF T sub efs wf n) q ds [] = .ok d [] := by
    unfold ev0
    rw [hT]
    simp only [hl, beq_self_eq_true, ownB, Bool.and_self, List.length_nil]
    exact h
  unfold evF
  rw [hb, hT]
  show frame st (ev0 T sub efs wf (evF T sub efs wf n) q ds []) = _
  rw [he]
  show (if bd 0 d then Res.ok d st else .bad) = _
  rw [if_pos hd]
theorem run_pg {n np N : Nat} {keep : Bool} {q : Str} {b : CSs} {ds : List D} {d : D} {st st' : Sto} (hT : T q = some (.fn none np N keep b)) (hb : bds 0 ds = false ∨ keep = true) (hl : ds.length = np) (h : finB keep st.length (evSs (evF T sub efs wf n) sub efs wf b (ds.map some ++ List.replicate (N - np) none) st) = .ok d st') : evF T sub efs wf (n + 1) q ds st = .ok d st' := by
  unfold evF
  have hc : (bds 0 ds && Ent.loose (T q)) = false := by
    rw [hT]
    rcases hb with hb | rfl
    · rw [hb]; rfl
    · show (_ && !true) = false
      simp
  rw [hc]
  show ev0 T sub efs wf (evF T sub efs wf n) q ds st = _
  unfold ev0
  rw [hT]
  simp only [hl, beq_self_eq_true, ownB, Bool.and_self]
  exact h
theorem run_pl {n np N : Nat} {keep : Bool} {q : Str} {b : CSs} {ds : List D} {d : D} {st st' : Sto} (hT : T q = some (.fn none np N keep b)) (hb : bds 0 ds = false ∨ keep = true) (hl : ds.length = np) (h : evSs (evF T sub efs wf n) sub efs wf b (ds.map some ++ List.replicate (N - np) none) st = .rt d st') (hs : st'.length = st.length) : evF T sub efs wf (n + 1) q ds st = .ok d st' := by
  refine run_pg hT hb hl ?_
  rw [h]
  show fin keep st.length d st' = _
  unfold fin
  rw [Nat.ble_eq_true_of_le (Nat.le_of_eq hs.symm), hs]
  simp
theorem run_fnx {n np N : Nat} {q : Str} {b : CSs} {ds : List D} {C : Str} {fs : List Str} {xs : List D} (st : Sto) (hT : T q = some (.fn none np N false b)) (hb : bds 0 ds = true) (hl : ds.length = np) (h : ∃ e, evSs (evF T sub efs wf n) sub efs wf b (ds.map some ++ List.replicate (N - np) none) [] = .ex e C fs xs []) (hd : bds 0 xs = true) : evF T sub efs wf (n + 1) q ds st = .exc C fs xs st := by
  obtain ⟨e, h⟩ := h
  have he : ev0 T sub efs wf (evF T sub efs wf n) q ds [] = .exc C fs xs [] := by
    unfold ev0
    rw [hT]
    simp only [hl, beq_self_eq_true, ownB, Bool.and_self, List.length_nil]
    rw [h]
    rfl
  unfold evF
  rw [hb, hT]
  show frame st (ev0 T sub efs wf (evF T sub efs wf n) q ds []) = _
  rw [he]
  show (if bds 0 xs then Res.exc C fs xs st else .bad) = _
  rw [if_pos hd]
theorem run_fn0 {n np N : Nat} {q : Str} {b : CSs} {ds : List D} {d : D} (st : Sto) (hT : T q = some (.fn none np N false b)) (hb : bds 0 ds = true) (hl : ds.length = np) (h : evSs (evF T sub efs wf n) sub efs wf b (ds.map some ++ List.replicate (N - np) none) [] = .rt d []) (hd : bd 0 d = true) : evF T sub efs wf (n + 1) q ds st = .ok d st := by
  refine run_fn st hT hb hl ?_ hd
  rw [h]
  rfl
end
mutual
theorem dat_bd : ∀ {n : Nat} {d : D} (m : Nat), dat n d = true → bd m d = true
  | _, .non, _, _ => rfl
  | _, .bl _, _, _ => rfl
  | _, .int _, _, _ => rfl
  | _, .str _, _, _ => rfl
  | n + 1, .tup xs, m, h => by unfold dat at h; unfold bd; exact dats_bds m h
  | n + 1, .lst xs, m, h => by unfold dat at h; unfold bd; exact dats_bds m h
  | 0, .tup xs, _, h => by unfold dat at h; cases h
  | 0, .lst xs, _, h => by unfold dat at h; cases h
  | _, .dct _ _, _, h => by unfold dat at h; cases h
  | _, .ins _ _ _, _, h => by unfold dat at h; cases h
  | _, .exc _ _ _, _, h => by unfold dat at h; cases h
  | _, .ref _, _, h => by unfold dat at h; cases h
  | _, .scr _, _, h => by unfold dat at h; cases h
theorem dats_bds : ∀ {n : Nat} {d : List D} (m : Nat), dats n d = true → bds m d = true
  | _, [], _, _ => rfl
  | n, x :: xs, m, h => by
    unfold dats at h; unfold bds
    simp only [Bool.and_eq_true] at h ⊢
    exact ⟨dat_bd m h.1, dats_bds m h.2⟩
end
theorem dats_all {n : Nat} {xs : List D} : dats n xs = true ↔ ∀ x ∈ xs, dat n x = true := by
  induction xs with
  | nil => simp [dats]
  | cons x xs ih => simp [dats, ih]
theorem bds_all {n : Nat} {xs : List D} : bds n xs = true ↔ ∀ x ∈ xs, bd n x = true := by
  induction xs with
  | nil => simp [bds]
  | cons x xs ih => simp [bds, ih]
mutual
theorem dat_le : ∀ {n m : Nat} {d : D}, n ≤ m → dat n d = true → dat m d = true
  | _, _, .non, _, _ => by unfold dat; rfl
  | _, _, .bl _, _, _ => by unfold dat; rfl
  | _, _, .int _, _, _ => by unfold dat; rfl
  | _, _, .str _, _, _ => by unfold dat; rfl
  | n + 1, m, .tup xs, l, h => by
    obtain ⟨k, rfl⟩ : ∃ k, m = k + 1 := ⟨m - 1, by omega⟩
    unfold dat at h ⊢; exact dats_le (by omega) h
  | n + 1, m, .lst xs, l, h => by
    obtain ⟨k, rfl⟩ : ∃ k, m = k + 1 := ⟨m - 1, by omega⟩
    unfold dat at h ⊢; exact dats_le (by omega) h
  | 0, _, .tup xs, _, h => by unfold dat at h; cases h
  | 0, _, .lst xs, _, h => by unfold dat at h; cases h
  | _, _, .dct _ _, _, h => by unfold dat at h; cases h
  | _, _, .ins _ _ _, _, h => by unfold dat at h; cases h
  | _, _, .exc _ _ _, _, h => by unfold dat at h; cases h
  | _, _, .ref _, _, h => by unfold dat at h; cases h
  | _, _, .scr _, _, h => by unfold dat at h; cases h
theorem dats_le : ∀ {n m : Nat} {d : List D}, n ≤ m → dats n d = true → dats m d = true
  | _, _, [], _, _ => by unfold dats; rfl
  | n, m, x :: xs, l, h => by
    unfold dats at h ⊢
    simp only [Bool.and_eq_true] at h ⊢
    exact ⟨dat_le l h.1, dats_le l h.2⟩
end
theorem bd_int (n : Nat) (i : Int) : bd n (.int i) = true := rfl
theorem bd_str (n : Nat) (i : Str) : bd n (.str i) = true := rfl
theorem bd_bl (n : Nat) (i : Bool) : bd n (.bl i) = true := rfl
theorem bd_non (n : Nat) : bd n .non = true := rfl
theorem bd_tup (n : Nat) (xs : List D) : bd n (.tup xs) = bds n xs := by unfold bd; rfl
theorem bd_lst (n : Nat) (xs : List D) : bd n (.lst xs) = bds n xs := by unfold bd; rfl
theorem bds_nil (n : Nat) : bds n [] = true := rfl
theorem bds_cons (n : Nat) (x : D) (xs : List D) : bds n (x :: xs) = (bd n x && bds n xs) := rfl
theorem bds_append (n : Nat) (xs ys : List D) : bds n (xs ++ ys) = (bds n xs && bds n ys) := by
  induction xs with
  | nil => rw [List.nil_append, bds_nil, Bool.true_and]
  | cons x r ih => rw [List.cons_append, bds_cons, bds_cons, ih, Bool.and_assoc]
/-! ### giving up at a return -/
mutual
theorem bd_mono : ∀ {n m : Nat} {d : D}, n ≤ m → bd n d = true → bd m d = true
  | _, _, .non, _, _ => rfl
  | _, _, .bl _, _, _ => rfl
  | _, _, .int _, _, _ => rfl
  | _, _, .str _, _, _ => rfl
  | _, _, .scr _, _, _ => rfl
  | n, m, .tup xs, l, h => by unfold bd at h ⊢; exact bds_mono l h
  | n, m, .lst xs, l, h => by unfold bd at h ⊢; exact bds_mono l h
  | n, m, .dct ks xs, l, h => by
    unfold bd at h ⊢
    simp only [Bool.and_eq_true] at h ⊢
    exact ⟨bds_mono l h.1, bds_mono l h.2⟩
  | n, m, .ins C fs xs, l, h => by unfold bd at h ⊢; exact bds_mono l h
  | n, m, .exc C fs xs, l, h => by unfold bd at h ⊢; exact bds_mono l h
  | n, m, .ref k, l, h => by
    unfold bd at h ⊢
    simp only [decide_eq_true_eq] at h ⊢
    omega
theorem bds_mono : ∀ {n m : Nat} {d : List D}, n ≤ m → bds n d = true → bds m d = true
  | _, _, [], _, _ => rfl
  | n, m, x :: xs, l, h => by
    unfold bds at h ⊢
    simp only [Bool.and_eq_true] at h ⊢
    exact ⟨bd_mono l h.1, bds_mono l h.2⟩
end
mutual
theorem frz_id {n : Nat} {g : List SO} : ∀ {m : Nat} {d : D}, bd 0 d = true → szD d ≤ m → frzV n g m d = some d
  | 0, d, _, h => by cases d <;> unfold szD at h <;> omega
  | m + 1, .tup xs, hb, h => by
    unfold frzV
    show (frzVs n g m xs).map D.tup = _
    rw [frzs_id (by unfold bd at hb; exact hb) (by unfold szD at h; omega)]; rfl
  | m + 1, .lst xs, hb, h => by
    unfold frzV
    show (frzVs n g m xs).map D.lst = _
    rw [frzs_id (by unfold bd at hb; exact hb) (by unfold szD at h; omega)]; rfl
  | m + 1, .ref k, hb, h => by unfold bd at hb; simp at hb
  | m + 1, .non, hb, h => by unfold frzV; rfl
  | m + 1, .bl _, hb, h => by unfold frzV; rfl
  | m + 1, .int _, hb, h => by unfold frzV; rfl
  | m + 1, .str _, hb, h => by unfold frzV; rfl
  | m + 1, .scr _, hb, h => by unfold frzV; rfl
  | m + 1, .dct ks xs, hb, h => by unfold frzV; exact if_pos (bd_mono (Nat.zero_le n) hb)
  | m + 1, .ins C ks xs, hb, h => by unfold frzV; exact if_pos (bd_mono (Nat.zero_le n) hb)
  | m + 1, .exc C ks xs, hb, h => by unfold frzV; exact if_pos (bd_mono (Nat.zero_le n) hb)
theorem frzs_id {n : Nat} {g : List SO} : ∀ {m : Nat} {d : List D}, bds 0 d = true → szDs d ≤ m → frzVs n g m d = some d
  | 0, d, _, h => by cases d <;> unfold szDs at h <;> omega
  | m + 1, [], _, _ => by unfold frzVs; rfl
  | m + 1, x :: xs, hb, h => by
    unfold bds at hb
    simp only [Bool.and_eq_true] at hb
    unfold szDs at h
    unfold frzVs
    rw [frz_id hb.1 (by omega), frzs_id hb.2 (by omega)]
end
/-- what stands at a place, as a value -/
def ofSO : SO → D
  | .lst xs => .lst xs
  | .dct ks xs => .dct ks xs
  | .ins C fs xs => .ins C fs xs
/-- what is new at a place -/
theorem frz_ref {n : Nat} {g : List SO} {m : Nat} {so : SO} {j : Nat} (e : g[j]? = some so) (hm : szO [so] ≤ m + 1) (hb : bdS 0 so = true) : frzV n g (m + 1) (.ref (n + j)) = some (ofSO so) := by
  unfold frzV
  show (if n + j < n then some (D.ref (n + j)) else _) = _
  rw [if_neg (by omega), show n + j - n = j by omega, e]
  cases so with
  | lst xs =>
    show (frzVs n g m xs).map D.lst = _
    rw [frzs_id hb (by unfold szO szO at hm; omega)]; rfl
  | dct ks xs =>
    unfold bdS at hb
    simp only [Bool.and_eq_true] at hb
    show (if bds n ks then (frzVs n g m xs).map (D.dct ks) else none) = _
    rw [if_pos (bds_mono (Nat.zero_le n) hb.1), frzs_id hb.2 (by unfold szO szO at hm; omega)]; rfl
  | ins C fs xs =>
    show (frzVs n g m xs).map (D.ins C fs) = _
    rw [frzs_id hb (by unfold szO szO at hm; omega)]; rfl
theorem szO_get : ∀ {g : List SO} {j : Nat} {so : SO}, g[j]? = some so → szO [so] ≤ szO g
  | [], _, _, h => by simp at h
  | s :: r, 0, so, h => by
    simp only [List.getElem?_cons_zero, Option.some.injEq] at h
    subst h
    cases s <;> unfold szO szO <;> omega
  | s :: r, j + 1, so, h => by
    rw [List.getElem?_cons_succ] at h
    have := szO_get h
    have h2 : szO r ≤ szO (s :: r) := by cases s <;> (conv => rhs; unfold szO) <;> omega
    omega
/-- an object of its own, given back as a value; what else is new is left -/
theorem fin_ref {s : Sto} {n j : Nat} {so : SO} (hn : n ≤ s.length) (hl : n + j < s.length) (hc : (s.take n).all (bdS n) = true) (e : s[n + j]? = some so) (hb : bdS 0 so = true) : fin false n (.ref (n + j)) s = .ok (ofSO so) (s.take n) := by
  have e' : (s.drop n)[j]? = some so := by rw [List.getElem?_drop]; exact e
  have hz := szO_get e'
  have hf := frz_ref (n := n) (g := s.drop n) (m := szO (s.drop n) + szD (.ref (n + j))) e' (by omega) hb
  unfold fin
  rw [Nat.ble_eq_true_of_le hn, hf, hc]
  have : (s.length == n) = false := by simp; omega
  rw [this]
  rfl
theorem fin_lst {xs : List D} (h : bds 0 xs = true) : fin false 0 (.ref 0) [.lst xs] = .ok (.lst xs) [] :=
  fin_ref (s := [.lst xs]) (n := 0) (j := 0) (by simp) (by simp) rfl rfl h
section
variable {call : Str → List D → Sto → Res D} {sub : Str → Str → Bool} {efs : Str → List Str} {wf : Nat} {c : CE} {a b ss : CSs} {s : CS} {env e1 : Env} {st s1 : Sto}
theorem evS_if_t (h : evE call sub c env st = .ok (.bl true) s1) : evS call sub efs wf (.iff c a b) env st = evSs call sub efs wf a env s1 := by
  unfold evS
  rw [h, fl_ok]
theorem evS_if_f (h : evE call sub c env st = .ok (.bl false) s1) : evS call sub efs wf (.iff c a b) env st = evSs call sub efs wf b env s1 := by
  unfold evS
  rw [h, fl_ok]
theorem evSs_cons : evSs call sub efs wf (.cons s ss) env st = (evS call sub efs wf s env st).bind fun e s' => evSs call sub efs wf ss e s' := by
  conv => lhs; unfold evSs
theorem evSs_nx (h : evS call sub efs wf s env st = .nx e1 s1) : evSs call sub efs wf (.cons s ss) env st = evSs call sub efs wf ss e1 s1 := by
  rw [evSs_cons, h, fb_nx]
theorem evSs_rt {d : D} (h : evS call sub efs wf s env st = .rt d s1) : evSs call sub efs wf (.cons s ss) env st = .rt d s1 := by
  rw [evSs_cons, h, fb_rt]
theorem evSs_ex {C : Str} {fs : List Str} {xs : List D} (h : evS call sub efs wf s env st = .ex e1 C fs xs s1) : evSs call sub efs wf (.cons s ss) env st = .ex e1 C fs xs s1 := by
  rw [evSs_cons, h, fb_ex]
theorem evSs_nil : evSs call sub efs wf .nil env st = .nx env st := by unfold evSs; rfl
theorem evS_for {g : CG} {it : CI} {xs : List D} {dep : Sto → Bool} (h : evI call sub it env st = .ok (xs, dep) s1) : evS call sub efs wf (.forr g it b) env st = loopS dep (fun x e s => (evG call sub g x e s).nox.fl e fun e2 s2 => evSs call sub efs wf b e2 s2) xs env s1 := by
  unfold evS
  rw [h, fl_ok]
theorem evS_asg {g : CG} {e : CE} {d : D} {s2 : Sto} (h : evE call sub e env st = .ok d s1) (hg : evG call sub g d env s1 = .ok e1 s2) : evS call sub efs wf (.asg g e) env st = .nx e1 s2 := by
  unfold evS
  rw [h, fl_ok, hg]; rfl
theorem evS_exp {e : CE} {d : D} (h : evE call sub e env st = .ok d s1) : evS call sub efs wf (.exp e) env st = .nx env s1 := by
  unfold evS
  rw [h, fl_ok]
theorem evS_expx {e : CE} {C : Str} {fs : List Str} {xs : List D} (h : evE call sub e env st = .exc C fs xs s1) : evS call sub efs wf (.exp e) env st = .ex env C fs xs s1 := by
  unfold evS
  rw [h, fl_exc]
theorem evS_ret {e : CE} {d : D} (h : evE call sub e env st = .ok d s1) : evS call sub efs wf (.ret e) env st = .rt d s1 := by
  unfold evS
  rw [h, fl_ok]
end
theorem evS_raise {call : Str → List D → Sto → Res D} {sub : Str → Str → Bool} {efs : Str → List Str} {wf : Nat} {C : Str} {es : CEs} {env : Env} {st s1 : Sto} {ds : List D} {fs : List Str} (hf : efs C = fs) (h : evEs call sub es env st = .ok ds s1) (hk : excOk ds = true) (hl : ds.length = fs.length) : evS call sub efs wf (.raise C es) env st = .ex env C fs ds s1 := by
  unfold evS
  rw [h, fl_ok, hf, hk, hl]
  simp
theorem exc_nat {j : Nat} (h : j < 1000000) : excOk [.int (j : Int)] = true := by
  have h1 : fldOk (.int (j : Int)) = true := by
    unfold fldOk
    simp only [Bool.and_eq_true, decide_eq_true_eq]
    omega
  show ((fldOk (.int (j : Int)) && true) && true) = true
  rw [h1]; rfl
theorem loopS_cons {dep : Sto → Bool} {body : D → Env → Sto → Fl} (x : D) (r : List D) (e : Env) (s : Sto) : loopS dep body (x :: r) e s = if dep s then (body x e s).bind fun e s => loopS dep body r e s else .bad := rfl
theorem loopS_app {dep : Sto → Bool} {body : D → Env → Sto → Fl} : ∀ (xs ys : List D) (e : Env) (s : Sto) {e' : Env} {s' : Sto}, loopS dep body xs e s = .nx e' s' → loopS dep body (xs ++ ys) e s = loopS dep body ys e' s' := by
  intro xs
  induction xs with
  | nil =>
    intro ys e s e' s' h
    unfold loopS at h
    split at h
    · cases h; rfl
    · cases h
  | cons x r ih =>
    intro ys e s e' s' h
    rw [List.cons_append, loopS_cons]
    rw [loopS_cons] at h
    split at h
    · rename_i c
      rw [if_pos c]
      cases hb : body x e s with
      | nx e1 s1 => rw [hb] at h; rw [fb_nx]; rw [fb_nx] at h; exact ih ys e1 s1 h
      | rt d s1 => rw [hb] at h; cases h
      | ex _ _ _ _ _ => rw [hb] at h; cases h
      | bad => rw [hb] at h; cases h
    · cases h
theorem enm_app (xs ys : List D) : ∀ j : Nat, enmD j (xs ++ ys) = enmD j xs ++ enmD (j + xs.length) ys := by
  induction xs with
  | nil => intro j; rfl
  | cons x r ih =>
    intro j
    show _ :: enmD (j + 1) (r ++ ys) = _ :: (enmD (j + 1) r ++ _)
    rw [ih (j + 1), List.length_cons, show j + 1 + r.length = j + (r.length + 1) by omega]
theorem idx_in {st : Sto} {xs : List D} {r : Int} (h0 : 0 ≤ r) (h : r < xs.length) : ∃ d, idxD st (.lst xs) (.int r) = some d ∧ d ∈ xs := by
  have hl : r.toNat < xs.length := by omega
  refine ⟨xs[r.toNat], ?_, List.getElem_mem hl⟩
  rw [idx_lst, at_nat h0 h, List.getElem?_eq_getElem hl]
theorem idx_in2 {st : Sto} {xs ys : List D} {r : Int} (h0 : 0 ≤ r) (h : r < xs.length) (hys : ∃ zs, ys = xs ++ zs) : ∃ d, idxD st (.lst ys) (.int r) = some d ∧ d ∈ xs := by
  obtain ⟨zs, rfl⟩ := hys
  have hl : r.toNat < xs.length := by omega
  refine ⟨xs[r.toNat], ?_, List.getElem_mem hl⟩
  rw [idx_lst, at_nat h0 (by simp; omega), List.getElem?_append_left hl, List.getElem?_eq_getElem hl]
end Mini
end
section
/-! Loops by invariants of the part that is walked. -/
namespace Mini
open PySem
section
variable {call : Str → List D → Sto → Res D} {sub : Str → Str → Bool} {efs : Str → List Str} {wf : Nat}
/-- one turn of a for -/
def loopB (call : Str → List D → Sto → Res D) (sub : Str → Str → Bool) (efs : Str → List Str) (wf : Nat) (g : CG) (b : CSs) (x : D) (e : Env) (s : Sto) : Fl :=
  (evG call sub g x e s).nox.fl e fun e2 s2 => evSs call sub efs wf b e2 s2
theorem E_forr (g : CG) (it : CI) (b : CSs) (env : Env) (st : Sto) : evS call sub efs wf (.forr g it b) env st = (evI call sub it env st).fl env fun xd s1 => loopS xd.2 (loopB call sub efs wf g b) xd.1 env s1 := by
  unfold evS; rfl
theorem E_whl (c : CE) (b : CSs) (env : Env) (st : Sto) : evS call sub efs wf (.whl c b) env st = whlS (evE call sub c) (evSs call sub efs wf b) wf env st := by
  unfold evS; rfl
theorem loop_pre {β : Type} {dep : Sto → Bool} {body : D → Env → Sto → Fl} (g : β → D) (R : List β → Env → Sto → Prop) (xs : List β) (hd : ∀ p q e s, xs = p ++ q → R p e s → dep s = true)
    (hs : ∀ p x q e s, xs = p ++ x :: q → R p e s → ∃ e' s', body (g x) e s = .nx e' s' ∧ R (p ++ [x]) e' s') {e : Env} {s : Sto} (h : R [] e s) :
    ∃ e' s', loopS dep body (xs.map g) e s = .nx e' s' ∧ R xs e' s' := by
  have key : ∀ (q p : List β) e s, xs = p ++ q → R p e s → ∃ e' s', loopS dep body (q.map g) e s = .nx e' s' ∧ R xs e' s' := by
    intro q
    induction q with
    | nil =>
      intro p e s hx hr
      rw [List.append_nil] at hx
      subst hx
      refine ⟨e, s, ?_, hr⟩
      show (if dep s then _ else _) = _
      rw [if_pos (hd xs [] e s (by simp) hr)]
    | cons x r ih =>
      intro p e s hx hr
      obtain ⟨e1, s1, h1, hr1⟩ := hs p x r e s hx hr
      obtain ⟨e2, s2, h2, hr2⟩ := ih (p ++ [x]) e1 s1 (by rw [hx]; simp) hr1
      refine ⟨e2, s2, ?_, hr2⟩
      rw [List.map_cons, loopS_cons, if_pos (hd p (x :: r) e s hx hr), h1, fb_nx, h2]
  exact key xs [] e s rfl h
/-- a part that is walked whole, then a turn that leaves -/
theorem loop_out {β : Type} {dep : Sto → Bool} {body : D → Env → Sto → Fl} (g : β → D) (R : List β → Env → Sto → Prop) (xs : List β) (y : D) (r : List D) (hd : ∀ p q e s, xs = p ++ q → R p e s → dep s = true)
    (hs : ∀ p x q e s, xs = p ++ x :: q → R p e s → ∃ e' s', body (g x) e s = .nx e' s' ∧ R (p ++ [x]) e' s') {e : Env} {s : Sto} (h : R [] e s) {F : Fl} (hF : ∀ e s, R xs e s → body y e s = F) (hn : ∀ f, F.bind f = F) :
    loopS dep body (xs.map g ++ y :: r) e s = F := by
  obtain ⟨e1, s1, h1, hr⟩ := loop_pre g R xs hd hs h
  rw [loopS_app _ _ _ _ h1, loopS_cons, if_pos (hd xs [] e1 s1 (by simp) hr), hF e1 s1 hr, hn]
theorem loopR_cons {dep : Sto → Bool} {body : D → List D → Sto → Res (List D)} (x : D) (r acc : List D) (s : Sto) : loopR dep body (x :: r) acc s = if dep s then (body x acc s).bind fun a s => loopR dep body r a s else .bad := rfl
theorem comp_pre {β : Type} {dep : Sto → Bool} {body : D → List D → Sto → Res (List D)} (g : β → D) (R : List β → List D → Sto → Prop) (xs : List β) (hd : ∀ p q e s, xs = p ++ q → R p e s → dep s = true)
    (hs : ∀ p x q a s, xs = p ++ x :: q → R p a s → ∃ a' s', body (g x) a s = .ok a' s' ∧ R (p ++ [x]) a' s') {a : List D} {s : Sto} (h : R [] a s) :
    ∃ a' s', loopR dep body (xs.map g) a s = .ok a' s' ∧ R xs a' s' := by
  have key : ∀ (q p : List β) a s, xs = p ++ q → R p a s → ∃ e' s', loopR dep body (q.map g) a s = .ok e' s' ∧ R xs e' s' := by
    intro q
    induction q with
    | nil =>
      intro p e s hx hr
      rw [List.append_nil] at hx
      subst hx
      refine ⟨e, s, ?_, hr⟩
      show (if dep s then _ else _) = _
      rw [if_pos (hd xs [] e s (by simp) hr)]
    | cons x r ih =>
      intro p e s hx hr
      obtain ⟨e1, s1, h1, hr1⟩ := hs p x r e s hx hr
      obtain ⟨e2, s2, h2, hr2⟩ := ih (p ++ [x]) e1 s1 (by rw [hx]; simp) hr1
      refine ⟨e2, s2, ?_, hr2⟩
      rw [List.map_cons, loopR_cons, if_pos (hd p (x :: r) e s hx hr), h1, bind_ok, h2]
  exact key xs [] a s rfl h
/-- a comprehension that changes nothing: each turn gives at most one -/
theorem comp_map {β : Type} {dep : Sto → Bool} {body : D → List D → Sto → Res (List D)} (g : β → D) (h : β → List D) (xs : List β) {st : Sto} (hd : dep st = true) (hl : xs.length < line) (h1 : ∀ x ∈ xs, (h x).length ≤ 1)
    (hs : ∀ x ∈ xs, ∀ acc : List D, acc.length < line → body (g x) acc st = .ok (acc ++ h x) st) :
    loopR dep body (xs.map g) [] st = .ok (xs.flatMap h) st := by
  obtain ⟨a, s, e, ⟨rfl, rfl⟩⟩ := comp_pre (dep := dep) (body := body) g (fun p a s => a = p.flatMap h ∧ s = st) xs (fun p q e s _ hr => by rw [hr.2]; exact hd)
    (fun p x q a s hx hr => by
      obtain ⟨rfl, rfl⟩ := hr
      have hm : x ∈ xs := by rw [hx]; simp
      have hp : (p.flatMap h).length ≤ p.length := by
        have : ∀ y ∈ p, (h y).length ≤ 1 := fun y hy => h1 y (by rw [hx]; simp [hy])
        clear hx
        induction p with
        | nil => simp
        | cons z r ih =>
          have h2 := this z List.mem_cons_self
          have h3 := ih fun y hy => this y (List.mem_cons_of_mem _ hy)
          simp only [List.flatMap_cons, List.length_append, List.length_cons]
          omega
      have hl2 : p.length < xs.length := by rw [hx]; simp
      refine ⟨_, _, hs x hm _ (by omega), by simp, rfl⟩) (a := []) (s := st) ⟨rfl, rfl⟩
  exact e
end
theorem fin_val {s : Sto} {d : D} (h : bd 0 d = true) : fin false 0 d s = .ok d [] := by
  unfold fin
  rw [Nat.ble_eq_true_of_le (Nat.zero_le _)]
  cases hs : s.length == 0 with
  | true =>
    have : s = [] := List.length_eq_zero_iff.mp (by simpa using hs)
    subst this; rfl
  | false =>
    rw [show (s.take 0).all (bdS 0) = true from rfl, frz_id h (by omega)]
    rfl
theorem fin_pair {s : Sto} {j : Nat} {so : SO} {a : D} (e : s[j]? = some so) (hb : bdS 0 so = true) (ha : bd 0 a = true) : fin false 0 (.tup [a, .ref j]) s = .ok (.tup [a, ofSO so]) [] := by
  have hz := szO_get e
  have hl : 0 < s.length := by
    have := (List.getElem?_eq_some_iff.mp e).1
    omega
  have h1 : frzV 0 (s.drop 0) (szO (s.drop 0) + szD (.tup [a, .ref j]) + 1) (.tup [a, .ref j]) = some (.tup [a, ofSO so]) := by
    have hsz : szD (.tup [a, .ref j]) = szD a + 5 := by simp [szD, szDs]
    rw [hsz, List.drop_zero]
    have f1 : frzV 0 s (szO s + szD a + 4) a = some a := frz_id ha (by omega)
    have f2 : frzV 0 s (szO s + szD a + 2 + 1) (.ref (0 + j)) = some (ofSO so) := frz_ref e (by omega) hb
    rw [Nat.zero_add] at f2
    show (frzVs 0 s (szO s + szD a + 5) [a, .ref j]).map D.tup = _
    unfold frzVs
    rw [f1]
    unfold frzVs
    rw [f2]
    unfold frzVs
    rfl
  unfold fin
  rw [Nat.ble_eq_true_of_le (Nat.zero_le _), show (s.length == 0) = false by simp; intro h; rw [h] at hl; simp at hl, h1]
  rfl
section
variable {T : Str → Option Ent} {sub : Str → Str → Bool} {efs : Str → List Str} {wf : Nat}
theorem run_own {n np N : Nat} {q : Str} {C : Str} {b : CSs} {ds : List D} {d : D} (st : Sto) (hT : T q = some (.fn (some C) np N false b)) (hb : bds 0 ds = true) (hl : ds.length = np) (ho : ownB (some C) ds [] = true) (h : evSs (evF T sub efs wf n) sub efs wf b (ds.map some ++ List.replicate (N - np) none) [] = .rt d []) (hd : bd 0 d = true) : evF T sub efs wf (n + 1) q ds st = .ok d st := by
  have he : ev0 T sub efs wf (evF T sub efs wf n) q ds [] = .ok d [] := by
    unfold ev0
    rw [hT]
    simp only [hl, beq_self_eq_true, ho, Bool.and_self, List.length_nil]
    rw [h]
    rfl
  unfold evF
  rw [hb, hT]
  show frame st (ev0 T sub efs wf (evF T sub efs wf n) q ds []) = _
  rw [he]
  show (if bd 0 d then Res.ok d st else .bad) = _
  rw [if_pos hd]
theorem run_plx {n np N : Nat} {keep : Bool} {q : Str} {b : CSs} {ds : List D} {C : Str} {fs : List Str} {xs : List D} {st : Sto} (hT : T q = some (.fn none np N keep b)) (hb : bds 0 ds = false ∨ keep = true) (hl : ds.length = np) (h : ∃ e, evSs (evF T sub efs wf n) sub efs wf b (ds.map some ++ List.replicate (N - np) none) st = .ex e C fs xs st) : evF T sub efs wf (n + 1) q ds st = .exc C fs xs st := by
  obtain ⟨e, h⟩ := h
  unfold evF
  have hc : (bds 0 ds && Ent.loose (T q)) = false := by
    rw [hT]
    rcases hb with hb | rfl
    · rw [hb]; rfl
    · show (_ && !true) = false
      simp
  rw [hc]
  show ev0 T sub efs wf (evF T sub efs wf n) q ds st = _
  unfold ev0
  rw [hT]
  simp only [hl, beq_self_eq_true, ownB, Bool.and_self]
  rw [h]
  show finX st.length C fs xs st = _
  unfold finX
  rw [Nat.ble_eq_true_of_le (Nat.le_refl _)]
  simp
end
theorem asSK_tup (st : Sto) (xs : List D) : asSK st (.tup xs) = some xs := rfl
theorem asSK_lst (st : Sto) (xs : List D) : asSK st (.lst xs) = some xs := rfl
theorem nc0 : ((0 : Nat) : Int) = 0 := rfl
theorem nc1 : ((1 : Nat) : Int) = 1 := rfl
theorem nc2 : ((2 : Nat) : Int) = 2 := rfl
theorem nc3 : ((3 : Nat) : Int) = 3 := rfl
theorem nc4 : ((4 : Nat) : Int) = 4 := rfl
theorem nc5 : ((5 : Nat) : Int) = 5 := rfl
theorem nc6 : ((6 : Nat) : Int) = 6 := rfl
theorem nc7 : ((7 : Nat) : Int) = 7 := rfl
theorem nc8 : ((8 : Nat) : Int) = 8 := rfl
theorem nc9 : ((9 : Nat) : Int) = 9 := rfl
theorem fin_lpair {s : Sto} {j : Nat} {so : SO} {b : D} (e : s[j]? = some so) (hb : bdS 0 so = true) (hb2 : bd 0 b = true) : fin false 0 (.lst [.ref j, b]) s = .ok (.lst [ofSO so, b]) [] := by
  have hz := szO_get e
  have hl : 0 < s.length := by
    have := (List.getElem?_eq_some_iff.mp e).1
    omega
  have h1 : frzV 0 (s.drop 0) (szO (s.drop 0) + szD (.lst [.ref j, b]) + 1) (.lst [.ref j, b]) = some (.lst [ofSO so, b]) := by
    have hsz : szD (.lst [.ref j, b]) = szD b + 5 := by simp [szD, szDs]; omega
    rw [hsz, List.drop_zero]
    have f1 : frzV 0 s (szO s + szD b + 3) b = some b := frz_id hb2 (by omega)
    have f2 : frzV 0 s (szO s + szD b + 3 + 1) (.ref (0 + j)) = some (ofSO so) := frz_ref e (by omega) hb
    rw [Nat.zero_add] at f2
    show (frzVs 0 s (szO s + szD b + 5) [.ref j, b]).map D.lst = _
    unfold frzVs
    rw [f2]
    unfold frzVs
    rw [f1]
    unfold frzVs
    rfl
  unfold fin
  rw [Nat.ble_eq_true_of_le (Nat.zero_le _), show (s.length == 0) = false by simp; intro h; rw [h] at hl; simp at hl, h1]
  rfl
theorem rng_zipIdx {α : Type} (ps : List α) : rngD 0 (ps.length : Int) = ps.zipIdx.map fun p => D.int (p.2 : Int) := by
  apply List.ext_getElem?
  intro i
  unfold rngD
  rw [List.getElem?_map, List.getElem?_map, List.getElem?_zipIdx]
  simp only [Int.sub_zero, Int.toNat_natCast]
  by_cases h : i < ps.length
  · rw [List.getElem?_range h, List.getElem?_eq_getElem h]; simp
  · rw [List.getElem?_eq_none (by simpa using h), List.getElem?_eq_none (by simpa using h)]; rfl
theorem zipIdx_at {α : Type} {ps : List α} {p q : List (α × Nat)} {x : α × Nat} (h : ps.zipIdx = p ++ x :: q) : x.2 = p.length ∧ ps[p.length]? = some x.1 ∧ p.length < ps.length := by
  have h1 : ps.zipIdx[p.length]? = some x := by rw [h]; simp
  rw [List.getElem?_zipIdx] at h1
  obtain ⟨y, hy, e⟩ := Option.map_eq_some_iff.mp h1
  rw [← e]
  exact ⟨by simp, hy, (List.getElem?_eq_some_iff.mp hy).1⟩
theorem zipIdx_fst {α : Type} (ps : List α) (k : Nat) : (ps.zipIdx k).map (·.1) = ps := by
  induction ps generalizing k with
  | nil => rfl
  | cons x r ih => rw [List.zipIdx_cons, List.map_cons, ih]
theorem evI_rng {call : Str → List D → Sto → Res D} {sub : Str → Str → Bool} {a b : CE} {env : Env} {st s1 s2 : Sto} {i j : Int} (ha : evE call sub a env st = .ok (.int i) s1) (hb : evE call sub b env s1 = .ok (.int j) s2) (h1 : -1000000000 < i) (h2 : i < 1000000000) (h3 : -1000000000 < j) (h4 : j < 1000000000) : evI call sub (.rng a b) env st = .ok (rngD i j, fun _ => true) s2 := by
  have q1 : (decide (-(2 ^ 62) ≤ i) && decide (i < 2 ^ 62) && decide (-(2 ^ 62) ≤ j) && decide (j < 2 ^ 62)) = true := by
    simp only [Bool.and_eq_true, decide_eq_true_eq]
    omega
  unfold evI
  rw [ha, bind_ok, hb, bind_ok]
  simp only
  rw [if_pos q1]
theorem flatMap1 {α β : Type} (f : α → β) : ∀ xs : List α, (xs.flatMap fun x => [f x]) = xs.map f
  | [] => rfl
  | x :: r => by rw [List.flatMap_cons, flatMap1 f r]; rfl
end Mini
end
namespace Law
open PySem L2 PySem.Spec PyProof.Rows Mini NdefX
def topS (i : Nat) : Stmt := PySem.Challenge.pw_statusbytes_k05_lines_refused.main.body.getD i (.Pass ⟨0, 0, 0, 0⟩)
def fe (x : String) (l n : Nat) : Str × FI := (Str.ofString x, { lvl := l, np := n })
def fk (x : String) (l n : Nat) (k : String) (d : D) : Str × FI := (Str.ofString x, { lvl := l, np := n, kw := some (Str.ofString k, d) })
def PIc0 : List (Str × D) := [("LETTERS", .tup [.str "a", .str "b", .str "c"]),
    ("MOST_COUNT", .int 2),
    ("MOST_EVERY", .int 3),
    ("TALKS", .tup [.str "clears", .str "keeps"]),
    ("ENDS", .tup [.str "any", .str "own"]),
    ("SAY", .str "say"),
    ("TALK", .str "talk"),
    ("AGAIN", .str "again"),
    ("BARE", .tup [.str "calm", .str "short", .str "thin"]),
    ("NAMED", .tup [.str "cut", .str "drop"]),
    ("MOST_BOXES", .int 3),
    ("TROUBLES", .tup [.str "amid", .str "fold", .str "join", .str "lose", .str "none"]),
    ("LOSE", .str "lose"),
    ("DOUBLE", .tup [.str "fold", .str "join"]),
    ("LOSING", .tup [.str "amid", .str "lose"]),
    ("GO", .str "go"),
    ("WORRY", .str "urgent")]
def PIf0 : List (Str × FI) := [fe "is_integer" 2 1,
    fe "is_from" 3 3,
    fe "is_one_of" 2 2,
    fe "check_every" 4 1,
    fe "is_box" 4 2,
    fe "check_boxes" 5 2,
    fe "is_like" 3 2,
    fe "senders_of" 2 1,
    fe "steps_of" 3 1,
    fe "all_steps" 4 1,
    fe "_law_draws" 2 1,
    fe "_law_pick" 2 2,
    fe "_law_kinds" 2 1,
    fe "_law_box_drawn" 3 2,
    fe "_law_drawn" 4 3,
    fe "_law_speech" 6 1,
    fe "_law_made" 8 1,
    fe "_law_steps" 3 1,
    fe "_law_told" 9 1]
def PI : PInfo where
  consts := PIc0
  funs := PIf0
  makes := [fe "Speech" 5 3, fe "Line" 7 4]
  props := [("counts", "Speech.counts", 3), ("talk", "Speech.talk", 3), ("end", "Speech.end", 3), ("speech", "Line.speech", 3), ("every", "Line.every", 3), ("trouble", "Line.trouble", 3), ("boxes", "Line.boxes", 3)]
  meths := []
  excs := [("SpeechError", 99), ("BadCounts", 0), ("BadTalk", 0), ("BadEnd", 0), ("BadEvery", 0), ("BadBox", 1), ("BadTrouble", 0)]
  clss := ["Speech", "Line"]
  eqs := [("Speech", 2), ("Line", 5)]
  flds := ["many", "after_talk", "talk_end", "voice", "repeats", "worry", "rank"]
  xflds := ["index"]

def ir_is_integer : CSs := (.cons (.ret (.and_ (.isi (.var 0) [.int]) (.not_ (.isi (.var 0) [.bool])))) .nil)
def d_is_integer : MD := ⟨"is_integer", none, "is_integer", false, "is_integer", L2.defArgs (topS 16), L2.defBody (topS 16), L2.defScope (topS 16), ["value"], ["value"], 1, [], false, ir_is_integer, none⟩
def ir_is_from : CSs := (.cons (.ret (.and_ (.call "is_integer" (.cons (.var 0) .nil)) (.chn .le .le (.var 1) (.var 0) (.var 2)))) .nil)
def d_is_from : MD := ⟨"is_from", none, "is_from", false, "is_from", L2.defArgs (topS 17), L2.defBody (topS 17), L2.defScope (topS 17), ["value", "low", "high"], ["value", "low", "high"], 2, [], false, ir_is_from, none⟩
def ir_is_one_of : CSs := (.cons (.ret (.and_ (.isi (.var 0) [.str]) (.cmp [] .in_ (.var 0) (.var 1)))) .nil)
def d_is_one_of : MD := ⟨"is_one_of", none, "is_one_of", false, "is_one_of", L2.defArgs (topS 18), L2.defBody (topS 18), L2.defScope (topS 18), ["value", "some"], ["value", "some"], 1, [], false, ir_is_one_of, none⟩
def ir_Speech___init___b1 : CE := (.call "is_from" (.cons (.var 4) (.cons (.cst (.int (1))) (.cons (.glb "MOST_COUNT" (.int (2))) .nil))))
def ir_Speech___init___b2 : CE := (.idx (.glb "LETTERS" (.tup [(.str "a"), (.str "b"), (.str "c")])) (.var 5))
def ir_Speech___init___b3 : CE := (.var 4)
def ir_Speech___init__ : CSs := (.cons (.iff (.or_ (.not_ (.isi (.var 1) [.tuple])) (.not_ (.chn .le .le (.cst (.int (1))) (.bi false .len (.cons (.var 1) .nil)) (.bi false .len (.cons (.glb "LETTERS" (.tup [(.str "a"), (.str "b"), (.str "c")])) .nil))))) (.cons (.raise "BadCounts" .nil) .nil) .nil) (.cons (.iff (.not_ (.bi false .all (.cons (.comp false [4] (.name 4) (.val (.var 1)) (.cst (.bl true)) ir_Speech___init___b1) .nil))) (.cons (.raise "BadCounts" .nil) .nil) .nil) (.cons (.iff (.not_ (.call "is_one_of" (.cons (.var 2) (.cons (.glb "TALKS" (.tup [(.str "clears"), (.str "keeps")])) .nil)))) (.cons (.raise "BadTalk" .nil) .nil) .nil) (.cons (.iff (.not_ (.call "is_one_of" (.cons (.var 3) (.cons (.glb "ENDS" (.tup [(.str "any"), (.str "own")])) .nil)))) (.cons (.raise "BadEnd" .nil) .nil) .nil) (.cons (.asg (.fld (.var 0) "many") (.dcomp false [5, 4] (.tup (.cons (.name 5) (.cons (.name 4) .nil))) (.enm (.var 1)) ir_Speech___init___b2 ir_Speech___init___b3)) (.cons (.asg (.fld (.var 0) "after_talk") (.var 2)) (.cons (.asg (.fld (.var 0) "talk_end") (.var 3)) .nil)))))))
def d_Speech___init__ : MD := ⟨"Speech.__init__", (some "Speech"), "__init__", false, "Speech.__init__", L2.defArgs (L2.inClass (topS 19) 0), L2.defBody (L2.inClass (topS 19) 0), L2.defScope (L2.inClass (topS 19) 0), ["self", "counts", "talk", "end", "count", "index"], ["self", "counts", "talk", "end"], 3, [], false, ir_Speech___init__, none⟩
def ir_Speech_counts : CSs := (.cons (.ret (.bi false .vals (.cons (.fld (.var 0) "many") .nil))) .nil)
def d_Speech_counts : MD := ⟨"Speech.counts", (some "Speech"), "counts", true, "Speech.counts", L2.defArgs (L2.inClass (topS 19) 1), L2.defBody (L2.inClass (topS 19) 1), L2.defScope (L2.inClass (topS 19) 1), ["self"], ["self"], 1, [], false, ir_Speech_counts, none⟩
def ir_Speech_talk : CSs := (.cons (.ret (.fld (.var 0) "after_talk")) .nil)
def d_Speech_talk : MD := ⟨"Speech.talk", (some "Speech"), "talk", true, "Speech.talk", L2.defArgs (L2.inClass (topS 19) 2), L2.defBody (L2.inClass (topS 19) 2), L2.defScope (L2.inClass (topS 19) 2), ["self"], ["self"], 1, [], false, ir_Speech_talk, none⟩
def ir_Speech_end : CSs := (.cons (.ret (.fld (.var 0) "talk_end")) .nil)
def d_Speech_end : MD := ⟨"Speech.end", (some "Speech"), "end", true, "Speech.end", L2.defArgs (L2.inClass (topS 19) 3), L2.defBody (L2.inClass (topS 19) 3), L2.defScope (L2.inClass (topS 19) 3), ["self"], ["self"], 1, [], false, ir_Speech_end, none⟩
def ir_Speech___eq__ : CSs := (.cons (.iff (.or_ (.not_ (.isi (.var 1) [(.own "Speech")])) (.cmp [] .ne (.fld (.var 0) "many") (.fld (.var 1) "many"))) (.cons (.ret (.cst (.bl false))) .nil) .nil) (.cons (.ret (.and_ (.cmp [] .eq (.fld (.var 0) "after_talk") (.fld (.var 1) "after_talk")) (.cmp [] .eq (.fld (.var 0) "talk_end") (.fld (.var 1) "talk_end")))) .nil))
def d_Speech___eq__ : MD := ⟨"Speech.__eq__", (some "Speech"), "__eq__", false, "Speech.__eq__", L2.defArgs (L2.inClass (topS 19) 4), L2.defBody (L2.inClass (topS 19) 4), L2.defScope (L2.inClass (topS 19) 4), ["self", "other"], ["self", "other"], 0, [], false, ir_Speech___eq__, none⟩
def ir_check_every : CSs := (.cons (.iff (.not_ (.call "is_from" (.cons (.var 0) (.cons (.cst (.int (0))) (.cons (.glb "MOST_EVERY" (.int (3))) .nil))))) (.cons (.raise "BadEvery" .nil) .nil) .nil) .nil)
def d_check_every : MD := ⟨"check_every", none, "check_every", false, "check_every", L2.defArgs (topS 20), L2.defBody (topS 20), L2.defScope (topS 20), ["every"], ["every"], 3, [], false, ir_check_every, none⟩
def ir_is_box : CSs := (.cons (.iff (.or_ (.not_ (.isi (.var 1) [.tuple])) (.cmp ["Speech"] .eq (.bi false .len (.cons (.var 1) .nil)) (.cst (.int (0))))) (.cons (.ret (.cst (.bl false))) .nil) .nil) (.cons (.iff (.call "is_one_of" (.cons (.idx (.var 1) (.cst (.int (0)))) (.cons (.glb "BARE" (.tup [(.str "calm"), (.str "short"), (.str "thin")])) .nil))) (.cons (.ret (.cmp ["Speech"] .eq (.bi false .len (.cons (.var 1) .nil)) (.cst (.int (1))))) .nil) .nil) (.cons (.iff (.call "is_one_of" (.cons (.idx (.var 1) (.cst (.int (0)))) (.cons (.glb "NAMED" (.tup [(.str "cut"), (.str "drop")])) .nil))) (.cons (.ret (.and_ (.cmp ["Speech"] .eq (.bi false .len (.cons (.var 1) .nil)) (.cst (.int (2)))) (.call "is_one_of" (.cons (.idx (.var 1) (.cst (.int (1)))) (.cons (.fld (.var 0) "many") .nil))))) .nil) .nil) (.cons (.ret (.and_ (.call "is_one_of" (.cons (.idx (.var 1) (.cst (.int (0)))) (.cons (.tup (.cons (.glb "AGAIN" (.str "again")) .nil)) .nil))) (.and_ (.cmp ["Speech"] .eq (.bi false .len (.cons (.var 1) .nil)) (.cst (.int (2)))) (.call "is_from" (.cons (.idx (.var 1) (.cst (.int (1)))) (.cons (.cst (.int (1))) (.cons (.glb "MOST_EVERY" (.int (3))) .nil))))))) .nil))))
def d_is_box : MD := ⟨"is_box", none, "is_box", false, "is_box", L2.defArgs (topS 25), L2.defBody (topS 25), L2.defScope (topS 25), ["speech", "value"], ["speech", "value"], 3, [], false, ir_is_box, none⟩
def ir_check_boxes_b1 : CSs := (.cons (.iff (.not_ (.call "is_box" (.cons (.var 0) (.cons (.var 3) .nil)))) (.cons (.raise "BadBox" (.cons (.var 2) .nil)) .nil) .nil) .nil)
def ir_check_boxes : CSs := (.cons (.forr (.tup (.cons (.name 2) (.cons (.name 3) .nil))) (.enm (.var 1)) ir_check_boxes_b1) .nil)
def d_check_boxes : MD := ⟨"check_boxes", none, "check_boxes", false, "check_boxes", L2.defArgs (topS 26), L2.defBody (topS 26), L2.defScope (topS 26), ["speech", "boxes", "index", "box"], ["speech", "boxes"], 4, [], false, ir_check_boxes, none⟩
def ir_Line___init__ : CSs := (.cons (.exp (.call "check_every" (.cons (.var 2) .nil))) (.cons (.iff (.not_ (.call "is_one_of" (.cons (.var 3) (.cons (.glb "TROUBLES" (.tup [(.str "amid"), (.str "fold"), (.str "join"), (.str "lose"), (.str "none")])) .nil)))) (.cons (.raise "BadTrouble" .nil) .nil) .nil) (.cons (.iff (.or_ (.not_ (.isi (.var 4) [.tuple])) (.cmp ["Speech", "Line"] .gt (.bi false .len (.cons (.var 4) .nil)) (.glb "MOST_BOXES" (.int (3))))) (.cons (.raise "BadBox" (.cons (.cst .non) .nil)) .nil) .nil) (.cons (.exp (.call "check_boxes" (.cons (.var 1) (.cons (.var 4) .nil)))) (.cons (.asg (.fld (.var 0) "voice") (.var 1)) (.cons (.asg (.fld (.var 0) "repeats") (.var 2)) (.cons (.asg (.fld (.var 0) "worry") (.var 3)) (.cons (.asg (.fld (.var 0) "rank") (.var 4)) .nil))))))))
def d_Line___init__ : MD := ⟨"Line.__init__", (some "Line"), "__init__", false, "Line.__init__", L2.defArgs (L2.inClass (topS 35) 0), L2.defBody (L2.inClass (topS 35) 0), L2.defScope (L2.inClass (topS 35) 0), ["self", "speech", "every", "trouble", "boxes"], ["self", "speech", "every", "trouble", "boxes"], 5, [], false, ir_Line___init__, none⟩
def ir_Line_speech : CSs := (.cons (.ret (.fld (.var 0) "voice")) .nil)
def d_Line_speech : MD := ⟨"Line.speech", (some "Line"), "speech", true, "Line.speech", L2.defArgs (L2.inClass (topS 35) 1), L2.defBody (L2.inClass (topS 35) 1), L2.defScope (L2.inClass (topS 35) 1), ["self"], ["self"], 1, [], false, ir_Line_speech, none⟩
def ir_Line_every : CSs := (.cons (.ret (.fld (.var 0) "repeats")) .nil)
def d_Line_every : MD := ⟨"Line.every", (some "Line"), "every", true, "Line.every", L2.defArgs (L2.inClass (topS 35) 2), L2.defBody (L2.inClass (topS 35) 2), L2.defScope (L2.inClass (topS 35) 2), ["self"], ["self"], 1, [], false, ir_Line_every, none⟩
def ir_Line_trouble : CSs := (.cons (.ret (.fld (.var 0) "worry")) .nil)
def d_Line_trouble : MD := ⟨"Line.trouble", (some "Line"), "trouble", true, "Line.trouble", L2.defArgs (L2.inClass (topS 35) 3), L2.defBody (L2.inClass (topS 35) 3), L2.defScope (L2.inClass (topS 35) 3), ["self"], ["self"], 1, [], false, ir_Line_trouble, none⟩
def ir_Line_boxes : CSs := (.cons (.ret (.fld (.var 0) "rank")) .nil)
def d_Line_boxes : MD := ⟨"Line.boxes", (some "Line"), "boxes", true, "Line.boxes", L2.defArgs (L2.inClass (topS 35) 4), L2.defBody (L2.inClass (topS 35) 4), L2.defScope (L2.inClass (topS 35) 4), ["self"], ["self"], 1, [], false, ir_Line_boxes, none⟩
def ir_Line___eq__ : CSs := (.cons (.ret (.and_ (.isi (.var 1) [(.own "Line")]) (.and_ (.cmp ["Speech"] .eq (.fld (.var 0) "rank") (.fld (.var 1) "rank")) (.call "is_like" (.cons (.var 0) (.cons (.var 1) .nil)))))) .nil)
def d_Line___eq__ : MD := ⟨"Line.__eq__", (some "Line"), "__eq__", false, "Line.__eq__", L2.defArgs (L2.inClass (topS 35) 5), L2.defBody (L2.inClass (topS 35) 5), L2.defScope (L2.inClass (topS 35) 5), ["self", "other"], ["self", "other"], 3, [], false, ir_Line___eq__, none⟩
def ir_is_like : CSs := (.cons (.ret (.and_ (.cmp ["Speech"] .eq (.fld (.var 0) "voice") (.fld (.var 1) "voice")) (.and_ (.cmp ["Speech"] .eq (.fld (.var 0) "repeats") (.fld (.var 1) "repeats")) (.cmp ["Speech"] .eq (.fld (.var 0) "worry") (.fld (.var 1) "worry"))))) .nil)
def d_is_like : MD := ⟨"is_like", none, "is_like", false, "is_like", L2.defArgs (topS 36), L2.defBody (topS 36), L2.defScope (topS 36), ["one", "other"], ["one", "other"], 2, [], false, ir_is_like, none⟩
def ir_senders_of : CSs := (.cons (.ret (.ite (.cmp [] .in_ (.fld (.var 0) "worry") (.glb "DOUBLE" (.tup [(.str "fold"), (.str "join")]))) (.tup (.cons (.cst (.int (0))) (.cons (.cst (.int (1))) .nil))) (.tup (.cons (.cst (.int (0))) .nil)))) .nil)
def d_senders_of : MD := ⟨"senders_of", none, "senders_of", false, "senders_of", L2.defArgs (topS 37), L2.defBody (topS 37), L2.defScope (topS 37), ["line"], ["line"], 1, [], false, ir_senders_of, none⟩
def ir_steps_of_b1 : CE := (.tup (.cons (.glb "GO" (.str "go")) (.cons (.var 4) .nil)))
def ir_steps_of_b2 : CE := (.tup (.cons (.glb "SAY" (.str "say")) (.cons (.var 4) (.cons (.var 5) .nil))))
def ir_steps_of : CSs := (.cons (.asg (.tup (.cons (.name 1) (.cons (.name 2) .nil))) (.tup (.cons (.call "senders_of" (.cons (.var 0) .nil)) (.cons (.lst false (.star (.fld (.fld (.var 0) "voice") "many") (.cons (.glb "TALK" (.str "talk")) .nil))) .nil)))) (.cons (.asg (.name 3) (.bin false .add (.comp false [4] (.name 4) (.val (.var 1)) (.cst (.bl true)) ir_steps_of_b1) (.ite (.cmp ["Speech"] .in_ (.fld (.var 0) "worry") (.glb "LOSING" (.tup [(.str "amid"), (.str "lose")]))) (.lst false (.cons (.tup (.cons (.glb "LOSE" (.str "lose")) .nil)) .nil)) (.lst false .nil)))) (.cons (.ret (.bi true .sorted (.cons (.bin false .add (.bin false .add (.var 3) (.comp2 false [4, 5] [5] (.name 4) (.val (.var 1)) (.name 5) (.val (.var 2)) ir_steps_of_b2)) (.lst false (.cons (.tup (.cons (.glb "WORRY" (.str "urgent")) .nil)) .nil))) .nil))) .nil)))
def d_steps_of : MD := ⟨"steps_of", none, "steps_of", false, "steps_of", L2.defArgs (topS 38), L2.defBody (topS 38), L2.defScope (topS 38), ["line", "whos", "kinds", "found", "who", "kind"], ["line"], 2, [], true, ir_steps_of, none⟩
def ir_all_steps : CSs := (.cons (.ret (.call "steps_of" (.cons (.var 0) .nil))) .nil)
def d_all_steps : MD := ⟨"all_steps", none, "all_steps", false, "all_steps", L2.defArgs (topS 39), L2.defBody (topS 39), L2.defScope (topS 39), ["line"], ["line"], 3, [], true, ir_all_steps, none⟩
def ir__law_draws : CSs := (.cons (.ret (.lst true (.cons (.bi false .list (.cons (.var 0) .nil)) (.cons (.cst (.int (0))) (.cons (.cst (.int (0))) (.cons (.cst (.int (7))) .nil)))))) .nil)
def d__law_draws : MD := ⟨"_law_draws", none, "_law_draws", false, "_law_draws", L2.defArgs (topS 41), L2.defBody (topS 41), L2.defScope (topS 41), ["_law_script"], ["_law_script"], 1, [], true, ir__law_draws, none⟩
def ir__law_pick : CSs := (.cons (.iff (.cmp [] .eq (.idx (.var 0) (.cst (.int (2)))) (.cst (.int (0)))) (.cons (.iff (.cmp [] .lt (.idx (.var 0) (.cst (.int (1)))) (.bi false .len (.cons (.idx (.var 0) (.cst (.int (0)))) .nil))) (.cons (.asg (.name 2) (.idx (.idx (.var 0) (.cst (.int (0)))) (.idx (.var 0) (.cst (.int (1)))))) (.cons (.asg (.sub (.var 0) (.cst (.int (1)))) (.bin false .add (.idx (.var 0) (.cst (.int (1)))) (.cst (.int (1))))) (.cons (.iff (.cmp [] .ge (.var 2) (.bin false .pow (.cst (.int (10))) (.cst (.int (18))))) (.cons (.asg (.sub (.var 0) (.cst (.int (2)))) (.var 2)) .nil) (.cons (.asg (.sub (.var 0) (.cst (.int (3)))) (.bin false .mod (.bi false .int (.cons (.bin false .add (.bin false .add (.bin false .mul (.idx (.var 0) (.cst (.int (3)))) (.cst (.int (48271)))) (.bin false .mul (.var 2) (.cst (.int (69621))))) (.cst (.int (11)))) .nil)) (.cst (.int (2147483647))))) .nil)) .nil))) (.cons (.asg (.sub (.var 0) (.cst (.int (3)))) (.bin false .mod (.bi false .int (.cons (.bin false .add (.bin false .mul (.idx (.var 0) (.cst (.int (3)))) (.cst (.int (48271)))) (.cst (.int (7)))) .nil)) (.cst (.int (2147483647))))) .nil)) .nil) .nil) (.cons (.iff (.cmp [] .gt (.idx (.var 0) (.cst (.int (2)))) (.cst (.int (0)))) (.cons (.asg (.name 3) (.bin false .mod (.bi false .int (.cons (.idx (.var 0) (.cst (.int (2)))) .nil)) (.var 1))) (.cons (.asg (.sub (.var 0) (.cst (.int (2)))) (.bin false .fdiv (.idx (.var 0) (.cst (.int (2)))) (.var 1))) (.cons (.ret (.var 3)) .nil))) .nil) (.cons (.ret (.bin false .mod (.bin false .mod (.bi false .int (.cons (.bin false .mul (.idx (.var 0) (.cst (.int (3)))) (.cst (.int (16807)))) .nil)) (.cst (.int (2147483629)))) (.var 1))) .nil)))
def d__law_pick : MD := ⟨"_law_pick", none, "_law_pick", false, "_law_pick", L2.defArgs (topS 42), L2.defBody (topS 42), L2.defScope (topS 42), ["_law_row", "_law_many", "_law_cell", "_law_found"], ["_law_row", "_law_many"], 1, ["_law_row"], false, ir__law_pick, none⟩
def ir__law_kinds : CSs := (.cons (.ret (.slc false (.lst false (.cons (.cst (.str "a")) (.cons (.cst (.str "b")) (.cons (.cst (.str "c")) .nil)))) .noe (.bi false .len (.cons (.idx (.var 0) (.cst (.str "counts"))) .nil)))) .nil)
def d__law_kinds : MD := ⟨"_law_kinds", none, "_law_kinds", false, "_law_kinds", L2.defArgs (topS 43), L2.defBody (topS 43), L2.defScope (topS 43), ["_law_t"], ["_law_t"], 1, [], false, ir__law_kinds, none⟩
def ir__law_box_drawn : CSs := (.cons (.asg (.name 2) (.call "_law_kinds" (.cons (.var 1) .nil))) (.cons (.asg (.tup (.cons (.name 3) (.cons (.name 4) .nil))) (.tup (.cons (.call "_law_pick" (.cons (.var 0) (.cons (.cst (.int (6))) .nil))) (.cons (.idx (.var 2) (.call "_law_pick" (.cons (.var 0) (.cons (.bi false .len (.cons (.var 2) .nil)) .nil)))) .nil)))) (.cons (.ret (.idx (.lst false (.cons (.tup (.cons (.cst (.str "calm")) .nil)) (.cons (.tup (.cons (.cst (.str "short")) .nil)) (.cons (.tup (.cons (.cst (.str "thin")) .nil)) (.cons (.tup (.cons (.cst (.str "cut")) (.cons (.var 4) .nil))) (.cons (.tup (.cons (.cst (.str "drop")) (.cons (.var 4) .nil))) (.cons (.tup (.cons (.cst (.str "again")) (.cons (.bin false .add (.cst (.int (1))) (.call "_law_pick" (.cons (.var 0) (.cons (.cst (.int (3))) .nil)))) .nil))) .nil))))))) (.var 3))) .nil)))
def d__law_box_drawn : MD := ⟨"_law_box_drawn", none, "_law_box_drawn", false, "_law_box_drawn", L2.defArgs (topS 44), L2.defBody (topS 44), L2.defScope (topS 44), ["_law_row", "_law_t", "_law_kinds_here", "_law_turn_of", "_law_kind"], ["_law_row", "_law_t"], 2, [], false, ir__law_box_drawn, none⟩
def ir__law_drawn_b1 : CE := (.bin false .add (.cst (.int (1))) (.call "_law_pick" (.cons (.var 0) (.cons (.cst (.int (2))) .nil))))
def ir__law_drawn_b2 : CE := (.call "_law_box_drawn" (.cons (.var 0) (.cons (.var 3) .nil)))
def ir__law_drawn : CSs := (.cons (.asg (.name 3) (.dct true (.cons (.cst (.str "counts")) (.cons (.bi false .tuple (.cons (.comp false [4] (.name 4) (.rng (.cst (.int (0))) (.bin false .add (.cst (.int (1))) (.call "_law_pick" (.cons (.var 0) (.cons (.var 1) .nil))))) (.cst (.bl true)) ir__law_drawn_b1) .nil)) .nil)))) (.cons (.asg (.tup (.cons (.sub (.var 3) (.cst (.str "talk"))) (.cons (.sub (.var 3) (.cst (.str "end"))) .nil))) (.tup (.cons (.idx (.lst false (.cons (.cst (.str "clears")) (.cons (.cst (.str "keeps")) .nil))) (.call "_law_pick" (.cons (.var 0) (.cons (.cst (.int (2))) .nil)))) (.cons (.idx (.lst false (.cons (.cst (.str "any")) (.cons (.cst (.str "own")) .nil))) (.call "_law_pick" (.cons (.var 0) (.cons (.cst (.int (2))) .nil)))) .nil)))) (.cons (.asg (.sub (.var 3) (.cst (.str "every"))) (.call "_law_pick" (.cons (.var 0) (.cons (.cst (.int (4))) .nil)))) (.cons (.asg (.sub (.var 3) (.cst (.str "trouble"))) (.idx (.lst false (.cons (.cst (.str "none")) (.cons (.cst (.str "lose")) (.cons (.cst (.str "amid")) (.cons (.cst (.str "join")) (.cons (.cst (.str "fold")) .nil)))))) (.call "_law_pick" (.cons (.var 0) (.cons (.cst (.int (5))) .nil))))) (.cons (.asg (.sub (.var 3) (.cst (.str "boxes"))) (.bi false .tuple (.cons (.comp false [4] (.name 4) (.rng (.cst (.int (0))) (.call "_law_pick" (.cons (.var 0) (.cons (.bin false .add (.var 2) (.cst (.int (1)))) .nil)))) (.cst (.bl true)) ir__law_drawn_b2) .nil))) (.cons (.ret (.var 3)) .nil))))))
def d__law_drawn : MD := ⟨"_law_drawn", none, "_law_drawn", false, "_law_drawn", L2.defArgs (topS 45), L2.defBody (topS 45), L2.defScope (topS 45), ["_law_row", "_law_many", "_law_boxes", "_law_t", "_law_k"], ["_law_row", "_law_many", "_law_boxes"], 3, ["_law_t"], false, ir__law_drawn, none⟩
def ir__law_speech : CSs := (.cons (.ret (.make "Speech" (.cons (.idx (.var 0) (.cst (.str "counts"))) (.cons (.idx (.var 0) (.cst (.str "talk"))) (.cons (.idx (.var 0) (.cst (.str "end"))) .nil))))) .nil)
def d__law_speech : MD := ⟨"_law_speech", none, "_law_speech", false, "_law_speech", L2.defArgs (topS 46), L2.defBody (topS 46), L2.defScope (topS 46), ["_law_t"], ["_law_t"], 5, [], false, ir__law_speech, none⟩
def ir__law_made : CSs := (.cons (.ret (.make "Line" (.cons (.call "_law_speech" (.cons (.var 0) .nil)) (.cons (.idx (.var 0) (.cst (.str "every"))) (.cons (.idx (.var 0) (.cst (.str "trouble"))) (.cons (.idx (.var 0) (.cst (.str "boxes"))) .nil)))))) .nil)
def d__law_made : MD := ⟨"_law_made", none, "_law_made", false, "_law_made", L2.defArgs (topS 47), L2.defBody (topS 47), L2.defScope (topS 47), ["_law_t"], ["_law_t"], 7, [], false, ir__law_made, none⟩
def ir__law_steps_b1 : CE := (.tup (.cons (.cst (.str "go")) (.cons (.var 4) .nil)))
def ir__law_steps_b2 : CE := (.tup (.cons (.cst (.str "say")) (.cons (.var 4) (.cons (.var 5) .nil))))
def ir__law_steps_b3 : CSs := (.cons (.asg (.name 3) (.bin false .add (.var 3) (.comp false [5] (.name 5) (.val (.var 2)) (.cst (.bl true)) ir__law_steps_b2))) .nil)
def ir__law_steps : CSs := (.cons (.asg (.tup (.cons (.name 1) (.cons (.name 2) .nil))) (.tup (.cons (.slc false (.lst false (.cons (.cst (.int (0))) (.cons (.cst (.int (1))) .nil))) .noe (.bin false .add (.cst (.int (1))) (.bi false .int (.cons (.cmp ["Speech"] .in_ (.idx (.var 0) (.cst (.str "trouble"))) (.lst false (.cons (.cst (.str "join")) (.cons (.cst (.str "fold")) .nil)))) .nil)))) (.cons (.bin false .add (.call "_law_kinds" (.cons (.var 0) .nil)) (.lst false (.cons (.cst (.str "talk")) .nil))) .nil)))) (.cons (.asg (.name 3) (.bin false .add (.comp false [4] (.name 4) (.val (.var 1)) (.cst (.bl true)) ir__law_steps_b1) (.ite (.cmp ["Speech"] .in_ (.idx (.var 0) (.cst (.str "trouble"))) (.lst false (.cons (.cst (.str "lose")) (.cons (.cst (.str "amid")) .nil)))) (.lst false (.cons (.tup (.cons (.cst (.str "lose")) .nil)) .nil)) (.lst false .nil)))) (.cons (.forr (.name 4) (.val (.var 1)) ir__law_steps_b3) (.cons (.ret (.bin false .add (.var 3) (.lst false (.cons (.tup (.cons (.cst (.str "urgent")) .nil)) .nil)))) .nil))))
def d__law_steps : MD := ⟨"_law_steps", none, "_law_steps", false, "_law_steps", L2.defArgs (topS 48), L2.defBody (topS 48), L2.defScope (topS 48), ["_law_t", "_law_whos", "_law_kinds_here", "_law_found", "_law_who", "_law_kind"], ["_law_t"], 2, [], false, ir__law_steps, none⟩
def ir__law_told : CSs := (.cons (.asg (.name 1) (.cst .non)) (.cons (.tr (.cons (.asg (.name 1) (.call "_law_made" (.cons (.var 0) .nil))) .nil) (.cons "BadEvery" 2 (.cons (.asg (.name 1) (.ite (.exi 2 "SpeechError") (.cst (.str "every")) (.cst (.str "another")))) .nil) (.cons "BadTrouble" 2 (.cons (.asg (.name 1) (.ite (.exi 2 "SpeechError") (.cst (.str "trouble")) (.cst (.str "another")))) .nil) (.cons "BadBox" 2 (.cons (.asg (.name 1) (.lst false (.cons (.cst (.str "box")) (.cons (.exf 2 "index") .nil)))) .nil) .nil)))) (.cons (.ret (.var 1)) .nil)))
def d__law_told : MD := ⟨"_law_told", none, "_law_told", false, "_law_told", L2.defArgs (topS 49), L2.defBody (topS 49), L2.defScope (topS 49), ["_law_t", "_law_told_here", "e"], ["_law_t"], 8, [], false, ir__law_told, none⟩
def ir_law_b1 : CE := (.cmp ["Speech", "Line"] .ne (.cmp ["Speech", "Line"] .eq (.var 9) (.var 5)) (.cmp ["Speech", "Line"] .eq (.var 10) (.var 4)))
def ir_law_b2 : CE := (.var 9)
def ir_law_s3 : CS := (.iff (.cmp ["Speech", "Line"] .ne (.call "_law_told" (.cons (.var 6) .nil)) (.cst (.str "every"))) (.cons (.ret (.cst (.bl false))) .nil) .nil)
def ir_law_s4 : CS := (.asg (.sub (.var 6) (.cst (.str "every"))) (.idx (.lst false (.cons (.neg (.cst (.int (1)))) (.cons (.cst (.int (4))) (.cons (.cst (.bl true)) (.cons (.cst .non) (.cons (.cst (.str "1")) .nil)))))) (.call "_law_pick" (.cons (.var 1) (.cons (.cst (.int (5))) .nil)))))
def ir_law_s5 : CS := (.iff (.cmp ["Speech", "Line"] .ne (.call "_law_told" (.cons (.var 6) .nil)) (.cst (.str "trouble"))) (.cons (.ret (.cst (.bl false))) .nil) .nil)
def ir_law_s6 : CS := (.asg (.sub (.var 6) (.cst (.str "trouble"))) (.idx (.lst false (.cons (.cst .non) (.cons (.cst (.str "")) (.cons (.cst (.str "lost")) (.cons (.tup (.cons (.cst (.str "lose")) .nil)) (.cons (.cst (.int (1))) .nil)))))) (.call "_law_pick" (.cons (.var 1) (.cons (.cst (.int (5))) .nil)))))
def ir_law_s7 : CS := (.iff (.cmp ["Speech", "Line"] .ne (.call "_law_told" (.cons (.var 6) .nil)) (.lst false (.cons (.cst (.str "box")) (.cons (.cst .non) .nil)))) (.cons (.ret (.cst (.bl false))) .nil) .nil)
def ir_law_s8 : CS := (.asg (.sub (.var 6) (.cst (.str "boxes"))) (.idx (.lst false (.cons (.cst .non) (.cons (.bi false .list (.cons (.idx (.var 4) (.cst (.str "boxes"))) .nil)) (.cons (.bin false .mul (.tup (.cons (.tup (.cons (.cst (.str "thin")) .nil)) .nil)) (.cst (.int (4)))) (.cons (.dct false .nil) .nil))))) (.call "_law_pick" (.cons (.var 1) (.cons (.cst (.int (4))) .nil)))))
def ir_law_s9 : CS := (.iff (.or_ (.and_ (.cmp ["Speech", "Line"] .eq (.var 8) (.var 6)) (.cmp ["Speech", "Line"] .ne (.call "_law_told" (.cons (.var 6) .nil)) (.call "_law_made" (.cons (.var 6) .nil)))) (.and_ (.cmp ["Speech", "Line"] .ne (.var 8) (.var 6)) (.cmp ["Speech", "Line"] .ne (.call "_law_told" (.cons (.var 6) .nil)) (.var 8)))) (.cons (.ret (.cst (.bl false))) .nil) .nil)
def ir_law_s10 : CS := (.asg (.name 8) (.ite (.cmp ["Speech", "Line"] .lt (.bi false .len (.cons (.idx (.var 4) (.cst (.str "boxes"))) .nil)) (.cst (.int (3)))) (.lst false (.cons (.cst (.str "box")) (.cons (.bi false .len (.cons (.idx (.var 4) (.cst (.str "boxes"))) .nil)) .nil))) (.var 6)))
def ir_law_s11 : CS := (.asg (.sub (.var 6) (.cst (.str "boxes"))) (.slc false (.bin false .add (.idx (.var 4) (.cst (.str "boxes"))) (.tup (.cons (.var 7) (.cons (.cst .non) .nil)))) .noe (.cst (.int (3)))))
def ir_law_s12 : CS := (.asg (.name 7) (.idx (.lst false (.cons (.cst .non) (.cons (.tup (.cons (.cst (.str "thin")) (.cons (.cst (.int (1))) .nil))) (.cons (.cst (.str "thin")) (.cons (.tup (.cons (.cst (.str "again")) (.cons (.cst (.int (0))) .nil))) (.cons (.tup (.cons (.cst (.str "cut")) (.cons (.cst (.str "d")) .nil))) .nil)))))) (.call "_law_pick" (.cons (.var 1) (.cons (.cst (.int (5))) .nil)))))
def ir_law_s13 : CS := (.asg (.name 6) (.bi true .dict (.cons (.var 4) .nil)))
def ir_law_s14 : CS := (.exp (.mt .append (.var 2) (.cons (.tup (.cons (.var 5) (.cons (.bi false .dict (.cons (.var 4) .nil)) .nil))) .nil)))
def ir_law_s15 : CS := (.iff (.cmp ["Speech", "Line"] .ne (.comp false [9, 10] (.tup (.cons (.name 9) (.cons (.name 10) .nil))) (.val (.var 2)) ir_law_b1 ir_law_b2) (.lst false .nil)) (.cons (.ret (.cst (.bl false))) .nil) .nil)
def ir_law_s16 : CS := (.exp (.mt .append (.call "all_steps" (.cons (.var 5) .nil)) (.cons (.cst (.str "more")) .nil)))
def ir_law_s17 : CS := (.iff (.or_ (.cmp ["Speech", "Line"] .ne (.call "all_steps" (.cons (.var 5) .nil)) (.call "_law_steps" (.cons (.var 4) .nil))) (.cmp ["Speech", "Line"] .eq (.var 5) (.var 4))) (.cons (.ret (.cst (.bl false))) .nil) .nil)
def ir_law_s18 : CS := (.iff (.cmp ["Speech", "Line"] .ne (.lst false (.cons (.prp "Line.every" (.var 5)) (.cons (.prp "Line.trouble" (.var 5)) .nil))) (.lst false (.cons (.idx (.var 4) (.cst (.str "every"))) (.cons (.idx (.var 4) (.cst (.str "trouble"))) .nil)))) (.cons (.ret (.cst (.bl false))) .nil) .nil)
def ir_law_s19 : CS := (.iff (.or_ (.cmp ["Speech", "Line"] .ne (.prp "Line.speech" (.var 5)) (.call "_law_speech" (.cons (.var 4) .nil))) (.cmp ["Speech", "Line"] .ne (.prp "Line.boxes" (.var 5)) (.idx (.var 4) (.cst (.str "boxes"))))) (.cons (.ret (.cst (.bl false))) .nil) .nil)
def ir_law_s20 : CS := (.asg (.name 5) (.call "_law_told" (.cons (.var 4) .nil)))
def ir_law_s21 : CS := (.asg (.name 4) (.call "_law_drawn" (.cons (.var 1) (.cons (.cst (.int (3))) (.cons (.cst (.int (3))) .nil)))))
def ir_law_b22 : CSs := (.cons ir_law_s21 (.cons ir_law_s20 (.cons ir_law_s19 (.cons ir_law_s18 (.cons ir_law_s17 (.cons ir_law_s16 (.cons ir_law_s15 (.cons ir_law_s14 (.cons ir_law_s13 (.cons ir_law_s12 (.cons ir_law_s11 (.cons ir_law_s10 (.cons ir_law_s9 (.cons ir_law_s8 (.cons ir_law_s7 (.cons ir_law_s6 (.cons ir_law_s5 (.cons ir_law_s4 (.cons ir_law_s3 .nil)))))))))))))))))))
def ir_law_s23 : CS := (.forr (.name 3) (.rng (.cst (.int (0))) (.cst (.int (6)))) ir_law_b22)
def ir_law_s24 : CS := (.asg (.name 2) (.lst true .nil))
def ir_law_s25 : CS := (.asg (.name 1) (.call "_law_draws" (.cons (.var 0) .nil)))
def ir_law : CSs := (.cons ir_law_s25 (.cons ir_law_s24 (.cons ir_law_s23 (.cons (.ret (.cst (.bl true))) .nil))))
def d_law : MD := ⟨"law", none, "law", false, "law", L2.defArgs (topS 50), L2.defBody (topS 50), L2.defScope (topS 50), ["_law_script", "_law_row", "_law_before", "_law_turn", "_law_t", "_law_told_here", "_law_u", "_law_bad", "_law_due", "_law_one", "_law_mark"], ["_law_script"], 9, ["_law_before", "_law_u"], false, ir_law, none⟩
theorem tx_is_integer : MD.Tx PI d_is_integer := ⟨by kernel_rfl, ⟨rfl, rfl, rfl, by decide +kernel, rfl, by decide +kernel, by decide +kernel⟩, (fun _ _ _ _ _ _ _ us hl => match us, hl with | [_], _ => rfl), (fun k h => nomatch h)⟩
theorem tx_is_from : MD.Tx PI d_is_from := ⟨by kernel_rfl, ⟨rfl, rfl, rfl, by decide +kernel, rfl, by decide +kernel, by decide +kernel⟩, (fun _ _ _ _ _ _ _ us hl => match us, hl with | [_, _, _], _ => rfl), (fun k h => nomatch h)⟩
theorem tx_is_one_of : MD.Tx PI d_is_one_of := ⟨by kernel_rfl, ⟨rfl, rfl, rfl, by decide +kernel, rfl, by decide +kernel, by decide +kernel⟩, (fun _ _ _ _ _ _ _ us hl => match us, hl with | [_, _], _ => rfl), (fun k h => nomatch h)⟩
theorem tx_Speech___init__ : MD.Tx PI d_Speech___init__ := ⟨by kernel_rfl, ⟨rfl, rfl, rfl, by decide +kernel, rfl, by decide +kernel, by decide +kernel⟩, (fun _ _ _ _ _ _ _ us hl => match us, hl with | [_, _, _, _], _ => rfl), (fun k h => nomatch h)⟩
theorem tx_Speech_counts : MD.Tx PI d_Speech_counts := ⟨by kernel_rfl, ⟨rfl, rfl, rfl, by decide +kernel, rfl, by decide +kernel, by decide +kernel⟩, (fun _ _ _ _ _ _ _ us hl => match us, hl with | [_], _ => rfl), (fun k h => nomatch h)⟩
theorem tx_Speech_talk : MD.Tx PI d_Speech_talk := ⟨by kernel_rfl, ⟨rfl, rfl, rfl, by decide +kernel, rfl, by decide +kernel, by decide +kernel⟩, (fun _ _ _ _ _ _ _ us hl => match us, hl with | [_], _ => rfl), (fun k h => nomatch h)⟩
theorem tx_Speech_end : MD.Tx PI d_Speech_end := ⟨by kernel_rfl, ⟨rfl, rfl, rfl, by decide +kernel, rfl, by decide +kernel, by decide +kernel⟩, (fun _ _ _ _ _ _ _ us hl => match us, hl with | [_], _ => rfl), (fun k h => nomatch h)⟩
theorem tx_Speech___eq__ : MD.Tx PI d_Speech___eq__ := ⟨by kernel_rfl, ⟨rfl, rfl, rfl, by decide +kernel, rfl, by decide +kernel, by decide +kernel⟩, (fun _ _ _ _ _ _ _ us hl => match us, hl with | [_, _], _ => rfl), (fun k h => nomatch h)⟩
theorem tx_check_every : MD.Tx PI d_check_every := ⟨by kernel_rfl, ⟨rfl, rfl, rfl, by decide +kernel, rfl, by decide +kernel, by decide +kernel⟩, (fun _ _ _ _ _ _ _ us hl => match us, hl with | [_], _ => rfl), (fun k h => nomatch h)⟩
theorem tx_is_box : MD.Tx PI d_is_box := ⟨by kernel_rfl, ⟨rfl, rfl, rfl, by decide +kernel, rfl, by decide +kernel, by decide +kernel⟩, (fun _ _ _ _ _ _ _ us hl => match us, hl with | [_, _], _ => rfl), (fun k h => nomatch h)⟩
theorem tx_check_boxes : MD.Tx PI d_check_boxes := ⟨by kernel_rfl, ⟨rfl, rfl, rfl, by decide +kernel, rfl, by decide +kernel, by decide +kernel⟩, (fun _ _ _ _ _ _ _ us hl => match us, hl with | [_, _], _ => rfl), (fun k h => nomatch h)⟩
theorem tx_Line___init__ : MD.Tx PI d_Line___init__ := ⟨by kernel_rfl, ⟨rfl, rfl, rfl, by decide +kernel, rfl, by decide +kernel, by decide +kernel⟩, (fun _ _ _ _ _ _ _ us hl => match us, hl with | [_, _, _, _, _], _ => rfl), (fun k h => nomatch h)⟩
theorem tx_Line_speech : MD.Tx PI d_Line_speech := ⟨by kernel_rfl, ⟨rfl, rfl, rfl, by decide +kernel, rfl, by decide +kernel, by decide +kernel⟩, (fun _ _ _ _ _ _ _ us hl => match us, hl with | [_], _ => rfl), (fun k h => nomatch h)⟩
theorem tx_Line_every : MD.Tx PI d_Line_every := ⟨by kernel_rfl, ⟨rfl, rfl, rfl, by decide +kernel, rfl, by decide +kernel, by decide +kernel⟩, (fun _ _ _ _ _ _ _ us hl => match us, hl with | [_], _ => rfl), (fun k h => nomatch h)⟩
theorem tx_Line_trouble : MD.Tx PI d_Line_trouble := ⟨by kernel_rfl, ⟨rfl, rfl, rfl, by decide +kernel, rfl, by decide +kernel, by decide +kernel⟩, (fun _ _ _ _ _ _ _ us hl => match us, hl with | [_], _ => rfl), (fun k h => nomatch h)⟩
theorem tx_Line_boxes : MD.Tx PI d_Line_boxes := ⟨by kernel_rfl, ⟨rfl, rfl, rfl, by decide +kernel, rfl, by decide +kernel, by decide +kernel⟩, (fun _ _ _ _ _ _ _ us hl => match us, hl with | [_], _ => rfl), (fun k h => nomatch h)⟩
theorem tx_Line___eq__ : MD.Tx PI d_Line___eq__ := ⟨by kernel_rfl, ⟨rfl, rfl, rfl, by decide +kernel, rfl, by decide +kernel, by decide +kernel⟩, (fun _ _ _ _ _ _ _ us hl => match us, hl with | [_, _], _ => rfl), (fun k h => nomatch h)⟩
theorem tx_is_like : MD.Tx PI d_is_like := ⟨by kernel_rfl, ⟨rfl, rfl, rfl, by decide +kernel, rfl, by decide +kernel, by decide +kernel⟩, (fun _ _ _ _ _ _ _ us hl => match us, hl with | [_, _], _ => rfl), (fun k h => nomatch h)⟩
theorem tx_senders_of : MD.Tx PI d_senders_of := ⟨by kernel_rfl, ⟨rfl, rfl, rfl, by decide +kernel, rfl, by decide +kernel, by decide +kernel⟩, (fun _ _ _ _ _ _ _ us hl => match us, hl with | [_], _ => rfl), (fun k h => nomatch h)⟩
theorem tx_steps_of : MD.Tx PI d_steps_of := ⟨by kernel_rfl, ⟨rfl, rfl, rfl, by decide +kernel, rfl, by decide +kernel, by decide +kernel⟩, (fun _ _ _ _ _ _ _ us hl => match us, hl with | [_], _ => rfl), (fun k h => nomatch h)⟩
theorem tx_all_steps : MD.Tx PI d_all_steps := ⟨by kernel_rfl, ⟨rfl, rfl, rfl, by decide +kernel, rfl, by decide +kernel, by decide +kernel⟩, (fun _ _ _ _ _ _ _ us hl => match us, hl with | [_], _ => rfl), (fun k h => nomatch h)⟩
theorem tx__law_draws : MD.Tx PI d__law_draws := ⟨by kernel_rfl, ⟨rfl, rfl, rfl, by decide +kernel, rfl, by decide +kernel, by decide +kernel⟩, (fun _ _ _ _ _ _ _ us hl => match us, hl with | [_], _ => rfl), (fun k h => nomatch h)⟩
theorem tx__law_pick : MD.Tx PI d__law_pick := ⟨by kernel_rfl, ⟨rfl, rfl, rfl, by decide +kernel, rfl, by decide +kernel, by decide +kernel⟩, (fun _ _ _ _ _ _ _ us hl => match us, hl with | [_, _], _ => rfl), (fun k h => nomatch h)⟩
theorem tx__law_kinds : MD.Tx PI d__law_kinds := ⟨by kernel_rfl, ⟨rfl, rfl, rfl, by decide +kernel, rfl, by decide +kernel, by decide +kernel⟩, (fun _ _ _ _ _ _ _ us hl => match us, hl with | [_], _ => rfl), (fun k h => nomatch h)⟩
theorem tx__law_box_drawn : MD.Tx PI d__law_box_drawn := ⟨by kernel_rfl, ⟨rfl, rfl, rfl, by decide +kernel, rfl, by decide +kernel, by decide +kernel⟩, (fun _ _ _ _ _ _ _ us hl => match us, hl with | [_, _], _ => rfl), (fun k h => nomatch h)⟩
theorem tx__law_drawn : MD.Tx PI d__law_drawn := ⟨by kernel_rfl, ⟨rfl, rfl, rfl, by decide +kernel, rfl, by decide +kernel, by decide +kernel⟩, (fun _ _ _ _ _ _ _ us hl => match us, hl with | [_, _, _], _ => rfl), (fun k h => nomatch h)⟩
theorem tx__law_speech : MD.Tx PI d__law_speech := ⟨by kernel_rfl, ⟨rfl, rfl, rfl, by decide +kernel, rfl, by decide +kernel, by decide +kernel⟩, (fun _ _ _ _ _ _ _ us hl => match us, hl with | [_], _ => rfl), (fun k h => nomatch h)⟩
theorem tx__law_made : MD.Tx PI d__law_made := ⟨by kernel_rfl, ⟨rfl, rfl, rfl, by decide +kernel, rfl, by decide +kernel, by decide +kernel⟩, (fun _ _ _ _ _ _ _ us hl => match us, hl with | [_], _ => rfl), (fun k h => nomatch h)⟩
theorem tx__law_steps : MD.Tx PI d__law_steps := ⟨by kernel_rfl, ⟨rfl, rfl, rfl, by decide +kernel, rfl, by decide +kernel, by decide +kernel⟩, (fun _ _ _ _ _ _ _ us hl => match us, hl with | [_], _ => rfl), (fun k h => nomatch h)⟩
theorem tx__law_told : MD.Tx PI d__law_told := ⟨by kernel_rfl, ⟨rfl, rfl, rfl, by decide +kernel, rfl, by decide +kernel, by decide +kernel⟩, (fun _ _ _ _ _ _ _ us hl => match us, hl with | [_], _ => rfl), (fun k h => nomatch h)⟩
theorem tx_law : MD.Tx PI d_law := ⟨by kernel_rfl, ⟨rfl, rfl, rfl, by decide +kernel, rfl, by decide +kernel, by decide +kernel⟩, (fun _ _ _ _ _ _ _ us hl => match us, hl with | [_], _ => rfl), (fun k h => nomatch h)⟩
def x_BadCounts : XD := ⟨"BadCounts", "BadCounts.__init__", L2.defArgs (L2.inClass (topS 2) 0), L2.defBody (L2.inClass (topS 2) 0), L2.defScope (L2.inClass (topS 2) 0), ["self", "__class__"], [], [], []⟩
theorem xt_BadCounts : ∀ cl c, InitTx (x_BadCounts.nf cl c) x_BadCounts.N x_BadCounts.ps x_BadCounts.efs x_BadCounts.l := fun cl c => ⟨nscope_by (show nscB x_BadCounts.N (slf :: x_BadCounts.ps) [("__class__" : Str)] x_BadCounts.scope = true by decide +kernel), rfl, ⟨_, _, _, _, _, _, _, rfl, rfl, .cst, fun _ => ⟨_, _, _, rfl⟩, .nil⟩, (show x_BadCounts.scope.names.lookup ("super" : Str) = some .globalImplicit by decide +kernel), rfl, (fun _ _ _ _ _ us hl => match us, hl with | [_], _ => rfl), rfl, (fun p hp => by cases hp), ⟨fun _ => rfl, fun _ => rfl⟩, (by decide), (by decide), (fun vs x c hl g => match vs, hl with | [], _ => rfl)⟩
def x_BadTalk : XD := ⟨"BadTalk", "BadTalk.__init__", L2.defArgs (L2.inClass (topS 3) 0), L2.defBody (L2.inClass (topS 3) 0), L2.defScope (L2.inClass (topS 3) 0), ["self", "__class__"], [], [], []⟩
theorem xt_BadTalk : ∀ cl c, InitTx (x_BadTalk.nf cl c) x_BadTalk.N x_BadTalk.ps x_BadTalk.efs x_BadTalk.l := fun cl c => ⟨nscope_by (show nscB x_BadTalk.N (slf :: x_BadTalk.ps) [("__class__" : Str)] x_BadTalk.scope = true by decide +kernel), rfl, ⟨_, _, _, _, _, _, _, rfl, rfl, .cst, fun _ => ⟨_, _, _, rfl⟩, .nil⟩, (show x_BadTalk.scope.names.lookup ("super" : Str) = some .globalImplicit by decide +kernel), rfl, (fun _ _ _ _ _ us hl => match us, hl with | [_], _ => rfl), rfl, (fun p hp => by cases hp), ⟨fun _ => rfl, fun _ => rfl⟩, (by decide), (by decide), (fun vs x c hl g => match vs, hl with | [], _ => rfl)⟩
def x_BadEnd : XD := ⟨"BadEnd", "BadEnd.__init__", L2.defArgs (L2.inClass (topS 4) 0), L2.defBody (L2.inClass (topS 4) 0), L2.defScope (L2.inClass (topS 4) 0), ["self", "__class__"], [], [], []⟩
theorem xt_BadEnd : ∀ cl c, InitTx (x_BadEnd.nf cl c) x_BadEnd.N x_BadEnd.ps x_BadEnd.efs x_BadEnd.l := fun cl c => ⟨nscope_by (show nscB x_BadEnd.N (slf :: x_BadEnd.ps) [("__class__" : Str)] x_BadEnd.scope = true by decide +kernel), rfl, ⟨_, _, _, _, _, _, _, rfl, rfl, .cst, fun _ => ⟨_, _, _, rfl⟩, .nil⟩, (show x_BadEnd.scope.names.lookup ("super" : Str) = some .globalImplicit by decide +kernel), rfl, (fun _ _ _ _ _ us hl => match us, hl with | [_], _ => rfl), rfl, (fun p hp => by cases hp), ⟨fun _ => rfl, fun _ => rfl⟩, (by decide), (by decide), (fun vs x c hl g => match vs, hl with | [], _ => rfl)⟩
def x_BadEvery : XD := ⟨"BadEvery", "BadEvery.__init__", L2.defArgs (L2.inClass (topS 5) 0), L2.defBody (L2.inClass (topS 5) 0), L2.defScope (L2.inClass (topS 5) 0), ["self", "__class__"], [], [], []⟩
theorem xt_BadEvery : ∀ cl c, InitTx (x_BadEvery.nf cl c) x_BadEvery.N x_BadEvery.ps x_BadEvery.efs x_BadEvery.l := fun cl c => ⟨nscope_by (show nscB x_BadEvery.N (slf :: x_BadEvery.ps) [("__class__" : Str)] x_BadEvery.scope = true by decide +kernel), rfl, ⟨_, _, _, _, _, _, _, rfl, rfl, .cst, fun _ => ⟨_, _, _, rfl⟩, .nil⟩, (show x_BadEvery.scope.names.lookup ("super" : Str) = some .globalImplicit by decide +kernel), rfl, (fun _ _ _ _ _ us hl => match us, hl with | [_], _ => rfl), rfl, (fun p hp => by cases hp), ⟨fun _ => rfl, fun _ => rfl⟩, (by decide), (by decide), (fun vs x c hl g => match vs, hl with | [], _ => rfl)⟩
def x_BadBox : XD := ⟨"BadBox", "BadBox.__init__", L2.defArgs (L2.inClass (topS 6) 0), L2.defBody (L2.inClass (topS 6) 0), L2.defScope (L2.inClass (topS 6) 0), ["self", "index", "__class__"], ["index"], ["index"], [("index", 1)]⟩
theorem xt_BadBox : ∀ cl c, InitTx (x_BadBox.nf cl c) x_BadBox.N x_BadBox.ps x_BadBox.efs x_BadBox.l := fun cl c => ⟨nscope_by (show nscB x_BadBox.N (slf :: x_BadBox.ps) [("__class__" : Str)] x_BadBox.scope = true by decide +kernel), rfl, ⟨_, _, _, _, _, _, _, rfl, rfl, .fmt rfl (by decide) (by decide) (by decide) (by decide), (fun h => by cases h), .cons rfl (by decide) (by decide) (.nil)⟩, (show x_BadBox.scope.names.lookup ("super" : Str) = some .globalImplicit by decide +kernel), rfl, (fun _ _ _ _ _ us hl => match us, hl with | [_, _], _ => rfl), rfl, (by decide), ⟨(fun h => by cases h), (fun h => by cases h)⟩, (by decide), (by decide), (fun vs x c hl g => match vs, hl with | [_], _ => rfl)⟩
def x_BadTrouble : XD := ⟨"BadTrouble", "BadTrouble.__init__", L2.defArgs (L2.inClass (topS 7) 0), L2.defBody (L2.inClass (topS 7) 0), L2.defScope (L2.inClass (topS 7) 0), ["self", "__class__"], [], [], []⟩
theorem xt_BadTrouble : ∀ cl c, InitTx (x_BadTrouble.nf cl c) x_BadTrouble.N x_BadTrouble.ps x_BadTrouble.efs x_BadTrouble.l := fun cl c => ⟨nscope_by (show nscB x_BadTrouble.N (slf :: x_BadTrouble.ps) [("__class__" : Str)] x_BadTrouble.scope = true by decide +kernel), rfl, ⟨_, _, _, _, _, _, _, rfl, rfl, .cst, fun _ => ⟨_, _, _, rfl⟩, .nil⟩, (show x_BadTrouble.scope.names.lookup ("super" : Str) = some .globalImplicit by decide +kernel), rfl, (fun _ _ _ _ _ us hl => match us, hl with | [_], _ => rfl), rfl, (fun p hp => by cases hp), ⟨fun _ => rfl, fun _ => rfl⟩, (by decide), (by decide), (fun vs x c hl g => match vs, hl with | [], _ => rfl)⟩
def sups : List (Str × List Str) := [("SpeechError", ["SpeechError", "ValueError"]), ("BadCounts", ["BadCounts", "SpeechError", "ValueError"]), ("BadTalk", ["BadTalk", "SpeechError", "ValueError"]), ("BadEnd", ["BadEnd", "SpeechError", "ValueError"]), ("BadEvery", ["BadEvery", "SpeechError", "ValueError"]), ("BadBox", ["BadBox", "SpeechError", "ValueError"]), ("BadTrouble", ["BadTrouble", "SpeechError", "ValueError"]), ("Speech", ["Speech"]), ("Line", ["Line"])]
def subT (C E : Str) : Bool := match sups.lookup C with
  | some l => l.contains E
  | none => false
def L : LW := ⟨PI, [d_is_integer, d_is_from, d_is_one_of, d_Speech___init__, d_Speech_counts, d_Speech_talk, d_Speech_end, d_Speech___eq__, d_check_every, d_is_box, d_check_boxes, d_Line___init__, d_Line_speech, d_Line_every, d_Line_trouble, d_Line_boxes, d_Line___eq__, d_is_like, d_senders_of, d_steps_of, d_all_steps, d__law_draws, d__law_pick, d__law_kinds, d__law_box_drawn, d__law_drawn, d__law_speech, d__law_made, d__law_steps, d__law_told, d_law], [x_BadCounts, x_BadTalk, x_BadEnd, x_BadEvery, x_BadBox, x_BadTrouble], subT, 5000⟩
theorem tab : L.tabB = true := by decide +kernel
theorem txs : LW.Tx L := ⟨(all_cons tx_is_integer (all_cons tx_is_from (all_cons tx_is_one_of (all_cons tx_Speech___init__ (all_cons tx_Speech_counts (all_cons tx_Speech_talk (all_cons tx_Speech_end (all_cons tx_Speech___eq__ (all_cons tx_check_every (all_cons tx_is_box (all_cons tx_check_boxes (all_cons tx_Line___init__ (all_cons tx_Line_speech (all_cons tx_Line_every (all_cons tx_Line_trouble (all_cons tx_Line_boxes (all_cons tx_Line___eq__ (all_cons tx_is_like (all_cons tx_senders_of (all_cons tx_steps_of (all_cons tx_all_steps (all_cons tx__law_draws (all_cons tx__law_pick (all_cons tx__law_kinds (all_cons tx__law_box_drawn (all_cons tx__law_drawn (all_cons tx__law_speech (all_cons tx__law_made (all_cons tx__law_steps (all_cons tx__law_told (all_cons tx_law (fun _ h => nomatch h)))))))))))))))))))))))))))))))), (all_cons xt_BadCounts (all_cons xt_BadTalk (all_cons xt_BadEnd (all_cons xt_BadEvery (all_cons xt_BadBox (all_cons xt_BadTrouble (fun _ h => nomatch h))))))), tab⟩
abbrev R : PySem.W.OpenRow := PySem.W.OpenLaw.row PySem.Challenge.rw_statusbytes_k05_lines_refused
def names0 : List PySem.Str := ["SpeechError", "BadCounts", "BadTalk", "BadEnd", "BadEvery", "BadBox", "BadTrouble", "LETTERS", "MOST_COUNT", "MOST_EVERY", "TALKS", "ENDS", "SAY", "TALK", "is_integer", "is_from", "is_one_of", "Speech", "check_every", "AGAIN", "BARE", "NAMED", "is_box", "check_boxes", "MOST_BOXES", "TROUBLES", "LOSE", "DOUBLE", "LOSING", "GO"]
def names1 : List PySem.Str := ["WORRY", "Line", "is_like", "senders_of", "steps_of", "all_steps", "_law_draws", "_law_pick", "_law_kinds", "_law_box_drawn", "_law_drawn", "_law_speech", "_law_made", "_law_steps", "_law_told"]
def names : List PySem.Str := names0 ++ names1
def AS0 : List Nat := [3, 2, 6, 4, 24, 46, 67, 88, 109, 130, 151, 154, 155, 156, 163, 170, 177, 223, 234, 235, 236, 243, 250, 251, 252, 253, 309, 320, 327, 332, 339, 346, 353, 360, 367, 372, 379, 386, 391, 398, 403, 0, 23, 45, 66, 87, 108, 129, 150, 162]
def AS1 : List Nat := [169, 176, 222, 233, 242, 249, 308, 319, 326, 331, 338, 345, 352, 359, 366, 371, 378, 385, 390, 397, 402, 22, 25, 43, 44, 64, 65, 85, 86, 106, 107, 127, 128, 148, 149, 157, 158, 159, 160, 161, 164, 165, 166, 167, 168, 171, 172, 173, 174, 175]
def AS2 : List Nat := [189, 197, 205, 213, 220, 221, 224, 225, 228, 229, 230, 231, 232, 237, 238, 239, 240, 241, 244, 245, 246, 247, 248, 267, 275, 283, 291, 299, 306, 307, 310, 311, 314, 315, 316, 317, 318, 321, 322, 323, 324, 325, 328, 329, 330, 333, 334, 335, 336, 337]
def AS3 : List Nat := [340, 341, 342, 343, 344, 347, 348, 349, 350, 351, 354, 355, 356, 357, 358, 361, 362, 363, 364, 365, 368, 369, 370, 373, 374, 375, 376, 377, 380, 381, 382, 383, 384, 387, 388, 389, 392, 393, 394, 395, 396, 399, 400, 401, 42, 31, 63, 52, 84, 73]
def AS4 : List Nat := [105, 94, 126, 115, 147, 136, 188, 196, 204, 212, 219, 266, 274, 282, 290, 298, 305, 37, 38, 39, 40, 41, 58, 59, 60, 61, 62, 79, 80, 81, 82, 83, 100, 101, 102, 103, 104, 121, 122, 123, 124, 125, 142, 143, 144, 145, 146, 185, 186, 187]
def AS5 : List Nat := [195, 203, 211, 214, 215, 216, 217, 218, 261, 262, 263, 264, 265, 273, 281, 289, 297, 300, 301, 302, 303, 304, 190, 191, 192, 193, 194, 198, 199, 200, 201, 202, 206, 207, 208, 209, 210, 268, 269, 270, 271, 272, 276, 277, 278, 279, 280, 284, 285, 286]
def AS6 : List Nat := [287, 288, 292, 293, 294, 295, 296]
def AS : List Nat := AS0 ++ (AS1 ++ (AS2 ++ (AS3 ++ (AS4 ++ (AS5 ++ (AS6))))))
abbrev hk : PySem.W.Hook := L.hookA R.prog AS
def ob (s : PySem.W.SharedT) : AlM := L.obsA R.prog AS (HandSHeadRun.getT s)
open PySem.W PySem.Calls in
theorem runA (w : World) (os : OsState) : (HandSHeadRun.endF (HandSHeadRun.stepQ (HandSHeadRun.denQ HandSHeadRun.tabQ) R.prog w) 12000 R.prog w os).map (fun s => (HandSHeadRun.looksF R.prog (boot_heap w.params) s.abs, HandSHeadRun.seenQ (PySem.W.view R.prog [50]) names (importedModules R.prog.main.body) (fun s => xlAt (PySem.W.view R.prog [50]) [] s && recOk R.toRowW.records s) s.abs)) = some (true, openGood (PySem.W.view R.prog [50]) names) := by
  kernel_rfl
open PySem.W PySem.Calls in
theorem runB (w : World) (os : OsState) : (HandSHeadRun.endF (HandSHeadRun.stepQ (HandSHeadRun.denQ HandSHeadRun.tabQ) R.prog w) 12000 R.prog w os).map ob = some (hk.val w) := by
  kernel_rfl
theorem run (w : World) : HandSHeadRun.RunEq R (PySem.W.view R.prog [50]) hk ob 12000 names w := fun os => run_both (runA w os) (runB w os)
abbrev run_ (n : Nat) := evF L.T L.sub L.efs L.wf n
def rowO (ns : List Int) (p b c : Int) : SO := .lst [.lst (ns.map .int), .int p, .int b, .int c]
def rest_pick : CSs := (.cons (.iff (.cmp [] .gt (.idx (.var 0) (.cst (.int (2)))) (.cst (.int (0)))) (.cons (.asg (.name 3) (.bin false .mod (.bi false .int (.cons (.idx (.var 0) (.cst (.int (2)))) .nil)) (.var 1))) (.cons (.asg (.sub (.var 0) (.cst (.int (2)))) (.bin false .fdiv (.idx (.var 0) (.cst (.int (2)))) (.var 1))) (.cons (.ret (.var 3)) .nil))) .nil) (.cons (.ret (.bin false .mod (.bin false .mod (.bi false .int (.cons (.bin false .mul (.idx (.var 0) (.cst (.int (3)))) (.cst (.int (16807)))) .nil)) (.cst (.int (2147483629)))) (.var 1))) .nil))
def first_pick : CS := (.iff (.cmp [] .eq (.idx (.var 0) (.cst (.int (2)))) (.cst (.int (0)))) (.cons (.iff (.cmp [] .lt (.idx (.var 0) (.cst (.int (1)))) (.bi false .len (.cons (.idx (.var 0) (.cst (.int (0)))) .nil))) (.cons (.asg (.name 2) (.idx (.idx (.var 0) (.cst (.int (0)))) (.idx (.var 0) (.cst (.int (1)))))) (.cons (.asg (.sub (.var 0) (.cst (.int (1)))) (.bin false .add (.idx (.var 0) (.cst (.int (1)))) (.cst (.int (1))))) (.cons (.iff (.cmp [] .ge (.var 2) (.bin false .pow (.cst (.int (10))) (.cst (.int (18))))) (.cons (.asg (.sub (.var 0) (.cst (.int (2)))) (.var 2)) .nil) (.cons (.asg (.sub (.var 0) (.cst (.int (3)))) (.bin false .mod (.bi false .int (.cons (.bin false .add (.bin false .add (.bin false .mul (.idx (.var 0) (.cst (.int (3)))) (.cst (.int (48271)))) (.bin false .mul (.var 2) (.cst (.int (69621))))) (.cst (.int (11)))) .nil)) (.cst (.int (2147483647))))) .nil)) .nil))) (.cons (.asg (.sub (.var 0) (.cst (.int (3)))) (.bin false .mod (.bi false .int (.cons (.bin false .add (.bin false .mul (.idx (.var 0) (.cst (.int (3)))) (.cst (.int (48271)))) (.cst (.int (7)))) .nil)) (.cst (.int (2147483647))))) .nil)) .nil) .nil)
theorem pick_split : ir__law_pick = .cons first_pick rest_pick := rfl
theorem T_pick : L.T "_law_pick" = some (.fn none 2 4 false ir__law_pick) := by rfl
theorem pick_ok (n : Nat) (ns : List Int) (p b c many : Int) (k : Nat) (st : Sto) (hk : st[k]? = some (rowO ns p b c)) (hp : 0 ≤ p) (hb : 0 ≤ b) (hm : 0 < many) (hm2 : many < 1073741824) :
    ∃ r p' b' c', run_ (n + 1) "_law_pick" [.ref k, .int many] st = .ok (.int r) (st.set k (rowO ns p' b' c')) ∧ 0 ≤ r ∧ r < many ∧ 0 ≤ p' ∧ 0 ≤ b' := by
  have hlt : k < st.length := (List.getElem?_eq_some_iff.mp hk).1
  unfold run_ evF
  rw [show (bds 0 [D.ref k, D.int many] && Ent.loose (L.T "_law_pick")) = false by simp [bds, bd]]
  unfold ev0
  rw [T_pick]
  simp only [ownB, List.length_cons, List.length_nil, Nat.zero_add, Nat.reduceAdd, beq_self_eq_true, Bool.and_self, List.map_cons, List.map_nil, List.cons_append, List.nil_append, Nat.reduceSub, List.replicate]
  have h0 : ∀ (ns : List Int) (p b c : Int) (st : Sto), st[k]? = some (rowO ns p b c) → idxD st (.ref k) (.int 0) = some (.lst (ns.map .int)) := fun ns p b c st h => idx_ref h 0
  have h1 : ∀ (ns : List Int) (p b c : Int) (st : Sto), st[k]? = some (rowO ns p b c) → idxD st (.ref k) (.int 1) = some (.int p) := fun ns p b c st h => idx_ref h 1
  have h2 : ∀ (ns : List Int) (p b c : Int) (st : Sto), st[k]? = some (rowO ns p b c) → idxD st (.ref k) (.int 2) = some (.int b) := fun ns p b c st h => idx_ref h 2
  have h3 : ∀ (ns : List Int) (p b c : Int) (st : Sto), st[k]? = some (rowO ns p b c) → idxD st (.ref k) (.int 3) = some (.int c) := fun ns p b c st h => idx_ref h 3
  have s1 : ∀ (ns : List Int) (p b c x : Int) (env : Mini.Env) (st : Sto), st[k]? = some (rowO ns p b c) → setIR (.ref k) (.int 1) (.int x) st env = .ok env (st.set k (rowO ns x b c)) := fun ns p b c x env st h => set_ref h (by decide) (by simp)
  have s2 : ∀ (ns : List Int) (p b c x : Int) (env : Mini.Env) (st : Sto), st[k]? = some (rowO ns p b c) → setIR (.ref k) (.int 2) (.int x) st env = .ok env (st.set k (rowO ns p x c)) := fun ns p b c x env st h => set_ref h (by decide) (by simp)
  have s3 : ∀ (ns : List Int) (p b c x : Int) (env : Mini.Env) (st : Sto), st[k]? = some (rowO ns p b c) → setIR (.ref k) (.int 3) (.int x) st env = .ok env (st.set k (rowO ns p b x)) := fun ns p b c x env st h => set_ref h (by decide) (by simp)
  have gs : ∀ (x : SO), (st.set k x)[k]? = some x := fun x => get_set hlt
  have ss : ∀ (x y : SO), (st.set k x).set k y = st.set k y := fun x y => List.set_set ..
  have le : ∀ (x : SO), (st.set k x).length = st.length := fun x => List.length_set
  have fo : ∀ (x : SO) (r : Int), fin false st.length (.int r) (st.set k x) = .ok (.int r) (st.set k x) := fun x r => by
    unfold fin; rw [le, Nat.ble_eq_true_of_le (Nat.le_refl _)]; simp
  have r0 := h0 _ _ _ _ _ hk
  have r1 := h1 _ _ _ _ _ hk
  have r2 := h2 _ _ _ _ _ hk
  have r3 := h3 _ _ _ _ _ hk
  have hpow : binD st .pow (.int 10) (.int 18) = some (.int 1000000000000000000) := by rfl
  have hpw : ∀ st : Sto, binD st .pow (.int 10) (.int 18) = some (.int 1000000000000000000) := fun st => rfl
  -- the second half
  have second : ∀ (p b c : Int), 0 ≤ p → 0 ≤ b → ∀ env : Mini.Env, env[0]? = some (some (D.ref k)) → env[1]? = some (some (D.int many)) → 4 ≤ env.length → ∃ r p' b' c', finB false st.length (evSs (evF L.T L.sub L.efs L.wf n) L.sub L.efs L.wf rest_pick env (st.set k (rowO ns p b c))) = .ok (.int r) (st.set k (rowO ns p' b' c')) ∧ 0 ≤ r ∧ r < many ∧ 0 ≤ p' ∧ 0 ≤ b' := by
    intro p b c hp hb env e0 e1 el
    have q2 := h2 _ _ _ _ _ (gs (rowO ns p b c))
    have q3 := h3 _ _ _ _ _ (gs (rowO ns p b c))
    by_cases hb0 : 0 < b
    · have t2 := s2 _ _ _ _ (b / many) (env.set 3 (some (.int (b % many)))) _ (gs (rowO ns p b c))
      have l3 : (3 : Nat) < env.length := by omega
      have g0 : (env.set 3 (some (D.int (b % many))))[0]? = some (some (D.ref k)) := by rw [List.getElem?_set_ne (by decide)]; exact e0
      have g1 : (env.set 3 (some (D.int (b % many))))[1]? = some (some (D.int many)) := by rw [List.getElem?_set_ne (by decide)]; exact e1
      have g3 : (env.set 3 (some (D.int (b % many))))[3]? = some (some (D.int (b % many))) := by rw [List.getElem?_set_self l3]
      refine ⟨b % many, p, b / many, c, ?_, Int.emod_nonneg _ (by omega), Int.emod_lt_of_pos _ hm, hp, Int.ediv_nonneg hb (by omega)⟩
      simp only [rest_pick, evSs, evS, evE, evEs, evG, e0, e1, bind_ok, fl_ok, fb_nx, fb_rt, opt_some, q2, evC_int, optB_some, cmp_gt_int, hb0, decide_true, int_int, retR_int, bin_mod hm, nox_ok, l3, if_true, g0, g1, g3, bin_fdiv hm hm2, t2, ss, finB, fo]
    · have : b = 0 := by omega
      subst this
      have m1 : small 16807 = true := by decide
      have m2 : (0 : Int) < 2147483629 := by decide
      refine ⟨c * 16807 % 2147483629 % many, p, 0, c, ?_, Int.emod_nonneg _ (by omega), Int.emod_lt_of_pos _ hm, hp, by omega⟩
      simp only [rest_pick, evSs, evS, evE, evEs, evG, e0, e1, bind_ok, fl_ok, fb_nx, fb_rt, opt_some, q2, q3, evC_int, optB_some, cmp_gt_int, Int.lt_irrefl, decide_false, int_int, retR_int, bin_mul m1, bin_mod m2, bin_mod hm, finB, fo]
  rw [pick_split]
  have self : st.set k (rowO ns p b c) = st := by
    apply List.ext_getElem?
    intro j
    by_cases hj : j = k
    · subst hj; rw [gs, hk]
    · rw [List.getElem?_set_ne (Ne.symm hj)]
  by_cases hb0 : b = 0
  · subst hb0
    by_cases hpl : p < ns.length
    · have hcell : ∀ st : Sto, idxD st (.lst (ns.map .int)) (.int p) = some (.int (ns[p.toNat]'(by omega))) := fun st => by
        rw [idx_lst, at_nat hp (by simpa using hpl), List.getElem?_map, List.getElem?_eq_getElem (by omega)]
        rfl
      generalize hcv : (ns[p.toNat]'(by omega)) = cell at hcell
      have t1 := s1 _ _ _ _ (p + 1) [some (D.ref k), some (D.int many), some (D.int cell), none] _ hk
      by_cases hc : cell ≥ 1000000000000000000
      · have t2 := s2 _ _ _ _ cell [some (D.ref k), some (D.int many), some (D.int cell), none] _ (gs (rowO ns (p + 1) 0 c))
        obtain ⟨r, p', b', c', e, h⟩ := second (p + 1) cell c (by omega) (by omega) [some (D.ref k), some (D.int many), some (D.int cell), none] rfl rfl (by simp)
        refine ⟨r, p', b', c', ?_, h⟩
        rw [← e]
        have hc' : (1000000000000000000 : Int) ≤ cell := hc
        simp only [first_pick, evSs, evS, evE, evEs, evG, List.getElem?_cons_zero, List.getElem?_cons_succ, bind_ok, fl_ok, fb_nx, opt_some, r0, r1, r2, r3, evC_int, optB_some, cmp_eq_int, cmp_lt_int, cmp_gt_int, cmp_ge_int, decide_true, len_lst, retR_false, List.length_map, hpl, hcell, nox_ok, List.length_cons, List.length_nil, Nat.reduceAdd, Nat.reduceLT, if_true, List.set_cons_succ, List.set_cons_zero, bin_add, t1, hpw, ge_iff_le, hc', t2, ss]
      · have m1 : small 48271 = true := by decide
        have m3 : small 69621 = true := by decide
        have m2 : (0 : Int) < 2147483647 := by decide
        have hc' : ¬ (1000000000000000000 : Int) ≤ cell := hc
        have t3 := s3 _ _ _ _ ((c * 48271 + cell * 69621 + 11) % 2147483647) [some (D.ref k), some (D.int many), some (D.int cell), none] _ (gs (rowO ns (p + 1) 0 c))
        have q3 := h3 _ _ _ _ _ (gs (rowO ns (p + 1) 0 c))
        obtain ⟨r, p', b', c', e, h⟩ := second (p + 1) 0 ((c * 48271 + cell * 69621 + 11) % 2147483647) (by omega) (by omega) [some (D.ref k), some (D.int many), some (D.int cell), none] rfl rfl (by simp)
        refine ⟨r, p', b', c', ?_, h⟩
        rw [← e]
        simp only [first_pick, evSs, evS, evE, evEs, evG, List.getElem?_cons_zero, List.getElem?_cons_succ, bind_ok, fl_ok, fb_nx, opt_some, r0, r1, r2, r3, evC_int, optB_some, cmp_eq_int, cmp_lt_int, cmp_gt_int, cmp_ge_int, decide_true, decide_false, len_lst, retR_false, List.length_map, hpl, hcell, nox_ok, List.length_cons, List.length_nil, Nat.reduceAdd, Nat.reduceLT, if_true, List.set_cons_succ, List.set_cons_zero, bin_add, t1, hpw, ge_iff_le, hc', ss, q3, bin_mul m1, bin_mul m3, bin_mod m2, int_int, retR_int, t3]
    · have m1 : small 48271 = true := by decide
      have m2 : (0 : Int) < 2147483647 := by decide
      have t3 := s3 _ _ _ _ ((c * 48271 + 7) % 2147483647) [some (D.ref k), some (D.int many), none, none] _ hk
      obtain ⟨r, p', b', c', e, h⟩ := second p 0 ((c * 48271 + 7) % 2147483647) (by omega) (by omega) [some (D.ref k), some (D.int many), none, none] rfl rfl (by simp)
      refine ⟨r, p', b', c', ?_, h⟩
      rw [← e]
      simp only [first_pick, evSs, evS, evE, evEs, evG, List.getElem?_cons_zero, List.getElem?_cons_succ, bind_ok, fl_ok, fb_nx, opt_some, r0, r1, r2, r3, evC_int, optB_some, cmp_eq_int, cmp_lt_int, cmp_gt_int, cmp_ge_int, decide_true, decide_false, len_lst, retR_false, List.length_map, hpl, nox_ok, List.length_cons, List.length_nil, Nat.reduceAdd, Nat.reduceLT, if_true, List.set_cons_succ, List.set_cons_zero, bin_add, ss, bin_mul m1, bin_mod m2, int_int, retR_int, t3]
  · obtain ⟨r, p', b', c', e, h⟩ := second p b c hp hb [some (D.ref k), some (D.int many), none, none] rfl rfl (by simp)
    refine ⟨r, p', b', c', ?_, h⟩
    rw [← e, self]
    simp only [first_pick, evSs, evS, evE, evEs, evG, List.getElem?_cons_zero, List.getElem?_cons_succ, bind_ok, fl_ok, fb_nx, opt_some, r2, evC_int, optB_some, cmp_eq_int, hb0, decide_false]
/-! picks -/
def RowAt (k : Nat) (ns : List Int) (st : Sto) : Prop := ∃ p b c, st[k]? = some (rowO ns p b c) ∧ 0 ≤ p ∧ 0 ≤ b
def Adv (k : Nat) (ns : List Int) (st st' : Sto) : Prop := ∃ p b c, 0 ≤ p ∧ 0 ≤ b ∧ k < st.length ∧ st' = st.set k (rowO ns p b c)
theorem RowAt.lt {k : Nat} {ns : List Int} {st : Sto} (h : RowAt k ns st) : k < st.length := by
  obtain ⟨p, b, c, e, _⟩ := h
  exact (List.getElem?_eq_some_iff.mp e).1
theorem Adv.row {k : Nat} {ns : List Int} {st st' : Sto} (h : Adv k ns st st') : RowAt k ns st' := by
  obtain ⟨p, b, c, hp, hb, hk, rfl⟩ := h
  exact ⟨p, b, c, List.getElem?_set_self hk, hp, hb⟩
theorem Adv.len {k : Nat} {ns : List Int} {st st' : Sto} (h : Adv k ns st st') : st'.length = st.length := by
  obtain ⟨p, b, c, hp, hb, hk, rfl⟩ := h
  exact List.length_set
theorem Adv.get {k : Nat} {ns : List Int} {st st' : Sto} (h : Adv k ns st st') {j : Nat} (hj : j ≠ k) : st'[j]? = st[j]? := by
  obtain ⟨p, b, c, hp, hb, hk, rfl⟩ := h
  rw [List.getElem?_set_ne (Ne.symm hj)]
theorem Adv.trans {k : Nat} {ns : List Int} {a b c : Sto} (h : Adv k ns a b) (g : Adv k ns b c) : Adv k ns a c := by
  obtain ⟨p, b1, c1, hp, hb, hk, rfl⟩ := h
  obtain ⟨p2, b2, c2, hp2, hb2, hk2, rfl⟩ := g
  exact ⟨p2, b2, c2, hp2, hb2, hk, List.set_set ..⟩
theorem Adv.refl {k : Nat} {ns : List Int} {a : Sto} (h : RowAt k ns a) : Adv k ns a a := by
  obtain ⟨p, b, c, e, hp, hb⟩ := h
  have hk := (List.getElem?_eq_some_iff.mp e).1
  refine ⟨p, b, c, hp, hb, hk, ?_⟩
  apply List.ext_getElem?
  intro j
  by_cases hj : j = k
  · subst hj; rw [List.getElem?_set_self hk, e]
  · rw [List.getElem?_set_ne (Ne.symm hj)]
/-- what else stands in the store may change -/
theorem Adv.set {k : Nat} {ns : List Int} {a b : Sto} (h : Adv k ns a b) {j : Nat} (hj : j ≠ k) (x : SO) : Adv k ns (a.set j x) (b.set j x) := by
  obtain ⟨p, b1, c1, hp, hb, hk, rfl⟩ := h
  exact ⟨p, b1, c1, hp, hb, by rw [List.length_set]; exact hk, List.set_comm _ _ (Ne.symm hj)⟩
theorem RowAt.set {k : Nat} {ns : List Int} {a : Sto} (h : RowAt k ns a) {j : Nat} (hj : j ≠ k) (x : SO) : RowAt k ns (a.set j x) := by
  obtain ⟨p, b, c, e, hp, hb⟩ := h
  exact ⟨p, b, c, by rw [List.getElem?_set_ne hj]; exact e, hp, hb⟩
theorem RowAt.app {k : Nat} {ns : List Int} {a : Sto} (h : RowAt k ns a) (x : Sto) : RowAt k ns (a ++ x) := by
  have hk := h.lt
  obtain ⟨p, b, c, e, hp, hb⟩ := h
  exact ⟨p, b, c, by rw [List.getElem?_append_left hk]; exact e, hp, hb⟩
theorem Adv.app {k : Nat} {ns : List Int} {a b : Sto} (hk : k < a.length) (x : Sto) (h : Adv k ns (a ++ x) b) : ∃ a', b = a' ++ x ∧ Adv k ns a a' := by
  obtain ⟨p, b1, c1, hp, hb, hk2, rfl⟩ := h
  exact ⟨a.set k (rowO ns p b1 c1), by rw [List.set_append_left _ _ hk], p, b1, c1, hp, hb, hk, rfl⟩
theorem pick_adv (n : Nat) {k : Nat} {ns : List Int} {st : Sto} (h : RowAt k ns st) {many : Int} (hm : 0 < many) (hm2 : many < 1073741824) :
    ∃ r st', run_ (n + 1) "_law_pick" [.ref k, .int many] st = .ok (.int r) st' ∧ 0 ≤ r ∧ r < many ∧ Adv k ns st st' := by
  have hk := h.lt
  obtain ⟨p, b, c, e, hp, hb⟩ := h
  obtain ⟨r, p', b', c', e1, h0, h1, h2, h3⟩ := pick_ok n ns p b c many k st e hp hb hm hm2
  exact ⟨r, _, e1, h0, h1, p', b', c', h2, h3, hk, rfl⟩
theorem row_bdS (n : Nat) (ns : List Int) (p b c : Int) : bdS n (rowO ns p b c) = true := by
  show bds n [.lst (ns.map .int), .int p, .int b, .int c] = true
  rw [bds_cons, bd_lst]
  have : bds n (ns.map Mini.D.int) = true := by
    rw [bds_all]
    intro x hx
    obtain ⟨i, _, rfl⟩ := List.mem_map.mp hx
    rfl
  rw [this]; rfl
theorem Adv.clsd {k : Nat} {ns : List Int} {a b : Sto} {n : Nat} (h : Adv k ns a b) (hc : a.all (bdS n) = true) : b.all (bdS n) = true := by
  obtain ⟨p, b1, c1, hp, hb, hk, rfl⟩ := h
  rw [List.all_eq_true] at hc ⊢
  intro x hx
  rcases List.mem_or_eq_of_mem_set hx with hx | rfl
  · exact hc x hx
  · exact row_bdS n ns p b1 c1
theorem atPick {xs : List Mini.D} {r : Int} (h0 : 0 ≤ r) (h1 : r < xs.length) : ∃ d, d ∈ xs ∧ ∀ st, idxD st (.lst xs) (.int r) = some d := by
  have hl : r.toNat < xs.length := by omega
  refine ⟨xs[r.toNat], List.getElem_mem hl, fun st => ?_⟩
  rw [idx_lst, at_nat h0 h1, List.getElem?_eq_getElem hl]
theorem get_last {a : Sto} {N : Nat} (hN : a.length = N) (x : SO) : (a ++ [x])[N]? = some x := by rw [← hN]; simp
theorem append_last {a : Sto} {N : Nat} (hN : a.length = N) {xs : List Mini.D} {v : Mini.D} (hl : xs.length < line) : evM .append (.ref N) [v] (a ++ [.lst xs]) = .ok .non (a ++ [.lst (xs ++ [v])]) := by
  rw [append_ok (get_last hN _) hl, ← hN]
  simp
theorem ty_last {a : Sto} {N : Nat} (hN : a.length = N) {xs : List Mini.D} : tyM .append (.ref N) (a ++ [.lst xs]) = true := (tyM_ref (get_last hN _)).1
theorem atPick2 {α : Type} {g : α → Mini.D} {xs : List α} {r : Int} (h0 : 0 ≤ r) (h1 : r < xs.length) : ∃ x, x ∈ xs ∧ ∀ st, idxD st (.lst (xs.map g)) (.int r) = some (g x) := by
  have hl : r.toNat < xs.length := by omega
  refine ⟨xs[r.toNat], List.getElem_mem hl, fun st => ?_⟩
  rw [idx_lst, at_nat h0 (by simpa using h1), List.getElem?_map, List.getElem?_eq_getElem hl]; rfl
/-! speeches, their signs, what is heard -/
def kindS : Nat → Str
  | 0 => "a"
  | 1 => "b"
  | _ => "c"
def kindD (k : Nat) : Mini.D := .str (kindS k)
def kinds (n : Nat) : List Mini.D := ([.str "a", .str "b", .str "c"] : List Mini.D).take n
def tS (clr : Bool) : Str := if clr then "clears" else "keeps"
def eS (any : Bool) : Str := if any then "any" else "own"
def okc (cs : List Int) : Prop := 1 ≤ cs.length ∧ cs.length ≤ 3 ∧ ∀ c ∈ cs, c = 1 ∨ c = 2
def manyD (cs : List Int) : Mini.D := .dct (kinds cs.length) (cs.map .int)
def spD (cs : List Int) (clr any : Bool) : Mini.D := .ins "Speech" ["many", "after_talk", "talk_end"] [manyD cs, .str (tS clr), .str (eS any)]
/-- a value: a number, or what stands for it in a world -/
def IsV (d : Mini.D) : Prop := (∃ i : Int, d = .int i) ∨ (∃ (k : Nat) (p w : Int), d = .tup [kindD k, .int p, .int w])
inductive Sg where
  | val (d : Mini.D) (h : IsV d)
  | say (k : Nat)
  | bang | opn | cls
def sgD : Sg → Mini.D
  | .val d _ => d
  | .say k => .tup [.str "say", kindD k]
  | .bang => .str "!"
  | .opn => .str "<"
  | .cls => .str ">"
def isSay : Sg → Bool
  | .say _ => true
  | _ => false
structure HS where
  kn : Option Nat
  so : List Mini.D
  tk : Option (List Mini.D)
def cnt (cs : List Int) (k : Nat) : Int := cs.getD k 0
def talkD : Option (List Mini.D) → Mini.D
  | none => .non
  | some xs => .tup [.str "talk", .tup xs]
def thD : Option Mini.D → Mini.D
  | none => .non
  | some d => d
def tkO : Option (List Mini.D) → Option Mini.D
  | none => none
  | some xs => some (.tup [.str "talk", .tup xs])
def hr (cs : List Int) (clr any : Bool) (h : HS) : Sg → HS × Option Mini.D
  | .bang => (h, some (.str "!"))
  | .opn => (⟨if clr then none else h.kn, [], some []⟩, none)
  | .cls => (⟨h.kn, h.so, none⟩, tkO h.tk)
  | .say k => (⟨some k, [], none⟩, if any then tkO h.tk else none)
  | .val d _ => match h.tk, h.kn with
    | some xs, _ => (⟨h.kn, h.so, some (xs ++ [d])⟩, none)
    | none, none => (h, none)
    | none, some k => if (h.so.length : Int) + 1 = cnt cs k then (⟨some k, [], none⟩, some (.tup [kindD k, .tup (h.so ++ [d])])) else (⟨some k, h.so ++ [d], none⟩, none)
def knD : Option Nat → Mini.D
  | none => .str ""
  | some k => kindD k
def tkT : Option (List Mini.D) → Mini.D
  | none => .non
  | some xs => .tup xs
/-- the program's own form -/
def hsP (h : HS) : Mini.D := .tup [knD h.kn, .tup h.so, tkT h.tk]
def knL : Option Nat → Mini.D
  | none => .non
  | some k => kindD k
def tkL : Option (List Mini.D) → Mini.D
  | none => .non
  | some xs => .lst xs
/-- the law's form -/
def hsL (h : HS) : Mini.D := .lst [knL h.kn, .lst h.so, tkL h.tk]
/-- what holds of a standing -/
structure HOk (cs : List Int) (N : Nat) (h : HS) : Prop where
  kn : ∀ k, h.kn = some k → k < cs.length ∧ (h.so.length : Int) < cnt cs k
  so : dats 1 h.so = true
  sl : h.so.length ≤ 2
  tk : ∀ xs, h.tk = some xs → dats 1 xs = true ∧ xs.length ≤ N
def sgOk (cs : List Int) : Sg → Prop
  | .say k => k < cs.length
  | _ => True
theorem dat_V {d : Mini.D} (h : IsV d) : dat 1 d = true := by
  rcases h with ⟨i, rfl⟩ | ⟨k, p, w, rfl⟩ <;> rfl
theorem cnt_ok {cs : List Int} (h : okc cs) {k : Nat} (hk : k < cs.length) : cnt cs k = 1 ∨ cnt cs k = 2 := by
  unfold cnt
  rw [List.getD_eq_getElem?_getD, List.getElem?_eq_getElem hk]
  exact h.2.2 _ (List.getElem_mem hk)
theorem hr_ok {cs : List Int} {clr any : Bool} {N : Nat} {h : HS} {s : Sg} (hc : okc cs) (o : HOk cs N h) (hs : sgOk cs s) : HOk cs (N + 1) (hr cs clr any h s).1 := by
  have up : ∀ xs, h.tk = some xs → dats 1 xs = true ∧ xs.length ≤ N + 1 := fun xs e => ⟨(o.tk xs e).1, Nat.le_succ_of_le (o.tk xs e).2⟩
  cases s with
  | bang => exact ⟨o.kn, o.so, o.sl, up⟩
  | opn =>
    refine ⟨fun k e => ?_, rfl, by simp [hr], fun xs e => by cases e; exact ⟨rfl, by simp⟩⟩
    cases clr with
    | true => cases e
    | false =>
      have := o.kn k e
      exact ⟨this.1, by simp only [hr, List.length_nil]; rcases cnt_ok hc this.1 with h | h <;> rw [h] <;> decide⟩
  | cls => exact ⟨o.kn, o.so, o.sl, fun xs e => by cases e⟩
  | say k =>
    refine ⟨fun j e => ?_, rfl, by simp [hr], fun xs e => by cases e⟩
    cases e
    exact ⟨hs, by simp only [hr, List.length_nil]; rcases cnt_ok hc hs with h | h <;> rw [h] <;> decide⟩
  | val d hd =>
    unfold hr
    cases et : h.tk with
    | some xs =>
      refine ⟨o.kn, o.so, o.sl, fun ys e => ?_⟩
      cases e
      obtain ⟨a, b⟩ := o.tk xs et
      refine ⟨?_, by simp; omega⟩
      rw [dats_all] at a ⊢
      intro x hx
      rcases List.mem_append.mp hx with hx | hx
      · exact a x hx
      · rw [List.mem_singleton.mp hx]; exact dat_V hd
    | none =>
      cases ek : h.kn with
      | none => exact ⟨o.kn, o.so, o.sl, up⟩
      | some k =>
        have ok := o.kn k ek
        simp only
        split
        · refine ⟨fun j e => ?_, rfl, by simp, fun xs e => by cases e⟩
          cases e
          exact ⟨ok.1, by simp only [List.length_nil]; rcases cnt_ok hc ok.1 with h | h <;> rw [h] <;> decide⟩
        · rename_i ne
          refine ⟨fun j e => ?_, ?_, ?_, fun xs e => by cases e⟩
          · cases e
            refine ⟨ok.1, ?_⟩
            have := ok.2
            simp only [List.length_append, List.length_cons, List.length_nil]
            omega
          · have a := o.so
            rw [dats_all] at a ⊢
            intro x hx
            rcases List.mem_append.mp hx with hx | hx
            · exact a x hx
            · rw [List.mem_singleton.mp hx]; exact dat_V hd
          · have := ok.2
            simp only [List.length_append, List.length_cons, List.length_nil]
            rcases cnt_ok hc ok.1 with h | h <;> rw [h] at this <;> omega
theorem many_at {cs : List Int} (hc : okc cs) {k : Nat} (hk : k < cs.length) (st : Sto) : idxD st (manyD cs) (kindD k) = some (.int (cnt cs k)) := by
  obtain ⟨h1, h3, _⟩ := hc
  unfold cnt
  match cs, h1, h3, k, hk with
  | [_], _, _, 0, _ => rfl
  | [_, _], _, _, 0, _ => rfl
  | [_, _], _, _, 1, _ => rfl
  | [_, _, _], _, _, 0, _ => rfl
  | [_, _, _], _, _, 1, _ => rfl
  | [_, _, _], _, _, 2, _ => rfl
theorem bd_sp {cs : List Int} (clr any : Bool) (m : Nat) (hc : okc cs) : bd m (spD cs clr any) = true := by
  obtain ⟨h1, h3, _⟩ := hc
  match cs, h1, h3 with
  | [_], _, _ => rfl
  | [_, _], _, _ => rfl
  | [_, _, _], _, _ => rfl
theorem dat_sg (s : Sg) : dat 1 (sgD s) = true := by
  cases s with
  | val d h => exact dat_V h
  | _ => rfl
theorem dat_hsP {cs : List Int} {N : Nat} {h : HS} (o : HOk cs N h) : dat 3 (hsP h) = true := by
  unfold hsP
  have h1 : dat 2 (knD h.kn) = true := by cases h.kn <;> rfl
  have h2 : dat 2 (.tup h.so) = true := o.so
  have h3 : dat 2 (tkT h.tk) = true := by
    cases e : h.tk with
    | none => rfl
    | some xs => exact (o.tk xs e).1
  show (dat 2 _ && (dat 2 _ && (dat 2 _ && true))) = true
  rw [h1, h2, h3]; rfl
theorem dat_hsL {cs : List Int} {N : Nat} {h : HS} (o : HOk cs N h) : dat 3 (hsL h) = true := by
  unfold hsL
  have h1 : dat 2 (knL h.kn) = true := by cases h.kn <;> rfl
  have h2 : dat 2 (.lst h.so) = true := o.so
  have h3 : dat 2 (tkL h.tk) = true := by
    cases e : h.tk with
    | none => rfl
    | some xs => exact (o.tk xs e).1
  show (dat 2 _ && (dat 2 _ && (dat 2 _ && true))) = true
  rw [h1, h2, h3]; rfl
theorem dat_th {cs : List Int} {clr any : Bool} {N : Nat} {h : HS} {s : Sg} (o : HOk cs N h) : dat 3 (thD (hr cs clr any h s).2) = true := by
  have tk : dat 3 (thD (tkO h.tk)) = true := by
    cases e : h.tk with
    | none => rfl
    | some xs =>
      show (true && (dat 2 (.tup xs) && true)) = true
      rw [show dat 2 (.tup xs) = true from (o.tk xs e).1]; rfl
  cases s with
  | bang => rfl
  | opn => rfl
  | cls => exact tk
  | say k => cases any with
    | true => exact tk
    | false => rfl
  | val d hd =>
    unfold hr
    cases et : h.tk with
    | some xs => rfl
    | none =>
      cases ek : h.kn with
      | none => rfl
      | some k =>
        simp only
        split
        · show (true && (dat 2 (.tup (h.so ++ [d])) && true)) = true
          have : dat 2 (.tup (h.so ++ [d])) = true := by
            show dats 1 _ = true
            have a := o.so
            rw [dats_all] at a ⊢
            intro x hx
            rcases List.mem_append.mp hx with hx | hx
            · exact a x hx
            · rw [List.mem_singleton.mp hx]; exact dat_V hd
          rw [this]; rfl
        · rfl
/-! the program's hearer -/
theorem eq_tupstr (st : Sto) (xs : List Mini.D) (x : Str) (h : dat 3 (.tup xs) = true) : cmpD st .eq (.tup xs) (.str x) = some false := by
  obtain ⟨p, e, hd⟩ := dat_ok h
  show eqD st (.tup xs) (.str x) = _
  unfold eqD eqP
  simp only [asC, drf, e]
  show (if (shal p && shal (.str x)) = true then some (PyData.eqv p (.str x)) else none) = _
  rw [shal_of hd (by decide), shal_str]
  unfold toPD at e
  split at e
  · cases e; unfold PyData.eqv; rfl
  · cases e
theorem kindS_ne (k : Nat) : kindS k ≠ "say" ∧ kindS k ≠ "" ∧ kindS k ≠ "talk" ∧ kindS k ≠ "!" := by
  unfold kindS
  split <;> decide
def lat (clr : Bool) (k : Option Nat) : Sg → Option Nat
  | .opn => if clr then none else k
  | .say j => some j
  | _ => k
theorem fld_talk {cs : List Int} {clr any : Bool} (st : Sto) : fldD st (spD cs clr any) "after_talk" = some (.str (tS clr)) := rfl
theorem fld_end {cs : List Int} {clr any : Bool} (st : Sto) : fldD st (spD cs clr any) "talk_end" = some (.str (eS any)) := rfl
theorem fld_many {cs : List Int} {clr any : Bool} (st : Sto) : fldD st (spD cs clr any) "many" = some (manyD cs) := rfl
theorem dec_tS (clr : Bool) : decide (tS clr = "clears") = clr := by cases clr <;> decide
theorem dec_eS (any : Bool) : decide (eS any = "any") = any := by cases any <;> decide
theorem eq_sg {n : Nat} {cls : List Str} (st : Sto) (s : Sg) (x : Str) : evC (run_ n) cls .eq (sgD s) (.str x) st = .ok (.bl (match s with | .bang => decide (("!" : Str) = x) | .opn => decide (("<" : Str) = x) | .cls => decide ((">" : Str) = x) | _ => false)) st := by
  cases s with
  | val d h =>
    rcases h with ⟨i, rfl⟩ | ⟨k, p, w, rfl⟩
    · unfold sgD; rw [evC_int, cmp_eq_is]; rfl
    · unfold sgD; rw [evC_tup, eq_tupstr _ _ _ rfl]; rfl
  | say k => unfold sgD; rw [evC_tup, eq_tupstr _ _ _ rfl]; rfl
  | bang => unfold sgD; rw [evC_str, cmp_eq_str]; rfl
  | opn => unfold sgD; rw [evC_str, cmp_eq_str]; rfl
  | cls => unfold sgD; rw [evC_str, cmp_eq_str]; rfl
theorem knD_n : knD none = .str "" := rfl
theorem knD_s (k : Nat) : knD (some k) = kindD k := rfl
theorem kindS_inj {j k : Nat} (hj : j < 3) (hk : k < 3) : decide (kindS j = kindS k) = decide (j = k) := by
  match j, k, hj, hk with
  | 0, 0, _, _ => rfl
  | 0, 1, _, _ => rfl
  | 0, 2, _, _ => rfl
  | 1, 0, _, _ => rfl
  | 1, 1, _, _ => rfl
  | 1, 2, _, _ => rfl
  | 2, 0, _, _ => rfl
  | 2, 1, _, _ => rfl
  | 2, 2, _, _ => rfl
def knS : Option Nat → Str
  | none => ""
  | some k => kindS k
theorem knD_str (k : Option Nat) : knD k = .str (knS k) := by cases k <;> rfl
theorem knS_kind {k : Option Nat} {j : Nat} (hk : ∀ i, k = some i → i < 3) (hj : j < 3) : decide (knS k = kindS j) = decide (k = some j) := by
  cases k with
  | none =>
    have h := (kindS_ne j).2.1
    have h1 : ¬ (("" : Str) = kindS j) := fun e => h e.symm
    show decide (("" : Str) = kindS j) = _
    rw [decide_eq_false h1]; rfl
  | some i =>
    show decide (kindS i = kindS j) = _
    rw [kindS_inj (hk i rfl) hj]
    simp
theorem knS_empty (k : Option Nat) : decide (knS k = "") = decide (k = none) := by
  cases k with
  | none => rfl
  | some i =>
    have := (kindS_ne i).2.1
    show decide (kindS i = "") = _
    rw [decide_eq_false this]; rfl
/-! the law's hearer -/
theorem T_lkinds : L.T "_law_kinds" = some (.fn none 1 1 false ir__law_kinds) := by rfl
def tKeys : List Mini.D := [.str "counts", .str "talk", .str "end", .str "every", .str "trouble", .str "boxes"]
/-- what is drawn of a line -/
def tD (cs : List Int) (clr any : Bool) (ev : Int) (tr : Str) (bx : List Mini.D) : Mini.D := .dct tKeys [.tup (cs.map .int), .str (tS clr), .str (eS any), .int ev, .str tr, .tup bx]
theorem t_counts {cs : List Int} {clr any : Bool} {ev : Int} {tr : Str} {bx : List Mini.D} (st : Sto) : idxD st (tD cs clr any ev tr bx) (.str "counts") = some (.tup (cs.map .int)) := rfl
theorem t_talk {cs : List Int} {clr any : Bool} {ev : Int} {tr : Str} {bx : List Mini.D} (st : Sto) : idxD st (tD cs clr any ev tr bx) (.str "talk") = some (.str (tS clr)) := rfl
theorem t_end {cs : List Int} {clr any : Bool} {ev : Int} {tr : Str} {bx : List Mini.D} (st : Sto) : idxD st (tD cs clr any ev tr bx) (.str "end") = some (.str (eS any)) := rfl
theorem t_every {cs : List Int} {clr any : Bool} {ev : Int} {tr : Str} {bx : List Mini.D} (st : Sto) : idxD st (tD cs clr any ev tr bx) (.str "every") = some (.int ev) := rfl
theorem t_trouble {cs : List Int} {clr any : Bool} {ev : Int} {tr : Str} {bx : List Mini.D} (st : Sto) : idxD st (tD cs clr any ev tr bx) (.str "trouble") = some (.str tr) := rfl
theorem t_boxes {cs : List Int} {clr any : Bool} {ev : Int} {tr : Str} {bx : List Mini.D} (st : Sto) : idxD st (tD cs clr any ev tr bx) (.str "boxes") = some (.tup bx) := rfl
theorem bds_ints (m : Nat) (cs : List Int) : bds m (cs.map Mini.D.int) = true := by
  rw [bds_all]
  intro x hx
  obtain ⟨i, _, rfl⟩ := List.mem_map.mp hx
  rfl
theorem bd_t {cs : List Int} {clr any : Bool} {ev : Int} {tr : Str} {bx : List Mini.D} (hb : bds 0 bx = true) : bd 0 (tD cs clr any ev tr bx) = true := by
  show (true && bds 0 _) = true
  rw [bds_cons, bd_tup, bds_ints, bds_cons, bds_cons, bds_cons, bds_cons, bds_cons, bd_tup, hb]; rfl
theorem slc_kinds {cs : List Int} (hc : okc cs) (st : Sto) : slcD st (.lst [.str "a", .str "b", .str "c"]) none (some (cs.length : Int)) = some (.lst (kinds cs.length)) := by
  obtain ⟨h1, h3, _⟩ := hc
  match cs, h1, h3 with
  | [_], _, _ => rfl
  | [_, _], _, _ => rfl
  | [_, _, _], _, _ => rfl
theorem len_ints (st : Sto) (cs : List Int) : biD st .len [.tup (cs.map Mini.D.int)] = some (.int cs.length) := by
  show some (Mini.D.int ((cs.map Mini.D.int).length : Nat)) = _
  rw [List.length_map]
theorem dats_kinds (n : Nat) : dats 0 (kinds n) = true := by
  match n with
  | 0 => rfl
  | 1 => rfl
  | 2 => rfl
  | n + 3 => unfold kinds; rw [List.take_of_length_le (by simp)]; rfl
theorem lkinds_ok (n : Nat) (st : Sto) {cs : List Int} {clr any : Bool} {ev : Int} {tr : Str} {bx : List Mini.D} (hc : okc cs) (hb : bds 0 bx = true) : run_ (n + 1) "_law_kinds" [tD cs clr any ev tr bx] st = .ok (.lst (kinds cs.length)) st := by
  refine run_fn0 st T_lkinds (by rw [bds_cons, bd_t hb]; rfl) rfl ?_ (by rw [bd_lst]; exact dats_bds 0 (dats_kinds _))
  have e := slc_kinds hc []
  have e1 : optI (.int (cs.length : Int)) = some (some (cs.length : Int)) := rfl
  have e2 : optI .non = some none := rfl
  simp only [evSs, evS, evE, evEs, evG, evGs, evI, List.getElem?_cons_zero, List.getElem?_cons_succ, bind_ok, fl_ok, fb_nx, fb_rt, nox_ok, opt_some, optB_some, blR_bl, asS_tup, asS_lst, asSK_tup, asSK_lst, asL_lst, lenGs, List.length_cons, List.length_nil, Nat.reduceAdd, Nat.reduceLT, Nat.reduceLeDiff, if_true, line, Nat.reducePow, List.set_cons_succ, List.set_cons_zero, retR_false, retR_int, evC_int, evC_bl, evC_str, evC_lst, evC_tup, evC_non, evC_is, evC_isn, cmp_eq_str, cmp_ne_str, cmp_eq_int, cmp_ne_int, cmp_eq_is, cmp_eq_ns, str_eq, String.reduceEq, decide_true, decide_false, Bool.not_true, Bool.not_false, is_non, isn_non, is_tup, isn_tup, is_lst, isn_lst, is_str, isn_str, is_int, isn_int, ir__law_kinds, List.map_cons, List.map_nil, Nat.sub_self, List.replicate, List.append_nil, t_counts, len_ints, e, e1, e2]
theorem idx_kinds {cs : List Int} (hc : okc cs) {k : Nat} (hk : k < cs.length) (call : Str → List Mini.D → Sto → Res Mini.D) (st : Sto) : evM .index (.lst (kinds cs.length)) [kindD k] st = .ok (.int (k : Int)) st := by
  obtain ⟨h1, h3, _⟩ := hc
  match cs, h1, h3, k, hk with
  | [_], _, _, 0, _ => rfl
  | [_, _], _, _, 0, _ => rfl
  | [_, _], _, _, 1, _ => rfl
  | [_, _, _], _, _, 0, _ => rfl
  | [_, _, _], _, _, 1, _ => rfl
  | [_, _, _], _, _, 2, _ => rfl
theorem counts_at {cs : List Int} {k : Nat} (hk : k < cs.length) (st : Sto) : idxD st (.tup (cs.map Mini.D.int)) (.int (k : Int)) = some (.int (cnt cs k)) := by
  show atD (cs.map Mini.D.int) k = _
  rw [at_nat (by omega) (by simpa using hk)]
  unfold cnt
  simp [List.getElem?_eq_getElem hk, List.getD_eq_getElem?_getD]
theorem knL_n : knL none = .non := rfl
theorem knL_s (k : Nat) : knL (some k) = kindD k := rfl
theorem tup_lst (st : Sto) (xs : List Mini.D) : biD st .tuple [.lst xs] = some (.tup xs) := rfl
theorem add_lst (st : Sto) (xs ys : List Mini.D) (h : xs.length + ys.length ≤ line) : binD st .add (.lst xs) (.lst ys) = some (.lst (xs ++ ys)) := by
  show (if xs.length + ys.length ≤ line then _ else _) = _
  rw [if_pos h]
theorem optI_int (i : Int) : optI (.int i) = some (some i) := rfl
theorem optI_non : optI .non = some none := rfl
theorem len_tup (st : Sto) (xs : List Mini.D) : biD st .len [.tup xs] = some (.int xs.length) := rfl
/-! signs looked at; all that is heard -/
theorem T_is_integer : L.T "is_integer" = some (.fn none 1 1 false ir_is_integer) := by rfl
theorem T_is_from : L.T "is_from" = some (.fn none 3 3 false ir_is_from) := by rfl
theorem T_is_one_of : L.T "is_one_of" = some (.fn none 2 2 false ir_is_one_of) := by rfl
def sgIn (cs : List Int) : Sg → Prop
  | .say k => k < cs.length
  | .val d _ => ∃ i : Int, d = .int i ∧ 0 ≤ i ∧ i ≤ 99
  | _ => True
theorem sgIn_ok {cs : List Int} {s : Sg} (h : sgIn cs s) : sgOk cs s := by cases s <;> first | exact h | trivial
theorem from_ok (n : Nat) (st : Sto) (i lo hi : Int) : run_ (n + 2) "is_from" [.int i, .int lo, .int hi] st = .ok (.bl (decide (lo ≤ i) && decide (i ≤ hi))) st := by
  refine run_fn0 st T_is_from rfl rfl ?_ rfl
  have e : run_ (n + 1) "is_integer" [.int i] [] = .ok (.bl true) [] := run_fn0 [] T_is_integer rfl rfl rfl rfl
  simp only [evSs, evS, evE, evEs, evG, evGs, evI, List.getElem?_cons_zero, List.getElem?_cons_succ, bind_ok, fl_ok, fb_nx, fb_rt, nox_ok, opt_some, optB_some, blR_bl, asS_tup, asS_lst, asSK_tup, asSK_lst, asL_lst, lenGs, List.length_cons, List.length_nil, Nat.reduceAdd, Nat.reduceLT, Nat.reduceLeDiff, if_true, line, Nat.reducePow, List.set_cons_succ, List.set_cons_zero, retR_false, retR_int, evC_int, evC_bl, evC_str, evC_lst, evC_tup, evC_non, evC_is, evC_isn, cmp_eq_str, cmp_ne_str, cmp_eq_int, cmp_ne_int, cmp_eq_is, cmp_eq_ns, str_eq, String.reduceEq, decide_true, decide_false, Bool.not_true, Bool.not_false, is_non, isn_non, is_tup, isn_tup, is_lst, isn_lst, is_str, isn_str, is_int, isn_int, ir_is_from, List.map_cons, List.map_nil, Nat.sub_self, List.replicate, List.append_nil, e, cmp_le_int]
  by_cases h : lo ≤ i
  · simp only [h, decide_true, Bool.true_and]; rfl
  · simp only [h, decide_false, Bool.false_and]; rfl
/-- signs as a list or as a tuple -/
def seqD (t : Bool) (xs : List Mini.D) : Mini.D := if t then .tup xs else .lst xs
theorem asS_seq (t : Bool) (xs : List Mini.D) (st : Sto) : asS st (seqD t xs) = some xs := by cases t <;> rfl
theorem dep_seq (t : Bool) (xs ys : List Mini.D) : depB (seqD t xs) ys = fun _ => true := by cases t <;> rfl
theorem bd_seq (t : Bool) (xs : List Mini.D) (m : Nat) : bd m (seqD t xs) = bds m xs := by
  cases t
  · exact bd_lst m xs
  · exact bd_tup m xs
theorem bds_sgs (ss : List Sg) (m : Nat) : bds m (ss.map sgD) = true := by
  rw [bds_all]
  intro x hx
  obtain ⟨s, _, rfl⟩ := List.mem_map.mp hx
  exact dat_bd m (dat_sg s)
theorem one_many (n : Nat) {cs : List Int} (hc : okc cs) {k : Nat} (hk : k < cs.length) : run_ (n + 1) "is_one_of" [kindD k, manyD cs] [] = .ok (.bl true) [] := by
  obtain ⟨h1, h3, _⟩ := hc
  match cs, h1, h3, k, hk with
  | [_], _, _, 0, _ => rfl
  | [_, _], _, _, 0, _ => rfl
  | [_, _], _, _, 1, _ => rfl
  | [_, _, _], _, _, 0, _ => rfl
  | [_, _, _], _, _, 1, _ => rfl
  | [_, _, _], _, _, 2, _ => rfl
/-! what is drawn of a line -/
theorem loop_adv {k : Nat} {ns : List Int} {body : Mini.D → List Mini.D → Sto → Res (List Mini.D)} (P : Mini.D → Prop) (I : Sto → Prop) (hI : ∀ a b, I a → Adv k ns a b → I b)
    (hb : ∀ x acc st, acc.length < line → RowAt k ns st → I st → ∃ y st', body x acc st = .ok (acc ++ [y]) st' ∧ P y ∧ Adv k ns st st') :
    ∀ (xs acc : List Mini.D) (st : Sto), acc.length + xs.length < line → RowAt k ns st → I st → ∃ ys st', loopR (fun _ => true) body xs acc st = .ok (acc ++ ys) st' ∧ ys.length = xs.length ∧ (∀ y ∈ ys, P y) ∧ Adv k ns st st' := by
  intro xs
  induction xs with
  | nil => intro acc st hl hr hi; exact ⟨[], st, by rw [List.append_nil]; rfl, rfl, (fun _ h => by cases h), Adv.refl hr⟩
  | cons x r ih =>
    intro acc st hl hr hi
    simp only [List.length_cons] at hl
    obtain ⟨y, s1, e, hy, a1⟩ := hb x acc st (by omega) hr hi
    obtain ⟨ys, s2, e2, hl2, hys, a2⟩ := ih (acc ++ [y]) s1 (by simp only [List.length_append, List.length_cons, List.length_nil]; omega) a1.row (hI _ _ hi a1)
    refine ⟨y :: ys, s2, ?_, by simp [hl2], ?_, a1.trans a2⟩
    · show (if true = true then (body x acc st).bind _ else _) = _
      rw [if_pos rfl, e, bind_ok, e2, List.append_assoc]; rfl
    · intro z hz
      rcases List.mem_cons.mp hz with rfl | hz
      · exact hy
      · exact hys z hz
theorem rng_len (r : Int) : (rngD 0 r).length = r.toNat := by
  unfold rngD
  rw [List.length_map, List.length_range, Int.sub_zero]
theorem T_drawn : L.T "_law_drawn" = some (.fn none 3 5 true ir__law_drawn) ∨ L.T "_law_drawn" = some (.fn none 3 5 false ir__law_drawn) := by first | exact .inl rfl | exact .inr rfl
theorem T_box_drawn : L.T "_law_box_drawn" = some (.fn none 2 5 false ir__law_box_drawn) := by rfl
inductive Bx where
  | calm | short | thin
  | cut (k : Nat) | drop (k : Nat) | again (j : Int)
def bxD : Bx → Mini.D
  | .calm => .tup [.str "calm"]
  | .short => .tup [.str "short"]
  | .thin => .tup [.str "thin"]
  | .cut k => .tup [.str "cut", kindD k]
  | .drop k => .tup [.str "drop", kindD k]
  | .again j => .tup [.str "again", .int j]
def bxOk (cs : List Int) : Bx → Prop
  | .cut k => k < cs.length
  | .drop k => k < cs.length
  | .again j => 1 ≤ j ∧ j ≤ 3
  | _ => True
theorem dat_bx (b : Bx) : dat 1 (bxD b) = true := by cases b <;> rfl
/-- kinds of a thing that stands in the store -/
theorem lkinds_ref (n : Nat) {st : Sto} {t : Nat} {cs : List Int} (hc : okc cs) (h : idxD st (.ref t) (.str "counts") = some (.tup (cs.map .int))) : run_ (n + 1) "_law_kinds" [.ref t] st = .ok (.lst (kinds cs.length)) st := by
  refine run_pl T_lkinds (.inl rfl) rfl ?_ rfl
  have e := slc_kinds hc st
  simp only [evSs, evS, evE, evEs, evG, evGs, evI, List.getElem?_cons_zero, List.getElem?_cons_succ, bind_ok, fl_ok, fb_nx, fb_rt, nox_ok, opt_some, optB_some, blR_bl, asS_tup, asS_lst, asSK_tup, asSK_lst, asL_lst, lenGs, List.length_cons, List.length_nil, Nat.reduceAdd, Nat.reduceLT, Nat.reduceLeDiff, if_true, line, Nat.reducePow, List.set_cons_succ, List.set_cons_zero, retR_false, retR_int, evC_int, evC_bl, evC_str, evC_lst, evC_tup, evC_non, evC_is, evC_isn, cmp_eq_str, cmp_ne_str, cmp_eq_int, cmp_ne_int, cmp_eq_is, cmp_eq_ns, str_eq, String.reduceEq, decide_true, decide_false, Bool.not_true, Bool.not_false, is_non, isn_non, is_tup, isn_tup, is_lst, isn_lst, is_str, isn_str, is_int, isn_int, ir__law_kinds, List.map_cons, List.map_nil, Nat.sub_self, List.replicate, List.append_nil, h, len_ints, e, optI_int, optI_non]
theorem kinds_len {cs : List Int} (hc : okc cs) : (kinds cs.length).length = cs.length := by
  unfold kinds
  have := hc.2.1
  rw [List.length_take]
  simp only [List.length_cons, List.length_nil]
  omega
theorem kinds_at {cs : List Int} (hc : okc cs) {r : Int} (h0 : 0 ≤ r) (h1 : r < cs.length) (st : Sto) : idxD st (.lst (kinds cs.length)) (.int r) = some (kindD r.toNat) := by
  have hk : r.toNat < cs.length := by omega
  have e : r = (r.toNat : Int) := by omega
  rw [e]
  generalize r.toNat = k at hk
  obtain ⟨h1, h3, _⟩ := hc
  match cs, h1, h3, k, hk with
  | [_], _, _, 0, _ => rfl
  | [_, _], _, _, 0, _ => rfl
  | [_, _], _, _, 1, _ => rfl
  | [_, _, _], _, _, 0, _ => rfl
  | [_, _, _], _, _, 1, _ => rfl
  | [_, _, _], _, _, 2, _ => rfl
theorem box_drawn_ok (n : Nat) {st : Sto} {k t : Nat} {ns : List Int} {cs : List Int} (hc : okc cs) (hr : RowAt k ns st) (hkt : t ≠ k) (h : ∀ b, Adv k ns st b → idxD b (.ref t) (.str "counts") = some (.tup (cs.map .int))) :
    ∃ b st', run_ (n + 2) "_law_box_drawn" [.ref k, .ref t] st = .ok (bxD b) st' ∧ bxOk cs b ∧ Adv k ns st st' := by
  have e0 := lkinds_ref n hc (h st (Adv.refl hr))
  have hl := hc.1
  have hl3 := hc.2.1
  obtain ⟨r1, s1, e1, h1, h1', a1⟩ := pick_adv n hr (many := 6) (by decide) (by decide)
  have e2' : biD s1 .len [.lst (kinds cs.length)] = some (.int (cs.length : Int)) := by rw [len_lst, kinds_len hc]
  obtain ⟨r2, s2, e2, h2, h2', a2⟩ := pick_adv n a1.row (many := (cs.length : Int)) (by omega) (by omega)
  have e3 := kinds_at hc h2 h2' s2
  obtain ⟨r3, s3, e4, h3, h3', a3⟩ := pick_adv n a2.row (many := 3) (by decide) (by decide)
  have hA := (a1.trans a2).trans a3
  have hk : r2.toNat < cs.length := by omega
  have main : ∀ b : Bx, idxD s3 (.lst [bxD .calm, bxD .short, bxD .thin, bxD (.cut r2.toNat), bxD (.drop r2.toNat), bxD (.again (1 + r3))]) (.int r1) = some (bxD b) → run_ (n + 2) "_law_box_drawn" [.ref k, .ref t] st = .ok (bxD b) s3 := by
    intro b hb
    refine run_pl T_box_drawn (.inl rfl) rfl ?_ hA.len
    unfold bxD at hb
    simp only [evSs, evS, evE, evEs, evG, evGs, evI, List.getElem?_cons_zero, List.getElem?_cons_succ, bind_ok, fl_ok, fb_nx, fb_rt, nox_ok, opt_some, optB_some, blR_bl, asS_tup, asS_lst, asSK_tup, asSK_lst, asL_lst, lenGs, List.length_cons, List.length_nil, Nat.reduceAdd, Nat.reduceLT, Nat.reduceLeDiff, if_true, line, Nat.reducePow, List.set_cons_succ, List.set_cons_zero, retR_false, retR_int, evC_int, evC_bl, evC_str, evC_lst, evC_tup, evC_non, evC_is, evC_isn, cmp_eq_str, cmp_ne_str, cmp_eq_int, cmp_ne_int, cmp_eq_is, cmp_eq_ns, str_eq, String.reduceEq, decide_true, decide_false, Bool.not_true, Bool.not_false, is_non, isn_non, is_tup, isn_tup, is_lst, isn_lst, is_str, isn_str, is_int, isn_int, ir__law_box_drawn, List.map_cons, List.map_nil, List.replicate, Nat.reduceSub, List.cons_append, List.nil_append, e0, e1, e2', e2, e3, e4, bin_add, hb]
    rfl
  have hr1 : r1 = 0 ∨ r1 = 1 ∨ r1 = 2 ∨ r1 = 3 ∨ r1 = 4 ∨ r1 = 5 := by omega
  rcases hr1 with rfl | rfl | rfl | rfl | rfl | rfl
  · exact ⟨.calm, s3, main _ rfl, trivial, hA⟩
  · exact ⟨.short, s3, main _ rfl, trivial, hA⟩
  · exact ⟨.thin, s3, main _ rfl, trivial, hA⟩
  · exact ⟨.cut r2.toNat, s3, main _ rfl, hk, hA⟩
  · exact ⟨.drop r2.toNat, s3, main _ rfl, hk, hA⟩
  · exact ⟨.again (1 + r3), s3, main _ rfl, ⟨by omega, by omega⟩, hA⟩
def TRS : List Str := ["none", "lose", "amid", "join", "fold"]
abbrev cntEl : CE := .bin false .add (.cst (.int (1))) (.call "_law_pick" (.cons (.var 0) (.cons (.cst (.int (2))) .nil)))
abbrev boxEl : CE := .call "_law_box_drawn" (.cons (.var 0) (.cons (.var 3) .nil))
theorem cnt_body (n : Nat) {k : Nat} {ns : List Int} (v1 v2 v3 v4 : Option Mini.D) (x : Mini.D) (acc : List Mini.D) (st : Sto) (ha : acc.length < line) (hr : RowAt k ns st) :
    ∃ y st', compB (run_ (n + 1)) L.sub [4] (.name 4) (.cst (.bl true)) cntEl [some (.ref k), v1, v2, v3, v4] x acc st = .ok (acc ++ [y]) st' ∧ (∃ c : Int, y = .int c ∧ (c = 1 ∨ c = 2)) ∧ Adv k ns st st' := by
  obtain ⟨r, s1, e, h0, h1, a⟩ := pick_adv n hr (many := 2) (by decide) (by decide)
  refine ⟨.int (1 + r), s1, ?_, ⟨_, rfl, by omega⟩, a⟩
  have ha' : acc.length < 16777216 := ha
  simp only [evSs, evS, evE, evEs, evG, evGs, evI, List.getElem?_cons_zero, List.getElem?_cons_succ, bind_ok, fl_ok, fb_nx, fb_rt, nox_ok, opt_some, optB_some, blR_bl, asS_tup, asS_lst, asSK_tup, asSK_lst, asL_lst, lenGs, List.length_cons, List.length_nil, Nat.reduceAdd, Nat.reduceLT, Nat.reduceLeDiff, if_true, line, Nat.reducePow, List.set_cons_succ, List.set_cons_zero, retR_false, retR_int, evC_int, evC_bl, evC_str, evC_lst, evC_tup, evC_non, evC_is, evC_isn, cmp_eq_str, cmp_ne_str, cmp_eq_int, cmp_ne_int, cmp_eq_is, cmp_eq_ns, str_eq, String.reduceEq, decide_true, decide_false, Bool.not_true, Bool.not_false, is_non, isn_non, is_tup, isn_tup, is_lst, isn_lst, is_str, isn_str, is_int, isn_int, compB, wipeE, List.foldr_cons, List.foldr_nil, e, bin_add, ha']
theorem box_body (n : Nat) {k t : Nat} {ns : List Int} {cs : List Int} (hc : okc cs) (hkt : t ≠ k) (v1 v2 v4 : Option Mini.D) (x : Mini.D) (acc : List Mini.D) (st : Sto) (ha : acc.length < line) (hr : RowAt k ns st) (hI : ∀ b, Adv k ns st b → idxD b (.ref t) (.str "counts") = some (.tup (cs.map .int))) :
    ∃ y st', compB (run_ (n + 2)) L.sub [4] (.name 4) (.cst (.bl true)) boxEl [some (.ref k), v1, v2, some (.ref t), v4] x acc st = .ok (acc ++ [y]) st' ∧ (∃ b : Bx, y = bxD b ∧ bxOk cs b) ∧ Adv k ns st st' := by
  obtain ⟨b, s1, e, h0, a⟩ := box_drawn_ok n hc hr hkt hI
  refine ⟨bxD b, s1, ?_, ⟨b, rfl, h0⟩, a⟩
  have ha' : acc.length < 16777216 := ha
  simp only [evSs, evS, evE, evEs, evG, evGs, evI, List.getElem?_cons_zero, List.getElem?_cons_succ, bind_ok, fl_ok, fb_nx, fb_rt, nox_ok, opt_some, optB_some, blR_bl, asS_tup, asS_lst, asSK_tup, asSK_lst, asL_lst, lenGs, List.length_cons, List.length_nil, Nat.reduceAdd, Nat.reduceLT, Nat.reduceLeDiff, if_true, line, Nat.reducePow, List.set_cons_succ, List.set_cons_zero, retR_false, retR_int, evC_int, evC_bl, evC_str, evC_lst, evC_tup, evC_non, evC_is, evC_isn, cmp_eq_str, cmp_ne_str, cmp_eq_int, cmp_ne_int, cmp_eq_is, cmp_eq_ns, str_eq, String.reduceEq, decide_true, decide_false, Bool.not_true, Bool.not_false, is_non, isn_non, is_tup, isn_tup, is_lst, isn_lst, is_str, isn_str, is_int, isn_int, compB, wipeE, List.foldr_cons, List.foldr_nil, e, ha']
theorem ex_ints : ∀ {ys : List Mini.D}, (∀ y ∈ ys, ∃ c : Int, y = .int c ∧ (c = 1 ∨ c = 2)) → ∃ cs : List Int, ys = cs.map .int ∧ ∀ c ∈ cs, c = 1 ∨ c = 2
  | [], _ => ⟨[], rfl, fun _ h => by cases h⟩
  | y :: r, h => by
    obtain ⟨c, rfl, hc⟩ := h y List.mem_cons_self
    obtain ⟨cs, rfl, hcs⟩ := ex_ints fun z hz => h z (List.mem_cons_of_mem _ hz)
    refine ⟨c :: cs, rfl, ?_⟩
    intro z hz
    rcases List.mem_cons.mp hz with rfl | hz
    · exact hc
    · exact hcs z hz
theorem ex_bxs {cs : List Int} : ∀ {ys : List Mini.D}, (∀ y ∈ ys, ∃ b : Bx, y = bxD b ∧ bxOk cs b) → ∃ bs : List Bx, ys = bs.map bxD ∧ ∀ b ∈ bs, bxOk cs b
  | [], _ => ⟨[], rfl, fun _ h => by cases h⟩
  | y :: r, h => by
    obtain ⟨c, rfl, hc⟩ := h y List.mem_cons_self
    obtain ⟨bs, rfl, hcs⟩ := ex_bxs fun z hz => h z (List.mem_cons_of_mem _ hz)
    refine ⟨c :: bs, rfl, ?_⟩
    intro z hz
    rcases List.mem_cons.mp hz with rfl | hz
    · exact hc
    · exact hcs z hz
/-- statement 1 -/
theorem drawn1 (n : Nat) {st : Sto} {k : Nat} {ns : List Int} {many : Int} (v2 v3 v4 : Option Mini.D) (hm : 0 < many) (hm3 : many ≤ 3) (hr : RowAt k ns st) :
    ∃ cs a, okc cs ∧ Adv k ns st a ∧ (cs.length : Int) ≤ many ∧ evS (run_ (n + 2)) L.sub L.efs L.wf (.asg (.name 3) (.dct true (.cons (.cst (.str "counts")) (.cons (.bi false .tuple (.cons (.comp false [4] (.name 4) (.rng (.cst (.int (0))) (.bin false .add (.cst (.int (1))) (.call "_law_pick" (.cons (.var 0) (.cons (.var 1) .nil))))) (.cst (.bl true)) cntEl) .nil)) .nil)))) [some (.ref k), some (.int many), v2, v3, v4] st
      = .nx [some (.ref k), some (.int many), v2, some (.ref st.length), v4] (a ++ [.dct [.str "counts"] [.tup (cs.map .int)]]) := by
  have hk := hr.lt
  obtain ⟨r, s1, e1, h0, h1, a1⟩ := pick_adv (n + 1) (hr.app [.dct [] []]) hm (by omega)
  obtain ⟨ys, s2, e2, hl, hys, a2⟩ := loop_adv (k := k) (ns := ns) (fun y => ∃ c : Int, y = .int c ∧ (c = 1 ∨ c = 2)) (fun _ => True) (fun _ _ _ _ => trivial) (fun x acc s ha hr _ => cnt_body (n + 1) (some (.int many)) v2 v3 v4 x acc s ha hr) (rngD 0 (1 + r)) [] s1 (by rw [rng_len]; unfold line; simp only [List.length_nil]; omega) a1.row trivial
  obtain ⟨cs, rfl, hcs⟩ := ex_ints hys
  rw [List.length_map, rng_len] at hl
  obtain ⟨a, rfl, hA⟩ := Adv.app hk [.dct [] []] (a1.trans a2)
  refine ⟨cs, a, ⟨by omega, by omega, hcs⟩, hA, by omega, ?_⟩
  have hal : a.length = st.length := hA.len
  have ec : evE (run_ (n + 2)) L.sub (.comp false [4] (.name 4) (.rng (.cst (.int (0))) (.bin false .add (.cst (.int (1))) (.call "_law_pick" (.cons (.var 0) (.cons (.var 1) .nil))))) (.cst (.bl true)) cntEl) [some (.ref k), some (.int many), v2, v3, v4] (st ++ [.dct [] []]) = .ok (.lst (cs.map .int)) (a ++ [.dct [] []]) := by
    rw [evE_comp]
    have ei : evI (run_ (n + 2)) L.sub (.rng (.cst (.int (0))) (.bin false .add (.cst (.int (1))) (.call "_law_pick" (.cons (.var 0) (.cons (.var 1) .nil))))) [some (.ref k), some (.int many), v2, v3, v4] (st ++ [.dct [] []]) = .ok (rngD 0 (1 + r), fun _ => true) s1 := by
      have q1 : (decide (-(2 ^ 62) ≤ (0 : Int)) && decide ((0 : Int) < 2 ^ 62) && decide (-(2 ^ 62) ≤ 1 + r) && decide (1 + r < 2 ^ 62)) = true := by
        simp only [Bool.and_eq_true, decide_eq_true_eq]
        omega
      simp only [evI, evE, evEs, List.getElem?_cons_zero, List.getElem?_cons_succ, bind_ok, e1, bin_add, retR_false]
      rw [if_pos q1]
    rw [ei, bind_ok, e2, bind_ok, retR_false, List.nil_append]
  refine evS_asg (d := .ref st.length) (s1 := a ++ [.dct [.str "counts"] [.tup (cs.map .int)]]) ?_ rfl
  have ed : evEs (run_ (n + 2)) L.sub (.cons (.cst (.str "counts")) (.cons (.bi false .tuple (.cons (.comp false [4] (.name 4) (.rng (.cst (.int (0))) (.bin false .add (.cst (.int (1))) (.call "_law_pick" (.cons (.var 0) (.cons (.var 1) .nil))))) (.cst (.bl true)) cntEl) .nil)) .nil)) [some (.ref k), some (.int many), v2, v3, v4] (st ++ [.dct [] []]) = .ok [.str "counts", .tup (cs.map .int)] (a ++ [.dct [] []]) := by
    conv => lhs; unfold evEs
    rw [show evE (run_ (n + 2)) L.sub (.cst (.str "counts")) [some (.ref k), some (.int many), v2, v3, v4] (st ++ [.dct [] []]) = .ok (.str "counts") (st ++ [.dct [] []]) by unfold evE; rfl, bind_ok]
    conv => lhs; unfold evEs
    have eb : evE (run_ (n + 2)) L.sub (.bi false .tuple (.cons (.comp false [4] (.name 4) (.rng (.cst (.int (0))) (.bin false .add (.cst (.int (1))) (.call "_law_pick" (.cons (.var 0) (.cons (.var 1) .nil))))) (.cst (.bl true)) cntEl) .nil)) [some (.ref k), some (.int many), v2, v3, v4] (st ++ [.dct [] []]) = .ok (.tup (cs.map .int)) (a ++ [.dct [] []]) := by
      conv => lhs; unfold evE
      conv => lhs; unfold evEs
      rw [ec]
      rfl
    rw [eb]
    rfl
  conv => lhs; unfold evE
  show ((evEs _ _ _ _ (st ++ [.dct [] []])).bind _) = _
  rw [ed, bind_ok]
  have g : (a ++ [SO.dct [] []])[st.length]? = some (.dct [] []) := by rw [← hal]; simp
  have gs : (a ++ [SO.dct [] []]).set st.length (.dct [.str "counts"] [.tup (cs.map .int)]) = a ++ [.dct [.str "counts"] [.tup (cs.map .int)]] := by
    rw [← hal]; simp
  simp only [g]
  show (if _ then Res.ok (Mini.D.ref st.length) ((a ++ [SO.dct [] []]).set st.length (.dct [.str "counts"] [.tup (cs.map .int)])) else .bad) = _
  rw [if_pos (by rfl), gs]
theorem pick_app (n : Nat) {k : Nat} {ns : List Int} {a : Sto} (x : Sto) (h : RowAt k ns a) {many : Int} (hm : 0 < many) (hm2 : many < 1073741824) :
    ∃ r a', run_ (n + 1) "_law_pick" [.ref k, .int many] (a ++ x) = .ok (.int r) (a' ++ x) ∧ 0 ≤ r ∧ r < many ∧ Adv k ns a a' := by
  obtain ⟨r, s, e, h0, h1, ha⟩ := pick_adv n (h.app x) hm hm2
  obtain ⟨a', rfl, hA⟩ := Adv.app h.lt x ha
  exact ⟨r, a', e, h0, h1, hA⟩
theorem set_last {a : Sto} {N : Nat} (hN : a.length = N) {ks xs : List Mini.D} {i v : Mini.D} {env : Mini.Env} (hk : (keyOk ks i && decide (ks.length < line)) = true) : setIR (.ref N) i v (a ++ [.dct ks xs]) env = .ok env (a ++ [.dct (putD ks xs i v).1 (putD ks xs i v).2]) := by
  have g : (a ++ [SO.dct ks xs])[N]? = some (.dct ks xs) := by rw [← hN]; simp
  unfold setIR
  simp only [g]
  rw [if_pos hk, ← hN]
  simp
theorem mem2 {α : Type} {a b x : α} (h : x ∈ [a, b]) : x = a ∨ x = b := by simpa using h
/-- statements 2 to 4 -/
theorem drawn2 (n : Nat) {a : Sto} {N : Nat} (hN : a.length = N) {k : Nat} {ns : List Int} {cs : List Int} (v1 v2 v4 : Option Mini.D) (hr : RowAt k ns a) (rest : CSs) :
    ∃ clr any ev tr a', Adv k ns a a' ∧ 0 ≤ ev ∧ ev < 4 ∧ tr ∈ TRS ∧ evSs (run_ (n + 2)) L.sub L.efs L.wf (.cons (.asg (.tup (.cons (.sub (.var 3) (.cst (.str "talk"))) (.cons (.sub (.var 3) (.cst (.str "end"))) .nil))) (.tup (.cons (.idx (.lst false (.cons (.cst (.str "clears")) (.cons (.cst (.str "keeps")) .nil))) (.call "_law_pick" (.cons (.var 0) (.cons (.cst (.int (2))) .nil)))) (.cons (.idx (.lst false (.cons (.cst (.str "any")) (.cons (.cst (.str "own")) .nil))) (.call "_law_pick" (.cons (.var 0) (.cons (.cst (.int (2))) .nil)))) .nil)))) (.cons (.asg (.sub (.var 3) (.cst (.str "every"))) (.call "_law_pick" (.cons (.var 0) (.cons (.cst (.int (4))) .nil)))) (.cons (.asg (.sub (.var 3) (.cst (.str "trouble"))) (.idx (.lst false (.cons (.cst (.str "none")) (.cons (.cst (.str "lose")) (.cons (.cst (.str "amid")) (.cons (.cst (.str "join")) (.cons (.cst (.str "fold")) .nil)))))) (.call "_law_pick" (.cons (.var 0) (.cons (.cst (.int (5))) .nil))))) rest))) [some (.ref k), v1, v2, some (.ref N), v4] (a ++ [.dct [.str "counts"] [.tup (cs.map .int)]])
      = evSs (run_ (n + 2)) L.sub L.efs L.wf rest [some (.ref k), v1, v2, some (.ref N), v4] (a' ++ [.dct [.str "counts", .str "talk", .str "end", .str "every", .str "trouble"] [.tup (cs.map .int), .str (tS clr), .str (eS any), .int ev, .str tr]]) := by
  obtain ⟨r1, a1, e1, h1, h1', A1⟩ := pick_app (n + 1) [.dct [.str "counts"] [.tup (cs.map .int)]] hr (many := 2) (by decide) (by decide)
  obtain ⟨r2, a2, e2, h2, h2', A2⟩ := pick_app (n + 1) [.dct [.str "counts"] [.tup (cs.map .int)]] A1.row (many := 2) (by decide) (by decide)
  have hN1 : a1.length = N := by rw [A1.len, hN]
  have hN2 : a2.length = N := by rw [A2.len, hN1]
  obtain ⟨d1, m1, i1⟩ := atPick (xs := [.str "clears", .str "keeps"]) h1 h1'
  obtain ⟨d2, m2, i2⟩ := atPick (xs := [.str "any", .str "own"]) h2 h2'
  obtain ⟨clr, rfl⟩ : ∃ clr, d1 = .str (tS clr) := by
    rcases mem2 m1 with rfl | rfl
    · exact ⟨true, rfl⟩
    · exact ⟨false, rfl⟩
  obtain ⟨any, rfl⟩ : ∃ any, d2 = .str (eS any) := by
    rcases mem2 m2 with rfl | rfl
    · exact ⟨true, rfl⟩
    · exact ⟨false, rfl⟩
  obtain ⟨r3, a3, e3, h3, h3', A3⟩ := pick_app (n + 1) [.dct [.str "counts", .str "talk", .str "end"] [.tup (cs.map .int), .str (tS clr), .str (eS any)]] A2.row (many := 4) (by decide) (by decide)
  have hN3 : a3.length = N := by rw [A3.len, hN2]
  obtain ⟨r4, a4, e4, h4, h4', A4⟩ := pick_app (n + 1) [.dct [.str "counts", .str "talk", .str "end", .str "every"] [.tup (cs.map .int), .str (tS clr), .str (eS any), .int r3]] A3.row (many := 5) (by decide) (by decide)
  have hN4 : a4.length = N := by rw [A4.len, hN3]
  obtain ⟨d4, m4, i4⟩ := atPick (xs := [.str "none", .str "lose", .str "amid", .str "join", .str "fold"]) h4 h4'
  obtain ⟨tr, ht, rfl⟩ : ∃ tr : Str, tr ∈ TRS ∧ d4 = .str tr := by
    revert m4
    simp only [List.mem_cons, List.not_mem_nil, or_false]
    rintro (rfl | rfl | rfl | rfl | rfl)
    · exact ⟨"none", by decide, rfl⟩
    · exact ⟨"lose", by decide, rfl⟩
    · exact ⟨"amid", by decide, rfl⟩
    · exact ⟨"join", by decide, rfl⟩
    · exact ⟨"fold", by decide, rfl⟩
  refine ⟨clr, any, r3, tr, a4, ((A1.trans A2).trans A3).trans A4, h3, h3', ht, ?_⟩
  have s1 : ∀ env, setIR (.ref N) (.str "talk") (.str (tS clr)) (a2 ++ [.dct [.str "counts"] [.tup (cs.map .int)]]) env = .ok env (a2 ++ [.dct [.str "counts", .str "talk"] [.tup (cs.map .int), .str (tS clr)]]) := fun env => set_last hN2 rfl
  have s2 : ∀ env, setIR (.ref N) (.str "end") (.str (eS any)) (a2 ++ [.dct [.str "counts", .str "talk"] [.tup (cs.map .int), .str (tS clr)]]) env = .ok env (a2 ++ [.dct [.str "counts", .str "talk", .str "end"] [.tup (cs.map .int), .str (tS clr), .str (eS any)]]) := fun env => set_last hN2 rfl
  have s3 : ∀ env, setIR (.ref N) (.str "every") (.int r3) (a3 ++ [.dct [.str "counts", .str "talk", .str "end"] [.tup (cs.map .int), .str (tS clr), .str (eS any)]]) env = .ok env (a3 ++ [.dct [.str "counts", .str "talk", .str "end", .str "every"] [.tup (cs.map .int), .str (tS clr), .str (eS any), .int r3]]) := fun env => set_last hN3 rfl
  have s4 : ∀ env, setIR (.ref N) (.str "trouble") (.str tr) (a4 ++ [.dct [.str "counts", .str "talk", .str "end", .str "every"] [.tup (cs.map .int), .str (tS clr), .str (eS any), .int r3]]) env = .ok env (a4 ++ [.dct [.str "counts", .str "talk", .str "end", .str "every", .str "trouble"] [.tup (cs.map .int), .str (tS clr), .str (eS any), .int r3, .str tr]]) := fun env => set_last hN4 rfl
  have q2 : evS (run_ (n + 2)) L.sub L.efs L.wf (.asg (.tup (.cons (.sub (.var 3) (.cst (.str "talk"))) (.cons (.sub (.var 3) (.cst (.str "end"))) .nil))) (.tup (.cons (.idx (.lst false (.cons (.cst (.str "clears")) (.cons (.cst (.str "keeps")) .nil))) (.call "_law_pick" (.cons (.var 0) (.cons (.cst (.int (2))) .nil)))) (.cons (.idx (.lst false (.cons (.cst (.str "any")) (.cons (.cst (.str "own")) .nil))) (.call "_law_pick" (.cons (.var 0) (.cons (.cst (.int (2))) .nil)))) .nil)))) [some (.ref k), v1, v2, some (.ref N), v4] (a ++ [.dct [.str "counts"] [.tup (cs.map .int)]]) = .nx [some (.ref k), v1, v2, some (.ref N), v4] (a2 ++ [.dct [.str "counts", .str "talk", .str "end"] [.tup (cs.map .int), .str (tS clr), .str (eS any)]]) := by
    simp only [evSs, evS, evE, evEs, evG, evGs, evI, List.getElem?_cons_zero, List.getElem?_cons_succ, bind_ok, fl_ok, fb_nx, fb_rt, nox_ok, opt_some, optB_some, blR_bl, asS_tup, asS_lst, asSK_tup, asSK_lst, asL_lst, lenGs, List.length_cons, List.length_nil, Nat.reduceAdd, Nat.reduceLT, Nat.reduceLeDiff, if_true, line, Nat.reducePow, List.set_cons_succ, List.set_cons_zero, retR_false, retR_int, evC_int, evC_bl, evC_str, evC_lst, evC_tup, evC_non, evC_is, evC_isn, cmp_eq_str, cmp_ne_str, cmp_eq_int, cmp_ne_int, cmp_eq_is, cmp_eq_ns, str_eq, String.reduceEq, decide_true, decide_false, Bool.not_true, Bool.not_false, is_non, isn_non, is_tup, isn_tup, is_lst, isn_lst, is_str, isn_str, is_int, isn_int, e1, e2, i1, i2, s1, s2]
  have q3 : evS (run_ (n + 2)) L.sub L.efs L.wf (.asg (.sub (.var 3) (.cst (.str "every"))) (.call "_law_pick" (.cons (.var 0) (.cons (.cst (.int (4))) .nil)))) [some (.ref k), v1, v2, some (.ref N), v4] (a2 ++ [.dct [.str "counts", .str "talk", .str "end"] [.tup (cs.map .int), .str (tS clr), .str (eS any)]]) = .nx [some (.ref k), v1, v2, some (.ref N), v4] (a3 ++ [.dct [.str "counts", .str "talk", .str "end", .str "every"] [.tup (cs.map .int), .str (tS clr), .str (eS any), .int r3]]) := by
    simp only [evSs, evS, evE, evEs, evG, evGs, evI, List.getElem?_cons_zero, List.getElem?_cons_succ, bind_ok, fl_ok, fb_nx, fb_rt, nox_ok, opt_some, optB_some, blR_bl, asS_tup, asS_lst, asSK_tup, asSK_lst, asL_lst, lenGs, List.length_cons, List.length_nil, Nat.reduceAdd, Nat.reduceLT, Nat.reduceLeDiff, if_true, line, Nat.reducePow, List.set_cons_succ, List.set_cons_zero, retR_false, retR_int, evC_int, evC_bl, evC_str, evC_lst, evC_tup, evC_non, evC_is, evC_isn, cmp_eq_str, cmp_ne_str, cmp_eq_int, cmp_ne_int, cmp_eq_is, cmp_eq_ns, str_eq, String.reduceEq, decide_true, decide_false, Bool.not_true, Bool.not_false, is_non, isn_non, is_tup, isn_tup, is_lst, isn_lst, is_str, isn_str, is_int, isn_int, e3, s3]
  have q4 : evS (run_ (n + 2)) L.sub L.efs L.wf (.asg (.sub (.var 3) (.cst (.str "trouble"))) (.idx (.lst false (.cons (.cst (.str "none")) (.cons (.cst (.str "lose")) (.cons (.cst (.str "amid")) (.cons (.cst (.str "join")) (.cons (.cst (.str "fold")) .nil)))))) (.call "_law_pick" (.cons (.var 0) (.cons (.cst (.int (5))) .nil))))) [some (.ref k), v1, v2, some (.ref N), v4] (a3 ++ [.dct [.str "counts", .str "talk", .str "end", .str "every"] [.tup (cs.map .int), .str (tS clr), .str (eS any), .int r3]]) = .nx [some (.ref k), v1, v2, some (.ref N), v4] (a4 ++ [.dct [.str "counts", .str "talk", .str "end", .str "every", .str "trouble"] [.tup (cs.map .int), .str (tS clr), .str (eS any), .int r3, .str tr]]) := by
    simp only [evSs, evS, evE, evEs, evG, evGs, evI, List.getElem?_cons_zero, List.getElem?_cons_succ, bind_ok, fl_ok, fb_nx, fb_rt, nox_ok, opt_some, optB_some, blR_bl, asS_tup, asS_lst, asSK_tup, asSK_lst, asL_lst, lenGs, List.length_cons, List.length_nil, Nat.reduceAdd, Nat.reduceLT, Nat.reduceLeDiff, if_true, line, Nat.reducePow, List.set_cons_succ, List.set_cons_zero, retR_false, retR_int, evC_int, evC_bl, evC_str, evC_lst, evC_tup, evC_non, evC_is, evC_isn, cmp_eq_str, cmp_ne_str, cmp_eq_int, cmp_ne_int, cmp_eq_is, cmp_eq_ns, str_eq, String.reduceEq, decide_true, decide_false, Bool.not_true, Bool.not_false, is_non, isn_non, is_tup, isn_tup, is_lst, isn_lst, is_str, isn_str, is_int, isn_int, e4, i4, s4]
  rw [evSs_nx q2, evSs_nx q3, evSs_nx q4]
/-- statement 5 -/
theorem drawn3 (n : Nat) {a : Sto} {N : Nat} (hN : a.length = N) {k : Nat} {ns : List Int} {cs : List Int} {clr any : Bool} {ev : Int} {tr : Str} {bx : Int} (hc : okc cs) (v1 v4 : Option Mini.D) (h0 : 0 ≤ bx) (h4 : bx ≤ 4) (hr : RowAt k ns a) :
    ∃ (bs : List Bx) (a' : Sto), Adv k ns a a' ∧ (∀ b ∈ bs, bxOk cs b) ∧ (bs.length : Int) ≤ bx ∧ evS (run_ (n + 3)) L.sub L.efs L.wf (.asg (.sub (.var 3) (.cst (.str "boxes"))) (.bi false .tuple (.cons (.comp false [4] (.name 4) (.rng (.cst (.int (0))) (.call "_law_pick" (.cons (.var 0) (.cons (.bin false .add (.var 2) (.cst (.int (1)))) .nil)))) (.cst (.bl true)) boxEl) .nil)))
        [some (.ref k), v1, some (.int bx), some (.ref N), v4] (a ++ [.dct [.str "counts", .str "talk", .str "end", .str "every", .str "trouble"] [.tup (cs.map .int), .str (tS clr), .str (eS any), .int ev, .str tr]])
      = .nx [some (.ref k), v1, some (.int bx), some (.ref N), v4] (a' ++ [.dct tKeys [.tup (cs.map .int), .str (tS clr), .str (eS any), .int ev, .str tr, .tup (bs.map bxD)]]) := by
  have hk := hr.lt
  obtain ⟨r, s1, e1, g0, g1, a1⟩ := pick_adv (n + 2) (hr.app [.dct [.str "counts", .str "talk", .str "end", .str "every", .str "trouble"] [.tup (cs.map .int), .str (tS clr), .str (eS any), .int ev, .str tr]]) (many := bx + 1) (by omega) (by omega)
  have hI : ∀ (s b : Sto), Adv k ns (a ++ [.dct [.str "counts", .str "talk", .str "end", .str "every", .str "trouble"] [.tup (cs.map .int), .str (tS clr), .str (eS any), .int ev, .str tr]]) s → Adv k ns s b → idxD b (.ref N) (.str "counts") = some (.tup (cs.map .int)) := by
    intro s b h1 h2
    have h := h1.trans h2
    have g : b[N]? = some (.dct [.str "counts", .str "talk", .str "end", .str "every", .str "trouble"] [.tup (cs.map .int), .str (tS clr), .str (eS any), .int ev, .str tr]) := by
      rw [h.get (by omega)]; exact get_last hN _
    simp only [idxD, asS, asL, asC, g]
    rfl
  obtain ⟨ys, s2, e2, hl, hys, a2⟩ := loop_adv (k := k) (ns := ns) (fun y => ∃ b : Bx, y = bxD b ∧ bxOk cs b) (fun s => Adv k ns (a ++ [.dct [.str "counts", .str "talk", .str "end", .str "every", .str "trouble"] [.tup (cs.map .int), .str (tS clr), .str (eS any), .int ev, .str tr]]) s) (fun _ _ h g => h.trans g) (fun x acc s ha hr hs => box_body (n + 1) hc (by omega) v1 (some (.int bx)) v4 x acc s ha hr fun b hb => hI s b hs hb) (rngD 0 r) [] s1 (by rw [rng_len]; unfold line; simp only [List.length_nil]; omega) a1.row a1
  obtain ⟨bs, rfl, hbs⟩ := ex_bxs hys
  rw [List.length_map, rng_len] at hl
  obtain ⟨a', rfl, hA⟩ := Adv.app hk _ (a1.trans a2)
  have hN' : a'.length = N := by rw [hA.len, hN]
  refine ⟨bs, a', hA, hbs, by omega, ?_⟩
  have q1 : (decide (-(2 ^ 62) ≤ (0 : Int)) && decide ((0 : Int) < 2 ^ 62) && decide (-(2 ^ 62) ≤ r) && decide (r < 2 ^ 62)) = true := by
    simp only [Bool.and_eq_true, decide_eq_true_eq]
    omega
  have ei : evI (run_ (n + 3)) L.sub (.rng (.cst (.int (0))) (.call "_law_pick" (.cons (.var 0) (.cons (.bin false .add (.var 2) (.cst (.int (1)))) .nil)))) [some (.ref k), v1, some (.int bx), some (.ref N), v4] (a ++ [.dct [.str "counts", .str "talk", .str "end", .str "every", .str "trouble"] [.tup (cs.map .int), .str (tS clr), .str (eS any), .int ev, .str tr]]) = .ok (rngD 0 r, fun _ => true) s1 := by
    simp only [evI, evE, evEs, List.getElem?_cons_zero, List.getElem?_cons_succ, bind_ok, bin_add, retR_false, e1]
    rw [if_pos q1]
  have ec : evE (run_ (n + 3)) L.sub (.comp false [4] (.name 4) (.rng (.cst (.int (0))) (.call "_law_pick" (.cons (.var 0) (.cons (.bin false .add (.var 2) (.cst (.int (1)))) .nil)))) (.cst (.bl true)) boxEl) [some (.ref k), v1, some (.int bx), some (.ref N), v4] (a ++ [.dct [.str "counts", .str "talk", .str "end", .str "every", .str "trouble"] [.tup (cs.map .int), .str (tS clr), .str (eS any), .int ev, .str tr]]) = .ok (.lst (bs.map bxD)) (a' ++ [.dct [.str "counts", .str "talk", .str "end", .str "every", .str "trouble"] [.tup (cs.map .int), .str (tS clr), .str (eS any), .int ev, .str tr]]) := by
    rw [evE_comp, ei, bind_ok, e2, bind_ok, retR_false, List.nil_append]
  have sl : ∀ env v, setIR (.ref N) (.str "boxes") v (a' ++ [.dct [.str "counts", .str "talk", .str "end", .str "every", .str "trouble"] [.tup (cs.map .int), .str (tS clr), .str (eS any), .int ev, .str tr]]) env = .ok env (a' ++ [.dct tKeys [.tup (cs.map .int), .str (tS clr), .str (eS any), .int ev, .str tr, v]]) := fun env v => set_last hN' rfl
  refine evS_asg (d := .tup (bs.map bxD)) (s1 := a' ++ [.dct [.str "counts", .str "talk", .str "end", .str "every", .str "trouble"] [.tup (cs.map .int), .str (tS clr), .str (eS any), .int ev, .str tr]]) ?_ ?_
  · conv => lhs; unfold evE
    conv => lhs; unfold evEs
    rw [ec]
    rfl
  · simp only [evSs, evS.eq_1, evS.eq_2, evS.eq_3, evS.eq_4, evS.eq_5, evS.eq_8, evS.eq_9, evS.eq_10, evS.eq_11, evS.eq_12, evS.eq_13, evS.eq_14, E_forr, E_whl, evE.eq_1, evE.eq_2, evE.eq_3, evE.eq_4, evE.eq_5, evE.eq_6, evE.eq_7, evE.eq_8, evE.eq_9, evE.eq_10, evE.eq_11, evE.eq_12, evE.eq_13, evE.eq_14, evE.eq_15, evE.eq_16, evE.eq_17, evE.eq_18, evE.eq_19, evE.eq_20, evE.eq_21, evE.eq_22, evE.eq_23, evE.eq_24, evE.eq_25, evE.eq_26, evE.eq_27, evE.eq_28, evE.eq_32, evE.eq_33, evE.eq_34, evE_comp, evEs, evG, evGs, evI, List.getElem?_cons_zero, List.getElem?_cons_succ, bind_ok, fl_ok, fb_nx, fb_rt, nox_ok, opt_some, optB_some, blR_bl, asS_tup, asS_lst, asSK_tup, asSK_lst, asL_lst, lenGs, List.length_cons, List.length_nil, Nat.reduceAdd, Nat.reduceLT, Nat.reduceLeDiff, if_true, line, Nat.reducePow, List.set_cons_succ, List.set_cons_zero, retR_false, retR_int, evC_int, evC_bl, evC_str, evC_lst, evC_tup, evC_non, evC_is, evC_isn, cmp_eq_str, cmp_ne_str, cmp_eq_int, cmp_ne_int, cmp_eq_is, cmp_eq_ns, str_eq, String.reduceEq, decide_true, decide_false, Bool.not_true, Bool.not_false, is_non, isn_non, is_tup, isn_tup, is_lst, isn_lst, is_str, isn_str, is_int, isn_int, List.map_cons, List.map_nil, Nat.sub_self, List.replicate, List.append_nil, bind_exc, fl_exc, fb_ex, fb_rt, Bool.and_self, cmp_lt_int, cmp_le_int, cmp_gt_int, cmp_ge_int, bin_add, List.cons_append, List.nil_append, Nat.reduceSub, nc0, nc1, nc2, nc3, nc4, nc5, nc6, nc7, nc8, nc9, Int.reduceEq, Int.reduceLT, Int.reduceLE, Int.reduceNe, Bool.false_eq_true, if_false, sl]
theorem bds_bxs (bs : List Bx) (m : Nat) : bds m (bs.map bxD) = true := by
  rw [bds_all]
  intro x hx
  obtain ⟨b, _, rfl⟩ := List.mem_map.mp hx
  exact dat_bd m (dat_bx b)
theorem drawn_body (n : Nat) {st : Sto} {k : Nat} {ns : List Int} {many bx : Int} (hm : 0 < many) (hm3 : many ≤ 3) (h0 : 0 ≤ bx) (h4 : bx ≤ 4) (hr : RowAt k ns st) :
    ∃ (cs : List Int) (clr any : Bool) (ev : Int) (tr : Str) (bs : List Bx) (a3 : Sto), okc cs ∧ (cs.length : Int) ≤ many ∧ 0 ≤ ev ∧ ev < 4 ∧ tr ∈ TRS ∧ (∀ b ∈ bs, bxOk cs b) ∧ (bs.length : Int) ≤ bx ∧ Adv k ns st a3 ∧ evSs (run_ (n + 3)) L.sub L.efs L.wf ir__law_drawn [some (.ref k), some (.int many), some (.int bx), none, none] st = .rt (.ref st.length) (a3 ++ [.dct tKeys [.tup (cs.map .int), .str (tS clr), .str (eS any), .int ev, .str tr, .tup (bs.map bxD)]]) := by
  obtain ⟨cs, a1, hc, A1, hcm, e1⟩ := drawn1 (n + 1) (some (.int bx)) none none hm hm3 hr
  have hN1 : a1.length = st.length := A1.len
  obtain ⟨clr, any, ev, tr, a2, A2, h1, h2, h3, e2⟩ := drawn2 (n + 1) hN1 (cs := cs) (some (.int many)) (some (.int bx)) none A1.row (.cons (.asg (.sub (.var 3) (.cst (.str "boxes"))) (.bi false .tuple (.cons (.comp false [4] (.name 4) (.rng (.cst (.int (0))) (.call "_law_pick" (.cons (.var 0) (.cons (.bin false .add (.var 2) (.cst (.int (1)))) .nil)))) (.cst (.bl true)) boxEl) .nil))) (.cons (.ret (.var 3)) .nil))
  have hN2 : a2.length = st.length := by rw [A2.len, hN1]
  obtain ⟨bs, a3, A3, hbs, hbl, e3⟩ := drawn3 n hN2 (clr := clr) (any := any) (ev := ev) (tr := tr) hc (some (.int many)) none h0 h4 A2.row
  have A := (A1.trans A2).trans A3
  have hal : a3.length = st.length := A.len
  refine ⟨cs, clr, any, ev, tr, bs, a3, hc, hcm, h1, h2, h3, hbs, hbl, A, ?_⟩
  refine (evSs_nx e1).trans ?_
  refine e2.trans ?_
  refine (evSs_nx e3).trans ?_
  simp only [evSs, evS.eq_1, evS.eq_2, evS.eq_3, evS.eq_4, evS.eq_5, evS.eq_8, evS.eq_9, evS.eq_10, evS.eq_11, evS.eq_12, evS.eq_13, evS.eq_14, E_forr, E_whl, evE.eq_1, evE.eq_2, evE.eq_3, evE.eq_4, evE.eq_5, evE.eq_6, evE.eq_7, evE.eq_8, evE.eq_9, evE.eq_10, evE.eq_11, evE.eq_12, evE.eq_13, evE.eq_14, evE.eq_15, evE.eq_16, evE.eq_17, evE.eq_18, evE.eq_19, evE.eq_20, evE.eq_21, evE.eq_22, evE.eq_23, evE.eq_24, evE.eq_25, evE.eq_26, evE.eq_27, evE.eq_28, evE.eq_32, evE.eq_33, evE.eq_34, evE_comp, evEs, evG, evGs, evI, List.getElem?_cons_zero, List.getElem?_cons_succ, bind_ok, fl_ok, fb_nx, fb_rt, nox_ok, opt_some, optB_some, blR_bl, asS_tup, asS_lst, asSK_tup, asSK_lst, asL_lst, lenGs, List.length_cons, List.length_nil, Nat.reduceAdd, Nat.reduceLT, Nat.reduceLeDiff, if_true, line, Nat.reducePow, List.set_cons_succ, List.set_cons_zero, retR_false, retR_int, evC_int, evC_bl, evC_str, evC_lst, evC_tup, evC_non, evC_is, evC_isn, cmp_eq_str, cmp_ne_str, cmp_eq_int, cmp_ne_int, cmp_eq_is, cmp_eq_ns, str_eq, String.reduceEq, decide_true, decide_false, Bool.not_true, Bool.not_false, is_non, isn_non, is_tup, isn_tup, is_lst, isn_lst, is_str, isn_str, is_int, isn_int, List.map_cons, List.map_nil, Nat.sub_self, List.replicate, List.append_nil, bind_exc, fl_exc, fb_ex, fb_rt, Bool.and_self, cmp_lt_int, cmp_le_int, cmp_gt_int, cmp_ge_int, bin_add, List.cons_append, List.nil_append, Nat.reduceSub, nc0, nc1, nc2, nc3, nc4, nc5, nc6, nc7, nc8, nc9, Int.reduceEq, Int.reduceLT, Int.reduceLE, Int.reduceNe, Bool.false_eq_true, if_false, ]
theorem T_drawn_f : L.T "_law_drawn" = some (.fn none 3 5 false ir__law_drawn) := by rfl
/-- a line that is drawn -/
theorem drawn_ok (n : Nat) {st : Sto} {k : Nat} {ns : List Int} {many bx : Int} (hm : 0 < many) (hm3 : many ≤ 3) (h0 : 0 ≤ bx) (h4 : bx ≤ 4) (hr : RowAt k ns st) (hcl : st.all (bdS st.length) = true) :
    ∃ (cs : List Int) (clr any : Bool) (ev : Int) (tr : Str) (bs : List Bx) (st' : Sto), okc cs ∧ (cs.length : Int) ≤ many ∧ 0 ≤ ev ∧ ev < 4 ∧ tr ∈ TRS ∧ (∀ b ∈ bs, bxOk cs b) ∧ (bs.length : Int) ≤ bx ∧ Adv k ns st st' ∧ run_ (n + 4) "_law_drawn" [.ref k, .int many, .int bx] st = .ok (tD cs clr any ev tr (bs.map bxD)) st' := by
  obtain ⟨cs, clr, any, ev, tr, bs, a3, hc, hcm, h1, h2, h3, hbs, hbl, A, hb⟩ := drawn_body n hm hm3 h0 h4 hr
  have hal : a3.length = st.length := A.len
  refine ⟨cs, clr, any, ev, tr, bs, a3, hc, hcm, h1, h2, h3, hbs, hbl, A, ?_⟩
  refine run_pg T_drawn_f (.inl (by simp [bds, bd])) rfl ?_
  show finB false st.length (evSs (run_ (n + 3)) L.sub L.efs L.wf ir__law_drawn [some (.ref k), some (.int many), some (.int bx), none, none] st) = _
  rw [hb]
  have hbd : bdS 0 (.dct tKeys [.tup (cs.map .int), .str (tS clr), .str (eS any), .int ev, .str tr, .tup (bs.map bxD)]) = true := bd_t (bds_bxs bs 0)
  have := fin_ref (s := a3 ++ [.dct tKeys [.tup (cs.map .int), .str (tS clr), .str (eS any), .int ev, .str tr, .tup (bs.map bxD)]]) (n := st.length) (j := 0) (so := .dct tKeys [.tup (cs.map .int), .str (tS clr), .str (eS any), .int ev, .str tr, .tup (bs.map bxD)]) (by simp [hal]) (by simp [hal]) (by rw [List.take_left' hal]; exact A.clsd hcl) (get_last hal _) hbd
  rw [List.take_left' hal] at this
  exact this
/-! speeches made; odd things -/
def CSL : List (List Int) := [[1], [2], [1, 1], [1, 2], [2, 1], [2, 2], [1, 1, 1], [1, 1, 2], [1, 2, 1], [1, 2, 2], [2, 1, 1], [2, 1, 2], [2, 2, 1], [2, 2, 2]]
theorem okc_mem {cs : List Int} (h : okc cs) : cs ∈ CSL := by
  obtain ⟨h1, h3, h⟩ := h
  match cs, h1, h3, h with
  | [a], _, _, h =>
    have ha := h a (by simp)
    rcases ha with rfl | rfl <;> decide
  | [a, b], _, _, h =>
    have ha := h a (by simp)
    have hb := h b (by simp)
    rcases ha with rfl | rfl <;> rcases hb with rfl | rfl <;> decide
  | [a, b, c], _, _, h =>
    have ha := h a (by simp)
    have hb := h b (by simp)
    have hc := h c (by simp)
    rcases ha with rfl | rfl <;> rcases hb with rfl | rfl <;> rcases hc with rfl | rfl <;> decide
/-- of all speeches -/
def allSp (f : List Int → Bool → Bool → Bool) : Bool := CSL.all fun cs => [true, false].all fun clr => [true, false].all fun any => f cs clr any
theorem allSp_ok {f : List Int → Bool → Bool → Bool} (h : allSp f = true) {cs : List Int} (hc : okc cs) (clr any : Bool) : f cs clr any = true := by
  have h1 := List.all_eq_true.mp h cs (okc_mem hc)
  have h2 := List.all_eq_true.mp h1 clr (by cases clr <;> decide)
  exact List.all_eq_true.mp h2 any (by cases any <;> decide)
theorem speech_all (n : Nat) : allSp (fun cs clr any => optD (valR (ev0 L.T L.sub L.efs L.wf (run_ (n + 3)) "Speech" [.tup (cs.map .int), .str (tS clr), .str (eS any)] [])) (spD cs clr any)) = true := by kernel_rfl
theorem speech_ok (n : Nat) (st : Sto) {cs : List Int} (hc : okc cs) (clr any : Bool) : run_ (n + 4) "Speech" [.tup (cs.map .int), .str (tS clr), .str (eS any)] st = .ok (spD cs clr any) st :=
  run_frame st (by simp only [bds_cons, bd_tup, bds_ints, bds_nil, bd_str, Bool.and_self]) rfl (optD_ok (allSp_ok (speech_all n) hc clr any))
theorem T_lspeech : L.T "_law_speech" = some (.fn none 1 1 false ir__law_speech) := by rfl
theorem lspeech_ok (n : Nat) (st : Sto) {cs : List Int} {clr any : Bool} {ev : Int} {tr : Str} {bx : List Mini.D} (hc : okc cs) (hb : bds 0 bx = true) : run_ (n + 5) "_law_speech" [tD cs clr any ev tr bx] st = .ok (spD cs clr any) st := by
  refine run_fn0 st T_lspeech (by rw [bds_cons, bd_t hb]; rfl) rfl ?_ (bd_sp clr any 0 hc)
  simp only [evSs, evS.eq_1, evS.eq_2, evS.eq_3, evS.eq_4, evS.eq_5, evS.eq_8, evS.eq_9, evS.eq_10, evS.eq_11, evS.eq_12, evS.eq_13, evS.eq_14, E_forr, E_whl, evE.eq_1, evE.eq_2, evE.eq_3, evE.eq_4, evE.eq_5, evE.eq_6, evE.eq_7, evE.eq_8, evE.eq_9, evE.eq_10, evE.eq_11, evE.eq_12, evE.eq_13, evE.eq_14, evE.eq_15, evE.eq_16, evE.eq_17, evE.eq_18, evE.eq_19, evE.eq_20, evE.eq_21, evE.eq_22, evE.eq_23, evE.eq_24, evE.eq_25, evE.eq_26, evE.eq_27, evE.eq_28, evE.eq_32, evE.eq_33, evE.eq_34, evE_comp, evEs, evG, evGs, evI, List.getElem?_cons_zero, List.getElem?_cons_succ, bind_ok, fl_ok, fb_nx, fb_rt, nox_ok, opt_some, optB_some, blR_bl, asS_tup, asS_lst, asSK_tup, asSK_lst, asL_lst, lenGs, List.length_cons, List.length_nil, Nat.reduceAdd, Nat.reduceLT, Nat.reduceLeDiff, if_true, line, Nat.reducePow, List.set_cons_succ, List.set_cons_zero, retR_false, retR_int, evC_int, evC_bl, evC_str, evC_lst, evC_tup, evC_non, evC_is, evC_isn, cmp_eq_str, cmp_ne_str, cmp_eq_int, cmp_ne_int, cmp_eq_is, cmp_eq_ns, str_eq, String.reduceEq, decide_true, decide_false, Bool.not_true, Bool.not_false, is_non, isn_non, is_tup, isn_tup, is_lst, isn_lst, is_str, isn_str, is_int, isn_int, List.map_cons, List.map_nil, Nat.sub_self, List.replicate, List.append_nil, bind_exc, fl_exc, fb_ex, fb_rt, Bool.and_self, cmp_lt_int, cmp_le_int, cmp_gt_int, cmp_ge_int, bin_add, List.cons_append, List.nil_append, Nat.reduceSub, nc0, nc1, nc2, nc3, nc4, nc5, nc6, nc7, nc8, nc9, Int.reduceEq, Int.reduceLT, Int.reduceLE, Int.reduceNe, Bool.false_eq_true, if_false, ir__law_speech, t_counts, t_talk, t_end, speech_ok n _ hc]
theorem T_draws : L.T "_law_draws" = some (.fn none 1 1 true ir__law_draws) := by rfl
theorem draws_ok (n : Nat) (ns : List Int) (st : Sto) : run_ (n + 1) "_law_draws" [.scr ns] st = .ok (.ref st.length) (st ++ [rowO ns 0 0 7]) := by
  refine run_pg T_draws (.inr rfl) rfl ?_
  have e : biD st .list [.scr ns] = some (.lst (ns.map .int)) := rfl
  simp only [evSs, evS.eq_1, evS.eq_2, evS.eq_3, evS.eq_4, evS.eq_5, evS.eq_8, evS.eq_9, evS.eq_10, evS.eq_11, evS.eq_12, evS.eq_13, evS.eq_14, E_forr, E_whl, evE.eq_1, evE.eq_2, evE.eq_3, evE.eq_4, evE.eq_5, evE.eq_6, evE.eq_7, evE.eq_8, evE.eq_9, evE.eq_10, evE.eq_11, evE.eq_12, evE.eq_13, evE.eq_14, evE.eq_15, evE.eq_16, evE.eq_17, evE.eq_18, evE.eq_19, evE.eq_20, evE.eq_21, evE.eq_22, evE.eq_23, evE.eq_24, evE.eq_25, evE.eq_26, evE.eq_27, evE.eq_28, evE.eq_32, evE.eq_33, evE.eq_34, evE_comp, evEs, evG, evGs, evI, List.getElem?_cons_zero, List.getElem?_cons_succ, bind_ok, fl_ok, fb_nx, fb_rt, nox_ok, opt_some, optB_some, blR_bl, asS_tup, asS_lst, asSK_tup, asSK_lst, asL_lst, lenGs, List.length_cons, List.length_nil, Nat.reduceAdd, Nat.reduceLT, Nat.reduceLeDiff, if_true, line, Nat.reducePow, List.set_cons_succ, List.set_cons_zero, retR_false, retR_int, evC_int, evC_bl, evC_str, evC_lst, evC_tup, evC_non, evC_is, evC_isn, cmp_eq_str, cmp_ne_str, cmp_eq_int, cmp_ne_int, cmp_eq_is, cmp_eq_ns, str_eq, String.reduceEq, decide_true, decide_false, Bool.not_true, Bool.not_false, is_non, isn_non, is_tup, isn_tup, is_lst, isn_lst, is_str, isn_str, is_int, isn_int, List.map_cons, List.map_nil, Nat.sub_self, List.replicate, List.append_nil, bind_exc, fl_exc, fb_ex, fb_rt, Bool.and_self, cmp_lt_int, cmp_le_int, cmp_gt_int, cmp_ge_int, bin_add, List.cons_append, List.nil_append, Nat.reduceSub, nc0, nc1, nc2, nc3, nc4, nc5, nc6, nc7, nc8, nc9, Int.reduceEq, Int.reduceLT, Int.reduceLE, Int.reduceNe, Bool.false_eq_true, if_false, ir__law_draws, e, retR_lst, finB]
  unfold fin
  rw [Nat.ble_eq_true_of_le (by simp)]
  rfl
/-! boxes looked at -/
theorem T_is_box : L.T "is_box" = some (.fn none 2 2 false ir_is_box) := by rfl
theorem T_check_boxes : L.T "check_boxes" = some (.fn none 2 4 false ir_check_boxes) := by rfl
theorem is_box_ok (n : Nat) {cs : List Int} (hc : okc cs) (clr any : Bool) {b : Bx} (hb : bxOk cs b) : run_ (n + 3) "is_box" [spD cs clr any, bxD b] [] = .ok (.bl true) [] := by
  refine run_fn0 [] T_is_box (by rw [bds_cons, bd_sp clr any 0 hc, bds_cons, dat_bd 0 (dat_bx b)]; rfl) rfl ?_ rfl
  have k0 : ∀ xs, kdOf [] (.tup xs) = some .tup := fun _ => rfl
  have k1 : (List.any [Ty.tuple] fun t => isK L.sub t .tup) = true := rfl
  have o1 : ∀ w : Str, w = "cut" ∨ w = "drop" ∨ w = "again" → run_ (n + 2) "is_one_of" [.str w, .tup [.str "calm", .str "short", .str "thin"]] [] = .ok (.bl false) [] := by
    intro w h; rcases h with rfl | rfl | rfl <;> rfl
  have o2 : ∀ w : Str, w = "cut" ∨ w = "drop" → run_ (n + 2) "is_one_of" [.str w, .tup [.str "cut", .str "drop"]] [] = .ok (.bl true) [] := by
    intro w h; rcases h with rfl | rfl <;> rfl
  have o3 : run_ (n + 2) "is_one_of" [.str "again", .tup [.str "cut", .str "drop"]] [] = .ok (.bl false) [] := by rfl
  have o4 : run_ (n + 2) "is_one_of" [.str "again", .tup [.str "again"]] [] = .ok (.bl true) [] := by rfl
  cases b with
  | calm => rfl
  | short => rfl
  | thin => rfl
  | cut k =>
    have i0 : ∀ st, idxD st (.tup [.str "cut", kindD k]) (.int 0) = some (.str "cut") := fun _ => rfl
    have i1 : ∀ st, idxD st (.tup [.str "cut", kindD k]) (.int 1) = some (kindD k) := fun _ => rfl
    have om := one_many (n + 1) hc hb
    have p1 := o1 "cut" (.inl rfl)
    have p2 := o2 "cut" (.inl rfl)
    simp only [evSs, evS.eq_1, evS.eq_2, evS.eq_3, evS.eq_4, evS.eq_5, evS.eq_8, evS.eq_9, evS.eq_10, evS.eq_11, evS.eq_12, evS.eq_13, evS.eq_14, E_forr, E_whl, evE.eq_1, evE.eq_2, evE.eq_3, evE.eq_4, evE.eq_5, evE.eq_6, evE.eq_7, evE.eq_8, evE.eq_9, evE.eq_10, evE.eq_11, evE.eq_12, evE.eq_13, evE.eq_14, evE.eq_15, evE.eq_16, evE.eq_17, evE.eq_18, evE.eq_19, evE.eq_20, evE.eq_21, evE.eq_22, evE.eq_23, evE.eq_24, evE.eq_25, evE.eq_26, evE.eq_27, evE.eq_28, evE.eq_32, evE.eq_33, evE.eq_34, evE_comp, evEs, evG, evGs, evI, List.getElem?_cons_zero, List.getElem?_cons_succ, bind_ok, fl_ok, fb_nx, fb_rt, nox_ok, opt_some, optB_some, blR_bl, asS_tup, asS_lst, asSK_tup, asSK_lst, asL_lst, lenGs, List.length_cons, List.length_nil, Nat.reduceAdd, Nat.reduceLT, Nat.reduceLeDiff, if_true, line, Nat.reducePow, List.set_cons_succ, List.set_cons_zero, retR_false, retR_int, evC_int, evC_bl, evC_str, evC_lst, evC_tup, evC_non, evC_is, evC_isn, cmp_eq_str, cmp_ne_str, cmp_eq_int, cmp_ne_int, cmp_eq_is, cmp_eq_ns, str_eq, String.reduceEq, decide_true, decide_false, Bool.not_true, Bool.not_false, is_non, isn_non, is_tup, isn_tup, is_lst, isn_lst, is_str, isn_str, is_int, isn_int, List.map_cons, List.map_nil, Nat.sub_self, List.replicate, List.append_nil, bind_exc, fl_exc, fb_ex, fb_rt, Bool.and_self, cmp_lt_int, cmp_le_int, cmp_gt_int, cmp_ge_int, bin_add, List.cons_append, List.nil_append, Nat.reduceSub, nc0, nc1, nc2, nc3, nc4, nc5, nc6, nc7, nc8, nc9, Int.reduceEq, Int.reduceLT, Int.reduceLE, Int.reduceNe, Bool.false_eq_true, if_false, ir_is_box, bxD, k0, k1, i0, i1, len_tup, fld_many, om, p1, p2]
  | drop k =>
    have i0 : ∀ st, idxD st (.tup [.str "drop", kindD k]) (.int 0) = some (.str "drop") := fun _ => rfl
    have i1 : ∀ st, idxD st (.tup [.str "drop", kindD k]) (.int 1) = some (kindD k) := fun _ => rfl
    have om := one_many (n + 1) hc hb
    have p1 := o1 "drop" (.inr (.inl rfl))
    have p2 := o2 "drop" (.inr rfl)
    simp only [evSs, evS.eq_1, evS.eq_2, evS.eq_3, evS.eq_4, evS.eq_5, evS.eq_8, evS.eq_9, evS.eq_10, evS.eq_11, evS.eq_12, evS.eq_13, evS.eq_14, E_forr, E_whl, evE.eq_1, evE.eq_2, evE.eq_3, evE.eq_4, evE.eq_5, evE.eq_6, evE.eq_7, evE.eq_8, evE.eq_9, evE.eq_10, evE.eq_11, evE.eq_12, evE.eq_13, evE.eq_14, evE.eq_15, evE.eq_16, evE.eq_17, evE.eq_18, evE.eq_19, evE.eq_20, evE.eq_21, evE.eq_22, evE.eq_23, evE.eq_24, evE.eq_25, evE.eq_26, evE.eq_27, evE.eq_28, evE.eq_32, evE.eq_33, evE.eq_34, evE_comp, evEs, evG, evGs, evI, List.getElem?_cons_zero, List.getElem?_cons_succ, bind_ok, fl_ok, fb_nx, fb_rt, nox_ok, opt_some, optB_some, blR_bl, asS_tup, asS_lst, asSK_tup, asSK_lst, asL_lst, lenGs, List.length_cons, List.length_nil, Nat.reduceAdd, Nat.reduceLT, Nat.reduceLeDiff, if_true, line, Nat.reducePow, List.set_cons_succ, List.set_cons_zero, retR_false, retR_int, evC_int, evC_bl, evC_str, evC_lst, evC_tup, evC_non, evC_is, evC_isn, cmp_eq_str, cmp_ne_str, cmp_eq_int, cmp_ne_int, cmp_eq_is, cmp_eq_ns, str_eq, String.reduceEq, decide_true, decide_false, Bool.not_true, Bool.not_false, is_non, isn_non, is_tup, isn_tup, is_lst, isn_lst, is_str, isn_str, is_int, isn_int, List.map_cons, List.map_nil, Nat.sub_self, List.replicate, List.append_nil, bind_exc, fl_exc, fb_ex, fb_rt, Bool.and_self, cmp_lt_int, cmp_le_int, cmp_gt_int, cmp_ge_int, bin_add, List.cons_append, List.nil_append, Nat.reduceSub, nc0, nc1, nc2, nc3, nc4, nc5, nc6, nc7, nc8, nc9, Int.reduceEq, Int.reduceLT, Int.reduceLE, Int.reduceNe, Bool.false_eq_true, if_false, ir_is_box, bxD, k0, k1, i0, i1, len_tup, fld_many, om, p1, p2]
  | again j =>
    have i0 : ∀ st, idxD st (.tup [.str "again", .int j]) (.int 0) = some (.str "again") := fun _ => rfl
    have i1 : ∀ st, idxD st (.tup [.str "again", .int j]) (.int 1) = some (.int j) := fun _ => rfl
    have f := from_ok n [] j 1 3
    have h1 : 1 ≤ j := hb.1
    have h2 : j ≤ 3 := hb.2
    have p1 := o1 "again" (.inr (.inr rfl))
    simp only [evSs, evS.eq_1, evS.eq_2, evS.eq_3, evS.eq_4, evS.eq_5, evS.eq_8, evS.eq_9, evS.eq_10, evS.eq_11, evS.eq_12, evS.eq_13, evS.eq_14, E_forr, E_whl, evE.eq_1, evE.eq_2, evE.eq_3, evE.eq_4, evE.eq_5, evE.eq_6, evE.eq_7, evE.eq_8, evE.eq_9, evE.eq_10, evE.eq_11, evE.eq_12, evE.eq_13, evE.eq_14, evE.eq_15, evE.eq_16, evE.eq_17, evE.eq_18, evE.eq_19, evE.eq_20, evE.eq_21, evE.eq_22, evE.eq_23, evE.eq_24, evE.eq_25, evE.eq_26, evE.eq_27, evE.eq_28, evE.eq_32, evE.eq_33, evE.eq_34, evE_comp, evEs, evG, evGs, evI, List.getElem?_cons_zero, List.getElem?_cons_succ, bind_ok, fl_ok, fb_nx, fb_rt, nox_ok, opt_some, optB_some, blR_bl, asS_tup, asS_lst, asSK_tup, asSK_lst, asL_lst, lenGs, List.length_cons, List.length_nil, Nat.reduceAdd, Nat.reduceLT, Nat.reduceLeDiff, if_true, line, Nat.reducePow, List.set_cons_succ, List.set_cons_zero, retR_false, retR_int, evC_int, evC_bl, evC_str, evC_lst, evC_tup, evC_non, evC_is, evC_isn, cmp_eq_str, cmp_ne_str, cmp_eq_int, cmp_ne_int, cmp_eq_is, cmp_eq_ns, str_eq, String.reduceEq, decide_true, decide_false, Bool.not_true, Bool.not_false, is_non, isn_non, is_tup, isn_tup, is_lst, isn_lst, is_str, isn_str, is_int, isn_int, List.map_cons, List.map_nil, Nat.sub_self, List.replicate, List.append_nil, bind_exc, fl_exc, fb_ex, fb_rt, Bool.and_self, cmp_lt_int, cmp_le_int, cmp_gt_int, cmp_ge_int, bin_add, List.cons_append, List.nil_append, Nat.reduceSub, nc0, nc1, nc2, nc3, nc4, nc5, nc6, nc7, nc8, nc9, Int.reduceEq, Int.reduceLT, Int.reduceLE, Int.reduceNe, Bool.false_eq_true, if_false, ir_is_box, bxD, k0, k1, i0, i1, len_tup, fld_many, f, h1, h2, p1, o3, o4]
theorem efs_box : L.efs "BadBox" = [("index" : Str)] := by rfl
abbrev cbG : CG := .tup (.cons (.name 2) (.cons (.name 3) .nil))
theorem cb_turn (n : Nat) {sp sg x : Mini.D} {j : Nat} {e2 e3 : Option Mini.D} (h : run_ n "is_box" [sp, x] [] = .ok (.bl true) []) :
    loopB (run_ n) L.sub L.efs L.wf cbG ir_check_boxes_b1 (.tup [.int (j : Int), x]) [some sp, some sg, e2, e3] [] = .nx [some sp, some sg, some (.int (j : Int)), some x] [] := by
  have eg : evG (run_ n) L.sub cbG (.tup [.int (j : Int), x]) [some sp, some sg, e2, e3] [] = .ok [some sp, some sg, some (.int (j : Int)), some x] [] := by simp only [evSs, evS, evE, evEs, evG, evGs, evI, List.getElem?_cons_zero, List.getElem?_cons_succ, bind_ok, fl_ok, fb_nx, fb_rt, nox_ok, opt_some, optB_some, blR_bl, asS_tup, asS_lst, asSK_tup, asSK_lst, asL_lst, lenGs, List.length_cons, List.length_nil, Nat.reduceAdd, Nat.reduceLT, Nat.reduceLeDiff, if_true, line, Nat.reducePow, List.set_cons_succ, List.set_cons_zero, retR_false, retR_int, evC_int, evC_bl, evC_str, evC_lst, evC_tup, evC_non, evC_is, evC_isn, cmp_eq_str, cmp_ne_str, cmp_eq_int, cmp_ne_int, cmp_eq_is, cmp_eq_ns, str_eq, String.reduceEq, decide_true, decide_false, Bool.not_true, Bool.not_false, is_non, isn_non, is_tup, isn_tup, is_lst, isn_lst, is_str, isn_str, is_int, isn_int]
  have ec : evE (run_ n) L.sub (.not_ (.call "is_box" (.cons (.var 0) (.cons (.var 3) .nil)))) [some sp, some sg, some (.int (j : Int)), some x] [] = .ok (.bl false) [] := by simp only [evSs, evS, evE, evEs, evG, evGs, evI, List.getElem?_cons_zero, List.getElem?_cons_succ, bind_ok, fl_ok, fb_nx, fb_rt, nox_ok, opt_some, optB_some, blR_bl, asS_tup, asS_lst, asSK_tup, asSK_lst, asL_lst, lenGs, List.length_cons, List.length_nil, Nat.reduceAdd, Nat.reduceLT, Nat.reduceLeDiff, if_true, line, Nat.reducePow, List.set_cons_succ, List.set_cons_zero, retR_false, retR_int, evC_int, evC_bl, evC_str, evC_lst, evC_tup, evC_non, evC_is, evC_isn, cmp_eq_str, cmp_ne_str, cmp_eq_int, cmp_ne_int, cmp_eq_is, cmp_eq_ns, str_eq, String.reduceEq, decide_true, decide_false, Bool.not_true, Bool.not_false, is_non, isn_non, is_tup, isn_tup, is_lst, isn_lst, is_str, isn_str, is_int, isn_int, h]
  unfold loopB
  rw [eg, nox_ok, fl_ok]
  unfold ir_check_boxes_b1
  rw [evSs_cons, evS_if_f ec]
  rfl
theorem cb_bad (n : Nat) {sp sg x : Mini.D} {j : Nat} {e2 e3 : Option Mini.D} (hj : j < 1000000) (h : run_ n "is_box" [sp, x] [] = .ok (.bl false) []) :
    loopB (run_ n) L.sub L.efs L.wf cbG ir_check_boxes_b1 (.tup [.int (j : Int), x]) [some sp, some sg, e2, e3] [] = .ex [some sp, some sg, some (.int (j : Int)), some x] "BadBox" ["index"] [.int (j : Int)] [] := by
  have e : evS (run_ n) L.sub L.efs L.wf (.raise "BadBox" (.cons (.var 2) .nil)) [some sp, some sg, some (.int (j : Int)), some x] [] = .ex [some sp, some sg, some (.int (j : Int)), some x] "BadBox" ["index"] [.int (j : Int)] [] :=
    evS_raise efs_box (by simp only [evSs, evS, evE, evEs, evG, evGs, evI, List.getElem?_cons_zero, List.getElem?_cons_succ, bind_ok, fl_ok, fb_nx, fb_rt, nox_ok, opt_some, optB_some, blR_bl, asS_tup, asS_lst, asSK_tup, asSK_lst, asL_lst, lenGs, List.length_cons, List.length_nil, Nat.reduceAdd, Nat.reduceLT, Nat.reduceLeDiff, if_true, line, Nat.reducePow, List.set_cons_succ, List.set_cons_zero, retR_false, retR_int, evC_int, evC_bl, evC_str, evC_lst, evC_tup, evC_non, evC_is, evC_isn, cmp_eq_str, cmp_ne_str, cmp_eq_int, cmp_ne_int, cmp_eq_is, cmp_eq_ns, str_eq, String.reduceEq, decide_true, decide_false, Bool.not_true, Bool.not_false, is_non, isn_non, is_tup, isn_tup, is_lst, isn_lst, is_str, isn_str, is_int, isn_int]) (exc_nat hj) rfl
  have ec : evE (run_ n) L.sub (.not_ (.call "is_box" (.cons (.var 0) (.cons (.var 3) .nil)))) [some sp, some sg, some (.int (j : Int)), some x] [] = .ok (.bl true) [] := by simp only [evSs, evS, evE, evEs, evG, evGs, evI, List.getElem?_cons_zero, List.getElem?_cons_succ, bind_ok, fl_ok, fb_nx, fb_rt, nox_ok, opt_some, optB_some, blR_bl, asS_tup, asS_lst, asSK_tup, asSK_lst, asL_lst, lenGs, List.length_cons, List.length_nil, Nat.reduceAdd, Nat.reduceLT, Nat.reduceLeDiff, if_true, line, Nat.reducePow, List.set_cons_succ, List.set_cons_zero, retR_false, retR_int, evC_int, evC_bl, evC_str, evC_lst, evC_tup, evC_non, evC_is, evC_isn, cmp_eq_str, cmp_ne_str, cmp_eq_int, cmp_ne_int, cmp_eq_is, cmp_eq_ns, str_eq, String.reduceEq, decide_true, decide_false, Bool.not_true, Bool.not_false, is_non, isn_non, is_tup, isn_tup, is_lst, isn_lst, is_str, isn_str, is_int, isn_int, h]
  have eg : evG (run_ n) L.sub cbG (.tup [.int (j : Int), x]) [some sp, some sg, e2, e3] [] = .ok [some sp, some sg, some (.int (j : Int)), some x] [] := by simp only [evSs, evS, evE, evEs, evG, evGs, evI, List.getElem?_cons_zero, List.getElem?_cons_succ, bind_ok, fl_ok, fb_nx, fb_rt, nox_ok, opt_some, optB_some, blR_bl, asS_tup, asS_lst, asSK_tup, asSK_lst, asL_lst, lenGs, List.length_cons, List.length_nil, Nat.reduceAdd, Nat.reduceLT, Nat.reduceLeDiff, if_true, line, Nat.reducePow, List.set_cons_succ, List.set_cons_zero, retR_false, retR_int, evC_int, evC_bl, evC_str, evC_lst, evC_tup, evC_non, evC_is, evC_isn, cmp_eq_str, cmp_ne_str, cmp_eq_int, cmp_ne_int, cmp_eq_is, cmp_eq_ns, str_eq, String.reduceEq, decide_true, decide_false, Bool.not_true, Bool.not_false, is_non, isn_non, is_tup, isn_tup, is_lst, isn_lst, is_str, isn_str, is_int, isn_int]
  unfold loopB
  rw [eg, nox_ok, fl_ok]
  unfold ir_check_boxes_b1
  refine evSs_ex ?_
  rw [evS_if_t ec]
  exact evSs_ex e
theorem enm_map {α : Type} (g : α → Mini.D) : ∀ (xs : List α) (j : Nat), enmD j (xs.map g) = (xs.zipIdx j).map fun p => .tup [.int (p.2 : Int), g p.1]
  | [], _ => rfl
  | x :: r, j => by
    show _ :: enmD (j + 1) (r.map g) = _
    rw [enm_map g r (j + 1), List.zipIdx_cons]; rfl
theorem zipIdx_len {α : Type} (xs : List α) (j : Nat) (p : α × Nat) (h : p ∈ xs.zipIdx j) : p.1 ∈ xs := by
  have := List.mem_zipIdx h
  obtain ⟨_, _, e⟩ := this
  rw [e]; exact List.getElem_mem _
theorem cb_loop (n : Nat) {cs : List Int} {clr any : Bool} {sg : Mini.D} (hc : okc cs) (bs : List Bx) (h : ∀ b ∈ bs, bxOk cs b) :
    ∃ e2' e3', loopS (fun _ => true) (loopB (run_ (n + 3)) L.sub L.efs L.wf cbG ir_check_boxes_b1) (enmD 0 (bs.map bxD)) [some (spD cs clr any), some sg, none, none] [] = .nx [some (spD cs clr any), some sg, e2', e3'] [] := by
  rw [enm_map]
  obtain ⟨e', s', el, v2, v3, rfl, rfl⟩ := loop_pre (dep := fun _ => true) (body := loopB (run_ (n + 3)) L.sub L.efs L.wf cbG ir_check_boxes_b1) (fun p : Bx × Nat => Mini.D.tup [.int (p.2 : Int), bxD p.1])
    (fun p e s => ∃ v2 v3, e = [some (spD cs clr any), some sg, v2, v3] ∧ s = []) (bs.zipIdx 0) (fun _ _ _ _ _ _ => rfl)
    (fun p x q e s he hR => by
      obtain ⟨v2, v3, rfl, rfl⟩ := hR
      exact ⟨_, _, cb_turn (n + 3) (is_box_ok n hc clr any (h x.1 (zipIdx_len bs 0 x (by rw [he]; simp)))), _, _, rfl, rfl⟩)
    (e := [some (spD cs clr any), some sg, none, none]) (s := []) ⟨none, none, rfl, rfl⟩
  exact ⟨v2, v3, el⟩
theorem check_boxes_ok (n : Nat) (st : Sto) {cs : List Int} {clr any : Bool} (t : Bool) (hc : okc cs) (bs : List Bx) (h : ∀ b ∈ bs, bxOk cs b) : run_ (n + 4) "check_boxes" [spD cs clr any, seqD t (bs.map bxD)] st = .ok .non st := by
  refine run_fn st T_check_boxes (by rw [bds_cons, bd_sp clr any 0 hc, bds_cons, bd_seq, bds_bxs]; rfl) rfl ?_ rfl
  obtain ⟨a, b, e⟩ := cb_loop n (clr := clr) (any := any) (sg := seqD t (bs.map bxD)) hc bs h
  have hb : evSs (run_ (n + 3)) L.sub L.efs L.wf ir_check_boxes [some (spD cs clr any), some (seqD t (bs.map bxD)), none, none] [] = .nx [some (spD cs clr any), some (seqD t (bs.map bxD)), a, b] [] := by
    unfold ir_check_boxes
    simp only [evSs, evS.eq_1, evS.eq_2, evS.eq_3, evS.eq_4, evS.eq_5, evS.eq_8, evS.eq_9, evS.eq_10, evS.eq_11, evS.eq_12, evS.eq_13, evS.eq_14, E_forr, E_whl, evE.eq_1, evE.eq_2, evE.eq_3, evE.eq_4, evE.eq_5, evE.eq_6, evE.eq_7, evE.eq_8, evE.eq_9, evE.eq_10, evE.eq_11, evE.eq_12, evE.eq_13, evE.eq_14, evE.eq_15, evE.eq_16, evE.eq_17, evE.eq_18, evE.eq_19, evE.eq_20, evE.eq_21, evE.eq_22, evE.eq_23, evE.eq_24, evE.eq_25, evE.eq_26, evE.eq_27, evE.eq_28, evE.eq_32, evE.eq_33, evE.eq_34, evE_comp, evEs, evG, evGs, evI, List.getElem?_cons_zero, List.getElem?_cons_succ, bind_ok, fl_ok, fb_nx, fb_rt, nox_ok, opt_some, optB_some, blR_bl, asS_tup, asS_lst, asSK_tup, asSK_lst, asL_lst, lenGs, List.length_cons, List.length_nil, Nat.reduceAdd, Nat.reduceLT, Nat.reduceLeDiff, if_true, line, Nat.reducePow, List.set_cons_succ, List.set_cons_zero, retR_false, retR_int, evC_int, evC_bl, evC_str, evC_lst, evC_tup, evC_non, evC_is, evC_isn, cmp_eq_str, cmp_ne_str, cmp_eq_int, cmp_ne_int, cmp_eq_is, cmp_eq_ns, str_eq, String.reduceEq, decide_true, decide_false, Bool.not_true, Bool.not_false, is_non, isn_non, is_tup, isn_tup, is_lst, isn_lst, is_str, isn_str, is_int, isn_int, List.map_cons, List.map_nil, Nat.sub_self, List.replicate, List.append_nil, bind_exc, fl_exc, fb_ex, fb_rt, Bool.and_self, cmp_lt_int, cmp_le_int, cmp_gt_int, cmp_ge_int, bin_add, List.cons_append, List.nil_append, Nat.reduceSub, nc0, nc1, nc2, nc3, nc4, nc5, nc6, nc7, nc8, nc9, Int.reduceEq, Int.reduceLT, Int.reduceLE, Int.reduceNe, Bool.false_eq_true, if_false, asS_seq, dep_seq, e]
  show finB false 0 (evSs (run_ (n + 3)) L.sub L.efs L.wf ir_check_boxes [some (spD cs clr any), some (seqD t (bs.map bxD)), none, none] []) = _
  rw [hb]
  rfl
theorem check_boxes_bad (n : Nat) (st : Sto) {cs : List Int} {clr any : Bool} (t : Bool) (hc : okc cs) (bs : List Bx) (x : Mini.D) (r : List Mini.D) (h : ∀ b ∈ bs, bxOk cs b) (hl : bs.length < 900) (hx : run_ (n + 3) "is_box" [spD cs clr any, x] [] = .ok (.bl false) []) (hb : bds 0 (x :: r) = true) :
    run_ (n + 4) "check_boxes" [spD cs clr any, seqD t (bs.map bxD ++ x :: r)] st = .exc "BadBox" ["index"] [.int (bs.length : Int)] st := by
  refine run_fnx st T_check_boxes (by rw [bds_cons, bd_sp clr any 0 hc, bds_cons, bd_seq, bds_append, bds_bxs, hb]; rfl) rfl ?_ rfl
  obtain ⟨a, b, e⟩ := cb_loop n (clr := clr) (any := any) (sg := seqD t (bs.map bxD ++ x :: r)) hc bs h
  refine ⟨_, evSs_ex (e1 := [some (spD cs clr any), some (seqD t (bs.map bxD ++ x :: r)), some (.int (bs.length : Int)), some x]) ?_⟩
  show evS (run_ (n + 3)) L.sub L.efs L.wf (.forr cbG (.enm (.var 1)) ir_check_boxes_b1) [some (spD cs clr any), some (seqD t (bs.map bxD ++ x :: r)), none, none] [] = _
  rw [E_forr]
  simp only [evSs, evS.eq_1, evS.eq_2, evS.eq_3, evS.eq_4, evS.eq_5, evS.eq_8, evS.eq_9, evS.eq_10, evS.eq_11, evS.eq_12, evS.eq_13, evS.eq_14, E_forr, E_whl, evE.eq_1, evE.eq_2, evE.eq_3, evE.eq_4, evE.eq_5, evE.eq_6, evE.eq_7, evE.eq_8, evE.eq_9, evE.eq_10, evE.eq_11, evE.eq_12, evE.eq_13, evE.eq_14, evE.eq_15, evE.eq_16, evE.eq_17, evE.eq_18, evE.eq_19, evE.eq_20, evE.eq_21, evE.eq_22, evE.eq_23, evE.eq_24, evE.eq_25, evE.eq_26, evE.eq_27, evE.eq_28, evE.eq_32, evE.eq_33, evE.eq_34, evE_comp, evEs, evG, evGs, evI, List.getElem?_cons_zero, List.getElem?_cons_succ, bind_ok, fl_ok, fb_nx, fb_rt, nox_ok, opt_some, optB_some, blR_bl, asS_tup, asS_lst, asSK_tup, asSK_lst, asL_lst, lenGs, List.length_cons, List.length_nil, Nat.reduceAdd, Nat.reduceLT, Nat.reduceLeDiff, if_true, line, Nat.reducePow, List.set_cons_succ, List.set_cons_zero, retR_false, retR_int, evC_int, evC_bl, evC_str, evC_lst, evC_tup, evC_non, evC_is, evC_isn, cmp_eq_str, cmp_ne_str, cmp_eq_int, cmp_ne_int, cmp_eq_is, cmp_eq_ns, str_eq, String.reduceEq, decide_true, decide_false, Bool.not_true, Bool.not_false, is_non, isn_non, is_tup, isn_tup, is_lst, isn_lst, is_str, isn_str, is_int, isn_int, List.map_cons, List.map_nil, Nat.sub_self, List.replicate, List.append_nil, bind_exc, fl_exc, fb_ex, fb_rt, Bool.and_self, cmp_lt_int, cmp_le_int, cmp_gt_int, cmp_ge_int, bin_add, List.cons_append, List.nil_append, Nat.reduceSub, nc0, nc1, nc2, nc3, nc4, nc5, nc6, nc7, nc8, nc9, Int.reduceEq, Int.reduceLT, Int.reduceLE, Int.reduceNe, Bool.false_eq_true, if_false, asS_seq, dep_seq]
  rw [enm_app, loopS_app _ _ _ _ e]
  show loopS _ _ (_ :: enmD _ _) _ _ = _
  rw [loopS_cons, if_pos rfl, Nat.zero_add, List.length_map, cb_bad (n + 3) (by omega) hx, fb_ex]
/-! lines -/
def lineD (cs : List Int) (clr any : Bool) (ev : Int) (tr : Str) (bx : List Mini.D) : Mini.D := .ins "Line" ["voice", "repeats", "worry", "rank"] [spD cs clr any, .int ev, .str tr, .tup bx]
theorem T_check_every : L.T "check_every" = some (.fn none 1 1 false ir_check_every) := by rfl
theorem every_ok (n : Nat) (st : Sto) {ev : Int} (h0 : 0 ≤ ev) (h1 : ev < 4) : run_ (n + 3) "check_every" [.int ev] st = .ok .non st := by
  refine run_fn st T_check_every rfl rfl ?_ rfl
  have : ev = 0 ∨ ev = 1 ∨ ev = 2 ∨ ev = 3 := by omega
  rcases this with rfl | rfl | rfl | rfl <;> rfl
theorem T_line : L.T "Line" = some .mk := by rfl
theorem T_line_init : L.T "Line.__init__" = some (.fn none 5 5 false ir_Line___init__) := by rfl
def trsD : Mini.D := .tup [.str "amid", .str "fold", .str "join", .str "lose", .str "none"]
theorem one_tr (n : Nat) {tr : Str} (h : tr ∈ TRS) (st : Sto) : run_ (n + 1) "is_one_of" [.str tr, trsD] st = .ok (.bl true) st := by
  refine run_fn0 st T_is_one_of rfl rfl ?_ rfl
  simp only [TRS, List.mem_cons, List.not_mem_nil, or_false] at h
  rcases h with rfl | rfl | rfl | rfl | rfl <;> rfl
theorem bd_line {cs : List Int} {clr any : Bool} {ev : Int} {tr : Str} {bx : List Mini.D} (m : Nat) (hc : okc cs) (hb : bds m bx = true) : bd m (lineD cs clr any ev tr bx) = true := by
  show bds m [spD cs clr any, .int ev, .str tr, .tup bx] = true
  rw [bds_cons, bd_sp clr any m hc, bds_cons, bds_cons, bds_cons, bd_tup, hb]; rfl
theorem sfl (fs : List Str) (xs : List Mini.D) (f : Str) (v : Mini.D) (env : Mini.Env) (h : fs.length < 900) : setFR (.ref 0) f v [.ins "Line" fs xs] env = .ok env [.ins "Line" (putF fs xs f v).1 (putF fs xs f v).2] := by
  show (if fs.length < 900 then _ else _) = _
  rw [if_pos h]; rfl
theorem line_ok (n : Nat) (st : Sto) {cs : List Int} {clr any : Bool} {ev : Int} {tr : Str} (hc : okc cs) (h0 : 0 ≤ ev) (h1 : ev < 4) (ht : tr ∈ TRS) (bs : List Bx) (hb : ∀ b ∈ bs, bxOk cs b) (hl : bs.length ≤ 3) :
    run_ (n + 6) "Line" [spD cs clr any, .int ev, .str tr, .tup (bs.map bxD)] st = .ok (lineD cs clr any ev tr (bs.map bxD)) st := by
  have hbx : bds 0 (bs.map bxD) = true := bds_bxs bs 0
  have e1 := every_ok (n + 1) [.ins "Line" [] []] h0 h1
  have e2 := one_tr (n + 3) ht [.ins "Line" [] []]
  unfold trsD at e2
  have e3 := check_boxes_ok n [.ins "Line" [] []] (clr := clr) (any := any) true hc bs hb
  have e3 : run_ (n + 4) "check_boxes" [spD cs clr any, .tup (bs.map bxD)] [.ins "Line" [] []] = .ok .non [.ins "Line" [] []] := e3
  have k0 : ∀ st xs, kdOf st (.tup xs) = some .tup := fun _ _ => rfl
  have k1 : (List.any [Ty.tuple] fun t => isK L.sub t .tup) = true := rfl
  have hl' : ¬ ((3 : Int) < (bs.length : Int)) := by omega
  have hbody : evSs (run_ (n + 4)) L.sub L.efs L.wf ir_Line___init__ [some (.ref 0), some (spD cs clr any), some (.int ev), some (.str tr), some (.tup (bs.map bxD))] [.ins "Line" [] []] = .nx [some (.ref 0), some (spD cs clr any), some (.int ev), some (.str tr), some (.tup (bs.map bxD))] [.ins "Line" ["voice", "repeats", "worry", "rank"] [spD cs clr any, .int ev, .str tr, .tup (bs.map bxD)]] := by
    have f1 : ∀ env, setFR (.ref 0) "voice" (spD cs clr any) [.ins "Line" [] []] env = .ok env [.ins "Line" ["voice"] [spD cs clr any]] := fun env => sfl _ _ _ _ env (by decide)
    have f2 : ∀ env, setFR (.ref 0) "repeats" (.int ev) [.ins "Line" ["voice"] [spD cs clr any]] env = .ok env [.ins "Line" ["voice", "repeats"] [spD cs clr any, .int ev]] := fun env => sfl _ _ _ _ env (by decide)
    have f3 : ∀ env, setFR (.ref 0) "worry" (.str tr) [.ins "Line" ["voice", "repeats"] [spD cs clr any, .int ev]] env = .ok env [.ins "Line" ["voice", "repeats", "worry"] [spD cs clr any, .int ev, .str tr]] := fun env => sfl _ _ _ _ env (by decide)
    have f4 : ∀ env, setFR (.ref 0) "rank" (.tup (bs.map bxD)) [.ins "Line" ["voice", "repeats", "worry"] [spD cs clr any, .int ev, .str tr]] env = .ok env [.ins "Line" ["voice", "repeats", "worry", "rank"] [spD cs clr any, .int ev, .str tr, .tup (bs.map bxD)]] := fun env => sfl _ _ _ _ env (by decide)
    unfold ir_Line___init__
    simp only [evSs, evS.eq_1, evS.eq_2, evS.eq_3, evS.eq_4, evS.eq_5, evS.eq_8, evS.eq_9, evS.eq_10, evS.eq_11, evS.eq_12, evS.eq_13, evS.eq_14, E_forr, E_whl, evE.eq_1, evE.eq_2, evE.eq_3, evE.eq_4, evE.eq_5, evE.eq_6, evE.eq_7, evE.eq_8, evE.eq_9, evE.eq_10, evE.eq_11, evE.eq_12, evE.eq_13, evE.eq_14, evE.eq_15, evE.eq_16, evE.eq_17, evE.eq_18, evE.eq_19, evE.eq_20, evE.eq_21, evE.eq_22, evE.eq_23, evE.eq_24, evE.eq_25, evE.eq_26, evE.eq_27, evE.eq_28, evE.eq_32, evE.eq_33, evE.eq_34, evE_comp, evEs, evG, evGs, evI, List.getElem?_cons_zero, List.getElem?_cons_succ, bind_ok, fl_ok, fb_nx, fb_rt, nox_ok, opt_some, optB_some, blR_bl, asS_tup, asS_lst, asSK_tup, asSK_lst, asL_lst, lenGs, List.length_cons, List.length_nil, Nat.reduceAdd, Nat.reduceLT, Nat.reduceLeDiff, if_true, line, Nat.reducePow, List.set_cons_succ, List.set_cons_zero, retR_false, retR_int, evC_int, evC_bl, evC_str, evC_lst, evC_tup, evC_non, evC_is, evC_isn, cmp_eq_str, cmp_ne_str, cmp_eq_int, cmp_ne_int, cmp_eq_is, cmp_eq_ns, str_eq, String.reduceEq, decide_true, decide_false, Bool.not_true, Bool.not_false, is_non, isn_non, is_tup, isn_tup, is_lst, isn_lst, is_str, isn_str, is_int, isn_int, List.map_cons, List.map_nil, Nat.sub_self, List.replicate, List.append_nil, bind_exc, fl_exc, fb_ex, fb_rt, Bool.and_self, cmp_lt_int, cmp_le_int, cmp_gt_int, cmp_ge_int, bin_add, List.cons_append, List.nil_append, Nat.reduceSub, nc0, nc1, nc2, nc3, nc4, nc5, nc6, nc7, nc8, nc9, Int.reduceEq, Int.reduceLT, Int.reduceLE, Int.reduceNe, Bool.false_eq_true, if_false, e1, e2, e3, k0, k1, len_tup, List.length_map, hl', f1, f2, f3, f4]
  have hinit : run_ (n + 5) "Line.__init__" [.ref 0, spD cs clr any, .int ev, .str tr, .tup (bs.map bxD)] [.ins "Line" [] []] = .ok .non [.ins "Line" ["voice", "repeats", "worry", "rank"] [spD cs clr any, .int ev, .str tr, .tup (bs.map bxD)]] := by
    refine run_pg T_line_init (.inl rfl) rfl ?_
    show finB false 1 (evSs (run_ (n + 4)) L.sub L.efs L.wf ir_Line___init__ [some (.ref 0), some (spD cs clr any), some (.int ev), some (.str tr), some (.tup (bs.map bxD))] [.ins "Line" [] []]) = _
    rw [hbody]
    rfl
  have hbl : bd 0 (lineD cs clr any ev tr (bs.map bxD)) = true := bd_line 0 hc hbx
  refine run_frame st (by rw [bds_cons, bd_sp clr any 0 hc, bds_cons, bds_cons, bds_cons, bd_tup, hbx]; rfl) rfl ?_
  have e : ev0 L.T L.sub L.efs L.wf (run_ (n + 5)) "Line" [spD cs clr any, .int ev, .str tr, .tup (bs.map bxD)] [] = .ok (lineD cs clr any ev tr (bs.map bxD)) [] := by
    unfold ev0
    rw [T_line]
    show (match run_ (n + 5) "Line.__init__" [.ref 0, spD cs clr any, .int ev, .str tr, .tup (bs.map bxD)] [.ins "Line" [] []] with
      | .ok .non s => fin false 0 (.ref 0) s
      | .exc C fs xs s => finX 0 C fs xs s
      | _ => .bad) = _
    rw [hinit]
    exact fin_ref (s := [.ins "Line" ["voice", "repeats", "worry", "rank"] [spD cs clr any, .int ev, .str tr, .tup (bs.map bxD)]]) (n := 0) (j := 0) (by simp) (by simp) rfl rfl hbl
  rw [e]
  show (if bd 0 (lineD cs clr any ev tr (bs.map bxD)) then _ else _) = _
  rw [if_pos hbl]
/-! the line's parts -/
section
variable {cs : List Int} {clr any : Bool} {ev : Int} {tr : Str} {bx : List Mini.D} (st : Sto)
theorem fl_voice : fldD st (lineD cs clr any ev tr bx) "voice" = some (spD cs clr any) := rfl
theorem fl_repeats : fldD st (lineD cs clr any ev tr bx) "repeats" = some (.int ev) := rfl
theorem fl_worry : fldD st (lineD cs clr any ev tr bx) "worry" = some (.str tr) := rfl
theorem fl_rank : fldD st (lineD cs clr any ev tr bx) "rank" = some (.tup bx) := rfl
end
/-! steps -/
theorem T_senders : L.T "senders_of" = some (.fn none 1 1 false ir_senders_of) := by rfl
def dbl (tr : Str) : Bool := tr == "join" || tr == "fold"
def los (tr : Str) : Bool := tr == "lose" || tr == "amid"
def whos (tr : Str) : List Mini.D := if dbl tr then [.int 0, .int 1] else [.int 0]
theorem trs_cases {tr : Str} (h : tr ∈ TRS) : tr = "none" ∨ tr = "lose" ∨ tr = "amid" ∨ tr = "join" ∨ tr = "fold" := by
  simpa only [TRS, List.mem_cons, List.not_mem_nil, or_false] using h
theorem senders_ok (n : Nat) (st : Sto) {cs : List Int} {clr any : Bool} {ev : Int} {tr : Str} {bx : List Mini.D} (hc : okc cs) (ht : tr ∈ TRS) (hb : bds 0 bx = true) : run_ (n + 1) "senders_of" [lineD cs clr any ev tr bx] st = .ok (.tup (whos tr)) st := by
  refine run_fn0 st T_senders (by rw [bds_cons, bd_line 0 hc hb]; rfl) rfl ?_ (by unfold whos; split <;> rfl)
  rcases trs_cases ht with rfl | rfl | rfl | rfl | rfl <;> kernel_rfl
def saysD (w : Int) (n : Nat) : List Mini.D := (kinds n ++ [Mini.D.str "talk"]).map fun k => .tup [.str "say", .int w, k]
/-- all steps, ascending -/
def stepsD (n : Nat) (tr : Str) : List Mini.D :=
  if dbl tr then [.tup [.str "go", .int 0], .tup [.str "go", .int 1]] ++ saysD 0 n ++ saysD 1 n ++ [.tup [.str "urgent"]]
  else if los tr then [.tup [.str "go", .int 0], .tup [.str "lose"]] ++ saysD 0 n ++ [.tup [.str "urgent"]]
  else [.tup [.str "go", .int 0]] ++ saysD 0 n ++ [.tup [.str "urgent"]]
theorem ask_many {cs : List Int} (hc : okc cs) (st : Sto) : asSK st (manyD cs) = some (kinds cs.length) := by
  obtain ⟨c1, c3, _⟩ := hc
  match cs, c1, c3 with
  | [_], _, _ => rfl
  | [_, _], _, _ => rfl
  | [_, _, _], _, _ => rfl
theorem kinds_le (n : Nat) : (kinds n ++ [Mini.D.str "talk"]).length ≤ 16777216 := by
  unfold kinds
  rw [List.length_append, List.length_take]
  simp only [List.length_cons, List.length_nil]
  omega
theorem steps_body (n : Nat) (st : Sto) {cs : List Int} {clr any : Bool} {ev : Int} {tr : Str} {bx : List Mini.D} (hc : okc cs) (ht : tr ∈ TRS) (hb : bds 0 bx = true) :
    evSs (run_ (n + 1)) L.sub L.efs L.wf ir_steps_of [some (lineD cs clr any ev tr bx), none, none, none, none, none] st = .rt (.ref st.length) (st ++ [.lst (stepsD cs.length tr)]) := by
  have e1 := senders_ok n st (clr := clr) (any := any) (ev := ev) hc ht hb
  have e2 := ask_many hc st
  have kl := kinds_le cs.length
  have s1 : evS (run_ (n + 1)) L.sub L.efs L.wf (.asg (.tup (.cons (.name 1) (.cons (.name 2) .nil))) (.tup (.cons (.call "senders_of" (.cons (.var 0) .nil)) (.cons (.lst false (.star (.fld (.fld (.var 0) "voice") "many") (.cons (.glb "TALK" (.str "talk")) .nil))) .nil)))) [some (lineD cs clr any ev tr bx), none, none, none, none, none] st = .nx [some (lineD cs clr any ev tr bx), some (.tup (whos tr)), some (.lst (kinds cs.length ++ [.str "talk"])), none, none, none] st := by
    simp only [evSs, evS.eq_1, evS.eq_2, evS.eq_3, evS.eq_4, evS.eq_5, evS.eq_8, evS.eq_9, evS.eq_10, evS.eq_11, evS.eq_12, evS.eq_13, evS.eq_14, E_forr, E_whl, evE.eq_1, evE.eq_2, evE.eq_3, evE.eq_4, evE.eq_5, evE.eq_6, evE.eq_7, evE.eq_8, evE.eq_9, evE.eq_10, evE.eq_11, evE.eq_12, evE.eq_13, evE.eq_14, evE.eq_15, evE.eq_16, evE.eq_17, evE.eq_18, evE.eq_19, evE.eq_20, evE.eq_21, evE.eq_22, evE.eq_23, evE.eq_24, evE.eq_25, evE.eq_26, evE.eq_27, evE.eq_28, evE.eq_32, evE.eq_33, evE.eq_34, evE_comp, evEs, evG, evGs, evI, List.getElem?_cons_zero, List.getElem?_cons_succ, bind_ok, fl_ok, fb_nx, fb_rt, nox_ok, opt_some, optB_some, blR_bl, asS_tup, asS_lst, asSK_tup, asSK_lst, asL_lst, lenGs, List.length_cons, List.length_nil, Nat.reduceAdd, Nat.reduceLT, Nat.reduceLeDiff, if_true, line, Nat.reducePow, List.set_cons_succ, List.set_cons_zero, retR_false, retR_int, evC_int, evC_bl, evC_str, evC_lst, evC_tup, evC_non, evC_is, evC_isn, cmp_eq_str, cmp_ne_str, cmp_eq_int, cmp_ne_int, cmp_eq_is, cmp_eq_ns, str_eq, String.reduceEq, decide_true, decide_false, Bool.not_true, Bool.not_false, is_non, isn_non, is_tup, isn_tup, is_lst, isn_lst, is_str, isn_str, is_int, isn_int, List.map_cons, List.map_nil, Nat.sub_self, List.replicate, List.append_nil, bind_exc, fl_exc, fb_ex, fb_rt, Bool.and_self, cmp_lt_int, cmp_le_int, cmp_gt_int, cmp_ge_int, bin_add, List.cons_append, List.nil_append, Nat.reduceSub, nc0, nc1, nc2, nc3, nc4, nc5, nc6, nc7, nc8, nc9, Int.reduceEq, Int.reduceLT, Int.reduceLE, Int.reduceNe, Bool.false_eq_true, if_false, e1, e2, fl_voice, fld_many, kl]
  unfold ir_steps_of
  rw [evSs_nx s1]
  clear s1 e1 e2 kl hb
  obtain ⟨c1, c3, _⟩ := hc
  match cs, c1, c3 with
  | [a], _, _ => rcases trs_cases ht with rfl | rfl | rfl | rfl | rfl <;> kernel_rfl
  | [a, b], _, _ => rcases trs_cases ht with rfl | rfl | rfl | rfl | rfl <;> kernel_rfl
  | [a, b, c], _, _ => rcases trs_cases ht with rfl | rfl | rfl | rfl | rfl <;> kernel_rfl
/-! lines refused -/
theorem line_exc (n : Nat) (st : Sto) {ds : List Mini.D} (hb : bds 0 ds = true) (hl : ds.length = 4) {C : Str} {fs : List Str} {xs : List Mini.D} (hx : bds 0 xs = true)
    (h : ∃ e, evSs (run_ n) L.sub L.efs L.wf ir_Line___init__ (some (.ref 0) :: ds.map some) [.ins "Line" [] []] = .ex e C fs xs [.ins "Line" [] []]) : run_ (n + 2) "Line" ds st = .exc C fs xs st := by
  have hi : run_ (n + 1) "Line.__init__" (.ref 0 :: ds) [.ins "Line" [] []] = .exc C fs xs [.ins "Line" [] []] := by
    obtain ⟨e, h⟩ := h
    refine run_plx T_line_init (.inl (by rw [bds_cons]; rfl)) (by rw [List.length_cons, hl]) ⟨e, ?_⟩
    rw [List.map_cons, Nat.sub_self, List.replicate, List.append_nil]
    exact h
  refine run_framex st hb rfl ?_
  have e : ev0 L.T L.sub L.efs L.wf (run_ (n + 1)) "Line" ds [] = .exc C fs xs [] := by
    unfold ev0
    rw [T_line]
    show (match run_ (n + 1) "Line.__init__" (.ref 0 :: ds) [.ins "Line" [] []] with
      | .ok .non s => fin false 0 (.ref 0) s
      | .exc C fs xs s => finX 0 C fs xs s
      | _ => .bad) = _
    rw [hi]
    show finX 0 C fs xs [.ins "Line" [] []] = _
    unfold finX
    simp only [List.length_cons, List.length_nil, List.take_zero, List.all_nil, hx]
    rfl
  rw [e]
  show (if bds 0 xs then _ else _) = _
  rw [if_pos hx]
def isExc (C : Str) : Option (Str × List Str × List Mini.D) → Bool
  | some (C', [], []) => C' == C
  | _ => false
theorem isExc_ok {C : Str} {r : Option (Str × List Str × List Mini.D)} (h : isExc C r = true) : r = some (C, [], []) := by
  unfold isExc at h
  split at h
  · rw [eq_of_beq h]
  · cases h
def oddE : List Mini.D := [.int (-1), .int 4, .bl true, .non, .str "1"]
theorem oddE_bd : oddE.all (fun x => bd 0 x) = true := by rfl
theorem every_bad_all (n : Nat) : (oddE.all fun x => isExc "BadEvery" (excR (ev0 L.T L.sub L.efs L.wf (run_ (n + 2)) "check_every" [x] []))) = true := by kernel_rfl
theorem every_bad (n : Nat) (st : Sto) {x : Mini.D} (hx : x ∈ oddE) : run_ (n + 3) "check_every" [x] st = .exc "BadEvery" [] [] st :=
  run_framex st (by rw [bds_cons, List.all_eq_true.mp oddE_bd x hx]; rfl) rfl (isExc_ok (List.all_eq_true.mp (every_bad_all n) x hx))
theorem line_every (n : Nat) (st : Sto) {cs : List Int} {clr any : Bool} {x t b : Mini.D} (hc : okc cs) (hx : x ∈ oddE) (ht : bd 0 t = true) (hb : bd 0 b = true) : run_ (n + 5) "Line" [spD cs clr any, x, t, b] st = .exc "BadEvery" [] [] st := by
  refine line_exc (n + 3) st (by rw [bds_cons, bd_sp clr any 0 hc, bds_cons, List.all_eq_true.mp oddE_bd x hx, bds_cons, ht, bds_cons, hb]; rfl) rfl rfl ⟨_, evSs_ex (e1 := [some (.ref 0), some (spD cs clr any), some x, some t, some b]) ?_⟩
  have e := every_bad n [.ins "Line" [] []] hx
  exact evS_expx (by simp only [evSs, evS.eq_1, evS.eq_2, evS.eq_3, evS.eq_4, evS.eq_5, evS.eq_8, evS.eq_9, evS.eq_10, evS.eq_11, evS.eq_12, evS.eq_13, evS.eq_14, E_forr, E_whl, evE.eq_1, evE.eq_2, evE.eq_3, evE.eq_4, evE.eq_5, evE.eq_6, evE.eq_7, evE.eq_8, evE.eq_9, evE.eq_10, evE.eq_11, evE.eq_12, evE.eq_13, evE.eq_14, evE.eq_15, evE.eq_16, evE.eq_17, evE.eq_18, evE.eq_19, evE.eq_20, evE.eq_21, evE.eq_22, evE.eq_23, evE.eq_24, evE.eq_25, evE.eq_26, evE.eq_27, evE.eq_28, evE.eq_32, evE.eq_33, evE.eq_34, evE_comp, evEs, evG, evGs, evI, List.getElem?_cons_zero, List.getElem?_cons_succ, bind_ok, fl_ok, fb_nx, fb_rt, nox_ok, opt_some, optB_some, blR_bl, asS_tup, asS_lst, asSK_tup, asSK_lst, asL_lst, lenGs, List.length_cons, List.length_nil, Nat.reduceAdd, Nat.reduceLT, Nat.reduceLeDiff, if_true, line, Nat.reducePow, List.set_cons_succ, List.set_cons_zero, retR_false, retR_int, evC_int, evC_bl, evC_str, evC_lst, evC_tup, evC_non, evC_is, evC_isn, cmp_eq_str, cmp_ne_str, cmp_eq_int, cmp_ne_int, cmp_eq_is, cmp_eq_ns, str_eq, String.reduceEq, decide_true, decide_false, Bool.not_true, Bool.not_false, is_non, isn_non, is_tup, isn_tup, is_lst, isn_lst, is_str, isn_str, is_int, isn_int, List.map_cons, List.map_nil, Nat.sub_self, List.replicate, List.append_nil, bind_exc, fl_exc, fb_ex, fb_rt, Bool.and_self, cmp_lt_int, cmp_le_int, cmp_gt_int, cmp_ge_int, bin_add, List.cons_append, List.nil_append, Nat.reduceSub, nc0, nc1, nc2, nc3, nc4, nc5, nc6, nc7, nc8, nc9, Int.reduceEq, Int.reduceLT, Int.reduceLE, Int.reduceNe, Bool.false_eq_true, if_false, e])
def oddT : List Mini.D := [.non, .str "", .str "lost", .tup [.str "lose"], .int 1]
theorem oddT_bd : oddT.all (fun x => bd 0 x) = true := by rfl
theorem one_bad (n : Nat) {x : Mini.D} (h : x ∈ oddT) (st : Sto) : run_ (n + 1) "is_one_of" [x, trsD] st = .ok (.bl false) st := by
  simp only [oddT, List.mem_cons, List.not_mem_nil, or_false] at h
  rcases h with rfl | rfl | rfl | rfl | rfl <;> exact run_fn0 st T_is_one_of rfl rfl (by kernel_rfl) rfl
theorem line_trouble (n : Nat) (st : Sto) {cs : List Int} {clr any : Bool} {ev : Int} {t b : Mini.D} (hc : okc cs) (h0 : 0 ≤ ev) (h1 : ev < 4) (ht : t ∈ oddT) (hb : bd 0 b = true) : run_ (n + 5) "Line" [spD cs clr any, .int ev, t, b] st = .exc "BadTrouble" [] [] st := by
  have e1 := every_ok n [.ins "Line" [] []] h0 h1
  have e2 := one_bad (n + 2) ht [.ins "Line" [] []]
  unfold trsD at e2
  refine line_exc (n + 3) st (by rw [bds_cons, bd_sp clr any 0 hc, bds_cons, bds_cons, List.all_eq_true.mp oddT_bd t ht, bds_cons, hb]; rfl) rfl rfl ⟨[some (.ref 0), some (spD cs clr any), some (.int ev), some t, some b], ?_⟩
  unfold ir_Line___init__
  have f : L.efs "BadTrouble" = [] := by decide +kernel
  have f2 : excOk [] = true := rfl
  simp only [List.map_cons, List.map_nil]
  rw [evSs_nx (evS_exp (d := .non) (s1 := [.ins "Line" [] []]) (by simp only [evSs, evS.eq_1, evS.eq_2, evS.eq_3, evS.eq_4, evS.eq_5, evS.eq_8, evS.eq_9, evS.eq_10, evS.eq_11, evS.eq_12, evS.eq_13, evS.eq_14, E_forr, E_whl, evE.eq_1, evE.eq_2, evE.eq_3, evE.eq_4, evE.eq_5, evE.eq_6, evE.eq_7, evE.eq_8, evE.eq_9, evE.eq_10, evE.eq_11, evE.eq_12, evE.eq_13, evE.eq_14, evE.eq_15, evE.eq_16, evE.eq_17, evE.eq_18, evE.eq_19, evE.eq_20, evE.eq_21, evE.eq_22, evE.eq_23, evE.eq_24, evE.eq_25, evE.eq_26, evE.eq_27, evE.eq_28, evE.eq_32, evE.eq_33, evE.eq_34, evE_comp, evEs, evG, evGs, evI, List.getElem?_cons_zero, List.getElem?_cons_succ, bind_ok, fl_ok, fb_nx, fb_rt, nox_ok, opt_some, optB_some, blR_bl, asS_tup, asS_lst, asSK_tup, asSK_lst, asL_lst, lenGs, List.length_cons, List.length_nil, Nat.reduceAdd, Nat.reduceLT, Nat.reduceLeDiff, if_true, line, Nat.reducePow, List.set_cons_succ, List.set_cons_zero, retR_false, retR_int, evC_int, evC_bl, evC_str, evC_lst, evC_tup, evC_non, evC_is, evC_isn, cmp_eq_str, cmp_ne_str, cmp_eq_int, cmp_ne_int, cmp_eq_is, cmp_eq_ns, str_eq, String.reduceEq, decide_true, decide_false, Bool.not_true, Bool.not_false, is_non, isn_non, is_tup, isn_tup, is_lst, isn_lst, is_str, isn_str, is_int, isn_int, List.map_cons, List.map_nil, Nat.sub_self, List.replicate, List.append_nil, bind_exc, fl_exc, fb_ex, fb_rt, Bool.and_self, cmp_lt_int, cmp_le_int, cmp_gt_int, cmp_ge_int, bin_add, List.cons_append, List.nil_append, Nat.reduceSub, nc0, nc1, nc2, nc3, nc4, nc5, nc6, nc7, nc8, nc9, Int.reduceEq, Int.reduceLT, Int.reduceLE, Int.reduceNe, Bool.false_eq_true, if_false, e1]))]
  refine evSs_ex ?_
  rw [evS_if_t (s1 := [.ins "Line" [] []]) (by simp only [evSs, evS.eq_1, evS.eq_2, evS.eq_3, evS.eq_4, evS.eq_5, evS.eq_8, evS.eq_9, evS.eq_10, evS.eq_11, evS.eq_12, evS.eq_13, evS.eq_14, E_forr, E_whl, evE.eq_1, evE.eq_2, evE.eq_3, evE.eq_4, evE.eq_5, evE.eq_6, evE.eq_7, evE.eq_8, evE.eq_9, evE.eq_10, evE.eq_11, evE.eq_12, evE.eq_13, evE.eq_14, evE.eq_15, evE.eq_16, evE.eq_17, evE.eq_18, evE.eq_19, evE.eq_20, evE.eq_21, evE.eq_22, evE.eq_23, evE.eq_24, evE.eq_25, evE.eq_26, evE.eq_27, evE.eq_28, evE.eq_32, evE.eq_33, evE.eq_34, evE_comp, evEs, evG, evGs, evI, List.getElem?_cons_zero, List.getElem?_cons_succ, bind_ok, fl_ok, fb_nx, fb_rt, nox_ok, opt_some, optB_some, blR_bl, asS_tup, asS_lst, asSK_tup, asSK_lst, asL_lst, lenGs, List.length_cons, List.length_nil, Nat.reduceAdd, Nat.reduceLT, Nat.reduceLeDiff, if_true, line, Nat.reducePow, List.set_cons_succ, List.set_cons_zero, retR_false, retR_int, evC_int, evC_bl, evC_str, evC_lst, evC_tup, evC_non, evC_is, evC_isn, cmp_eq_str, cmp_ne_str, cmp_eq_int, cmp_ne_int, cmp_eq_is, cmp_eq_ns, str_eq, String.reduceEq, decide_true, decide_false, Bool.not_true, Bool.not_false, is_non, isn_non, is_tup, isn_tup, is_lst, isn_lst, is_str, isn_str, is_int, isn_int, List.map_cons, List.map_nil, Nat.sub_self, List.replicate, List.append_nil, bind_exc, fl_exc, fb_ex, fb_rt, Bool.and_self, cmp_lt_int, cmp_le_int, cmp_gt_int, cmp_ge_int, bin_add, List.cons_append, List.nil_append, Nat.reduceSub, nc0, nc1, nc2, nc3, nc4, nc5, nc6, nc7, nc8, nc9, Int.reduceEq, Int.reduceLT, Int.reduceLE, Int.reduceNe, Bool.false_eq_true, if_false, e2])]
  exact evSs_ex (evS_raise f (by simp only [evSs, evS.eq_1, evS.eq_2, evS.eq_3, evS.eq_4, evS.eq_5, evS.eq_8, evS.eq_9, evS.eq_10, evS.eq_11, evS.eq_12, evS.eq_13, evS.eq_14, E_forr, E_whl, evE.eq_1, evE.eq_2, evE.eq_3, evE.eq_4, evE.eq_5, evE.eq_6, evE.eq_7, evE.eq_8, evE.eq_9, evE.eq_10, evE.eq_11, evE.eq_12, evE.eq_13, evE.eq_14, evE.eq_15, evE.eq_16, evE.eq_17, evE.eq_18, evE.eq_19, evE.eq_20, evE.eq_21, evE.eq_22, evE.eq_23, evE.eq_24, evE.eq_25, evE.eq_26, evE.eq_27, evE.eq_28, evE.eq_32, evE.eq_33, evE.eq_34, evE_comp, evEs, evG, evGs, evI, List.getElem?_cons_zero, List.getElem?_cons_succ, bind_ok, fl_ok, fb_nx, fb_rt, nox_ok, opt_some, optB_some, blR_bl, asS_tup, asS_lst, asSK_tup, asSK_lst, asL_lst, lenGs, List.length_cons, List.length_nil, Nat.reduceAdd, Nat.reduceLT, Nat.reduceLeDiff, if_true, line, Nat.reducePow, List.set_cons_succ, List.set_cons_zero, retR_false, retR_int, evC_int, evC_bl, evC_str, evC_lst, evC_tup, evC_non, evC_is, evC_isn, cmp_eq_str, cmp_ne_str, cmp_eq_int, cmp_ne_int, cmp_eq_is, cmp_eq_ns, str_eq, String.reduceEq, decide_true, decide_false, Bool.not_true, Bool.not_false, is_non, isn_non, is_tup, isn_tup, is_lst, isn_lst, is_str, isn_str, is_int, isn_int, List.map_cons, List.map_nil, Nat.sub_self, List.replicate, List.append_nil, bind_exc, fl_exc, fb_ex, fb_rt, Bool.and_self, cmp_lt_int, cmp_le_int, cmp_gt_int, cmp_ge_int, bin_add, List.cons_append, List.nil_append, Nat.reduceSub, nc0, nc1, nc2, nc3, nc4, nc5, nc6, nc7, nc8, nc9, Int.reduceEq, Int.reduceLT, Int.reduceLE, Int.reduceNe, Bool.false_eq_true, if_false, ]) f2 rfl)
theorem line_box0 (n : Nat) (st : Sto) {cs : List Int} {clr any : Bool} {ev : Int} {tr : Str} {b : Mini.D} (hc : okc cs) (h0 : 0 ≤ ev) (h1 : ev < 4) (ht : tr ∈ TRS) (hb : bd 0 b = true) (hk : kdOf [.ins "Line" [] []] b ≠ some .tup ∧ (kdOf [.ins "Line" [] []] b).isSome = true ∨ ∃ xs, b = .tup xs ∧ 3 < xs.length) :
    run_ (n + 5) "Line" [spD cs clr any, .int ev, .str tr, b] st = .exc "BadBox" ["index"] [.non] st := by
  have e1 := every_ok n [.ins "Line" [] []] h0 h1
  have e2 := one_tr (n + 2) ht [.ins "Line" [] []]
  unfold trsD at e2
  refine line_exc (n + 3) st (by rw [bds_cons, bd_sp clr any 0 hc, bds_cons, bds_cons, bds_cons, hb]; rfl) rfl rfl ⟨[some (.ref 0), some (spD cs clr any), some (.int ev), some (.str tr), some b], ?_⟩
  unfold ir_Line___init__
  simp only [List.map_cons, List.map_nil]
  have f2 : excOk [.non] = true := rfl
  rw [evSs_nx (evS_exp (d := .non) (s1 := [.ins "Line" [] []]) (by simp only [evSs, evS.eq_1, evS.eq_2, evS.eq_3, evS.eq_4, evS.eq_5, evS.eq_8, evS.eq_9, evS.eq_10, evS.eq_11, evS.eq_12, evS.eq_13, evS.eq_14, E_forr, E_whl, evE.eq_1, evE.eq_2, evE.eq_3, evE.eq_4, evE.eq_5, evE.eq_6, evE.eq_7, evE.eq_8, evE.eq_9, evE.eq_10, evE.eq_11, evE.eq_12, evE.eq_13, evE.eq_14, evE.eq_15, evE.eq_16, evE.eq_17, evE.eq_18, evE.eq_19, evE.eq_20, evE.eq_21, evE.eq_22, evE.eq_23, evE.eq_24, evE.eq_25, evE.eq_26, evE.eq_27, evE.eq_28, evE.eq_32, evE.eq_33, evE.eq_34, evE_comp, evEs, evG, evGs, evI, List.getElem?_cons_zero, List.getElem?_cons_succ, bind_ok, fl_ok, fb_nx, fb_rt, nox_ok, opt_some, optB_some, blR_bl, asS_tup, asS_lst, asSK_tup, asSK_lst, asL_lst, lenGs, List.length_cons, List.length_nil, Nat.reduceAdd, Nat.reduceLT, Nat.reduceLeDiff, if_true, line, Nat.reducePow, List.set_cons_succ, List.set_cons_zero, retR_false, retR_int, evC_int, evC_bl, evC_str, evC_lst, evC_tup, evC_non, evC_is, evC_isn, cmp_eq_str, cmp_ne_str, cmp_eq_int, cmp_ne_int, cmp_eq_is, cmp_eq_ns, str_eq, String.reduceEq, decide_true, decide_false, Bool.not_true, Bool.not_false, is_non, isn_non, is_tup, isn_tup, is_lst, isn_lst, is_str, isn_str, is_int, isn_int, List.map_cons, List.map_nil, Nat.sub_self, List.replicate, List.append_nil, bind_exc, fl_exc, fb_ex, fb_rt, Bool.and_self, cmp_lt_int, cmp_le_int, cmp_gt_int, cmp_ge_int, bin_add, List.cons_append, List.nil_append, Nat.reduceSub, nc0, nc1, nc2, nc3, nc4, nc5, nc6, nc7, nc8, nc9, Int.reduceEq, Int.reduceLT, Int.reduceLE, Int.reduceNe, Bool.false_eq_true, if_false, e1]))]
  rw [evSs_nx ((evS_if_f (s1 := [.ins "Line" [] []]) (by simp only [evSs, evS.eq_1, evS.eq_2, evS.eq_3, evS.eq_4, evS.eq_5, evS.eq_8, evS.eq_9, evS.eq_10, evS.eq_11, evS.eq_12, evS.eq_13, evS.eq_14, E_forr, E_whl, evE.eq_1, evE.eq_2, evE.eq_3, evE.eq_4, evE.eq_5, evE.eq_6, evE.eq_7, evE.eq_8, evE.eq_9, evE.eq_10, evE.eq_11, evE.eq_12, evE.eq_13, evE.eq_14, evE.eq_15, evE.eq_16, evE.eq_17, evE.eq_18, evE.eq_19, evE.eq_20, evE.eq_21, evE.eq_22, evE.eq_23, evE.eq_24, evE.eq_25, evE.eq_26, evE.eq_27, evE.eq_28, evE.eq_32, evE.eq_33, evE.eq_34, evE_comp, evEs, evG, evGs, evI, List.getElem?_cons_zero, List.getElem?_cons_succ, bind_ok, fl_ok, fb_nx, fb_rt, nox_ok, opt_some, optB_some, blR_bl, asS_tup, asS_lst, asSK_tup, asSK_lst, asL_lst, lenGs, List.length_cons, List.length_nil, Nat.reduceAdd, Nat.reduceLT, Nat.reduceLeDiff, if_true, line, Nat.reducePow, List.set_cons_succ, List.set_cons_zero, retR_false, retR_int, evC_int, evC_bl, evC_str, evC_lst, evC_tup, evC_non, evC_is, evC_isn, cmp_eq_str, cmp_ne_str, cmp_eq_int, cmp_ne_int, cmp_eq_is, cmp_eq_ns, str_eq, String.reduceEq, decide_true, decide_false, Bool.not_true, Bool.not_false, is_non, isn_non, is_tup, isn_tup, is_lst, isn_lst, is_str, isn_str, is_int, isn_int, List.map_cons, List.map_nil, Nat.sub_self, List.replicate, List.append_nil, bind_exc, fl_exc, fb_ex, fb_rt, Bool.and_self, cmp_lt_int, cmp_le_int, cmp_gt_int, cmp_ge_int, bin_add, List.cons_append, List.nil_append, Nat.reduceSub, nc0, nc1, nc2, nc3, nc4, nc5, nc6, nc7, nc8, nc9, Int.reduceEq, Int.reduceLT, Int.reduceLE, Int.reduceNe, Bool.false_eq_true, if_false, e2])).trans evSs_nil)]
  refine evSs_ex ?_
  have ec : evE (run_ (n + 3)) L.sub (.or_ (.not_ (.isi (.var 4) [.tuple])) (.cmp ["Speech", "Line"] .gt (.bi false .len (.cons (.var 4) .nil)) (.glb "MOST_BOXES" (.int (3))))) [some (.ref 0), some (spD cs clr any), some (.int ev), some (.str tr), some b] [.ins "Line" [] []] = .ok (.bl true) [.ins "Line" [] []] := by
    rcases hk with ⟨h3, h4⟩ | ⟨xs, rfl, h3⟩
    · obtain ⟨k, ek⟩ := Option.isSome_iff_exists.mp h4
      have hf : (List.any [Ty.tuple] fun t => isK L.sub t k) = false := by
        cases k <;> first | rfl | exact absurd ek h3
      simp only [evSs, evS.eq_1, evS.eq_2, evS.eq_3, evS.eq_4, evS.eq_5, evS.eq_8, evS.eq_9, evS.eq_10, evS.eq_11, evS.eq_12, evS.eq_13, evS.eq_14, E_forr, E_whl, evE.eq_1, evE.eq_2, evE.eq_3, evE.eq_4, evE.eq_5, evE.eq_6, evE.eq_7, evE.eq_8, evE.eq_9, evE.eq_10, evE.eq_11, evE.eq_12, evE.eq_13, evE.eq_14, evE.eq_15, evE.eq_16, evE.eq_17, evE.eq_18, evE.eq_19, evE.eq_20, evE.eq_21, evE.eq_22, evE.eq_23, evE.eq_24, evE.eq_25, evE.eq_26, evE.eq_27, evE.eq_28, evE.eq_32, evE.eq_33, evE.eq_34, evE_comp, evEs, evG, evGs, evI, List.getElem?_cons_zero, List.getElem?_cons_succ, bind_ok, fl_ok, fb_nx, fb_rt, nox_ok, opt_some, optB_some, blR_bl, asS_tup, asS_lst, asSK_tup, asSK_lst, asL_lst, lenGs, List.length_cons, List.length_nil, Nat.reduceAdd, Nat.reduceLT, Nat.reduceLeDiff, if_true, line, Nat.reducePow, List.set_cons_succ, List.set_cons_zero, retR_false, retR_int, evC_int, evC_bl, evC_str, evC_lst, evC_tup, evC_non, evC_is, evC_isn, cmp_eq_str, cmp_ne_str, cmp_eq_int, cmp_ne_int, cmp_eq_is, cmp_eq_ns, str_eq, String.reduceEq, decide_true, decide_false, Bool.not_true, Bool.not_false, is_non, isn_non, is_tup, isn_tup, is_lst, isn_lst, is_str, isn_str, is_int, isn_int, List.map_cons, List.map_nil, Nat.sub_self, List.replicate, List.append_nil, bind_exc, fl_exc, fb_ex, fb_rt, Bool.and_self, cmp_lt_int, cmp_le_int, cmp_gt_int, cmp_ge_int, bin_add, List.cons_append, List.nil_append, Nat.reduceSub, nc0, nc1, nc2, nc3, nc4, nc5, nc6, nc7, nc8, nc9, Int.reduceEq, Int.reduceLT, Int.reduceLE, Int.reduceNe, Bool.false_eq_true, if_false, ek, hf]
    · have k0 : ∀ st xs, kdOf st (.tup xs) = some .tup := fun _ _ => rfl
      have k1 : (List.any [Ty.tuple] fun t => isK L.sub t .tup) = true := rfl
      have h3' : (3 : Int) < (xs.length : Int) := by omega
      simp only [evSs, evS.eq_1, evS.eq_2, evS.eq_3, evS.eq_4, evS.eq_5, evS.eq_8, evS.eq_9, evS.eq_10, evS.eq_11, evS.eq_12, evS.eq_13, evS.eq_14, E_forr, E_whl, evE.eq_1, evE.eq_2, evE.eq_3, evE.eq_4, evE.eq_5, evE.eq_6, evE.eq_7, evE.eq_8, evE.eq_9, evE.eq_10, evE.eq_11, evE.eq_12, evE.eq_13, evE.eq_14, evE.eq_15, evE.eq_16, evE.eq_17, evE.eq_18, evE.eq_19, evE.eq_20, evE.eq_21, evE.eq_22, evE.eq_23, evE.eq_24, evE.eq_25, evE.eq_26, evE.eq_27, evE.eq_28, evE.eq_32, evE.eq_33, evE.eq_34, evE_comp, evEs, evG, evGs, evI, List.getElem?_cons_zero, List.getElem?_cons_succ, bind_ok, fl_ok, fb_nx, fb_rt, nox_ok, opt_some, optB_some, blR_bl, asS_tup, asS_lst, asSK_tup, asSK_lst, asL_lst, lenGs, List.length_cons, List.length_nil, Nat.reduceAdd, Nat.reduceLT, Nat.reduceLeDiff, if_true, line, Nat.reducePow, List.set_cons_succ, List.set_cons_zero, retR_false, retR_int, evC_int, evC_bl, evC_str, evC_lst, evC_tup, evC_non, evC_is, evC_isn, cmp_eq_str, cmp_ne_str, cmp_eq_int, cmp_ne_int, cmp_eq_is, cmp_eq_ns, str_eq, String.reduceEq, decide_true, decide_false, Bool.not_true, Bool.not_false, is_non, isn_non, is_tup, isn_tup, is_lst, isn_lst, is_str, isn_str, is_int, isn_int, List.map_cons, List.map_nil, Nat.sub_self, List.replicate, List.append_nil, bind_exc, fl_exc, fb_ex, fb_rt, Bool.and_self, cmp_lt_int, cmp_le_int, cmp_gt_int, cmp_ge_int, bin_add, List.cons_append, List.nil_append, Nat.reduceSub, nc0, nc1, nc2, nc3, nc4, nc5, nc6, nc7, nc8, nc9, Int.reduceEq, Int.reduceLT, Int.reduceLE, Int.reduceNe, Bool.false_eq_true, if_false, k0, k1, len_tup, h3']
  rw [evS_if_t ec]
  exact evSs_ex (evS_raise efs_box (by simp only [evSs, evS.eq_1, evS.eq_2, evS.eq_3, evS.eq_4, evS.eq_5, evS.eq_8, evS.eq_9, evS.eq_10, evS.eq_11, evS.eq_12, evS.eq_13, evS.eq_14, E_forr, E_whl, evE.eq_1, evE.eq_2, evE.eq_3, evE.eq_4, evE.eq_5, evE.eq_6, evE.eq_7, evE.eq_8, evE.eq_9, evE.eq_10, evE.eq_11, evE.eq_12, evE.eq_13, evE.eq_14, evE.eq_15, evE.eq_16, evE.eq_17, evE.eq_18, evE.eq_19, evE.eq_20, evE.eq_21, evE.eq_22, evE.eq_23, evE.eq_24, evE.eq_25, evE.eq_26, evE.eq_27, evE.eq_28, evE.eq_32, evE.eq_33, evE.eq_34, evE_comp, evEs, evG, evGs, evI, List.getElem?_cons_zero, List.getElem?_cons_succ, bind_ok, fl_ok, fb_nx, fb_rt, nox_ok, opt_some, optB_some, blR_bl, asS_tup, asS_lst, asSK_tup, asSK_lst, asL_lst, lenGs, List.length_cons, List.length_nil, Nat.reduceAdd, Nat.reduceLT, Nat.reduceLeDiff, if_true, line, Nat.reducePow, List.set_cons_succ, List.set_cons_zero, retR_false, retR_int, evC_int, evC_bl, evC_str, evC_lst, evC_tup, evC_non, evC_is, evC_isn, cmp_eq_str, cmp_ne_str, cmp_eq_int, cmp_ne_int, cmp_eq_is, cmp_eq_ns, str_eq, String.reduceEq, decide_true, decide_false, Bool.not_true, Bool.not_false, is_non, isn_non, is_tup, isn_tup, is_lst, isn_lst, is_str, isn_str, is_int, isn_int, List.map_cons, List.map_nil, Nat.sub_self, List.replicate, List.append_nil, bind_exc, fl_exc, fb_ex, fb_rt, Bool.and_self, cmp_lt_int, cmp_le_int, cmp_gt_int, cmp_ge_int, bin_add, List.cons_append, List.nil_append, Nat.reduceSub, nc0, nc1, nc2, nc3, nc4, nc5, nc6, nc7, nc8, nc9, Int.reduceEq, Int.reduceLT, Int.reduceLE, Int.reduceNe, Bool.false_eq_true, if_false, ]) f2 rfl)
def oddX : List Mini.D := [.non, .tup [.str "thin", .int 1], .str "thin", .tup [.str "again", .int 0], .tup [.str "cut", .str "d"]]
theorem oddX_all (n : Nat) : allSp (fun cs clr any => oddX.all fun x => optD (valR (ev0 L.T L.sub L.efs L.wf (run_ (n + 2)) "is_box" [spD cs clr any, x] [])) (.bl false)) = true := by kernel_rfl
theorem oddX_bd : oddX.all (fun x => dat 1 x) = true := by rfl
theorem oddX_ok (n : Nat) {cs : List Int} (hc : okc cs) (clr any : Bool) {x : Mini.D} (hx : x ∈ oddX) : run_ (n + 3) "is_box" [spD cs clr any, x] [] = .ok (.bl false) [] :=
  run_frame [] (by rw [bds_cons, bd_sp clr any 0 hc, bds_cons, dat_bd 0 (List.all_eq_true.mp oddX_bd x hx)]; rfl) rfl (optD_ok (List.all_eq_true.mp (allSp_ok (oddX_all n) hc clr any) x hx))
theorem line_box (n : Nat) (st : Sto) {cs : List Int} {clr any : Bool} {ev : Int} {tr : Str} (hc : okc cs) (h0 : 0 ≤ ev) (h1 : ev < 4) (ht : tr ∈ TRS) (bs : List Bx) (hbs : ∀ b ∈ bs, bxOk cs b) {x : Mini.D} (hx : x ∈ oddX) (r : List Mini.D) (hr : bds 0 r = true) (hl : bs.length + 1 + r.length ≤ 3) :
    run_ (n + 6) "Line" [spD cs clr any, .int ev, .str tr, .tup (bs.map bxD ++ x :: r)] st = .exc "BadBox" ["index"] [.int (bs.length : Int)] st := by
  have hxb : bds 0 (x :: r) = true := by rw [bds_cons, dat_bd 0 (List.all_eq_true.mp oddX_bd x hx), hr]; rfl
  have e1 := every_ok (n + 1) [.ins "Line" [] []] h0 h1
  have e2 := one_tr (n + 3) ht [.ins "Line" [] []]
  unfold trsD at e2
  have e3 : run_ (n + 4) "check_boxes" [spD cs clr any, .tup (bs.map bxD ++ x :: r)] [.ins "Line" [] []] = .exc "BadBox" ["index"] [.int (bs.length : Int)] [.ins "Line" [] []] := check_boxes_bad n [.ins "Line" [] []] (clr := clr) (any := any) true hc bs x r hbs (by omega) (oddX_ok n hc clr any hx) hxb
  refine line_exc (n + 4) st (by rw [bds_cons, bd_sp clr any 0 hc, bds_cons, bds_cons, bds_cons, bd_tup, bds_append, bds_bxs, hxb]; rfl) rfl rfl ⟨[some (.ref 0), some (spD cs clr any), some (.int ev), some (.str tr), some (.tup (bs.map bxD ++ x :: r))], ?_⟩
  unfold ir_Line___init__
  simp only [List.map_cons, List.map_nil]
  have k0 : ∀ st xs, kdOf st (.tup xs) = some .tup := fun _ _ => rfl
  have k1 : (List.any [Ty.tuple] fun t => isK L.sub t .tup) = true := rfl
  have ll : ∀ st, biD st .len [.tup (bs.map bxD ++ x :: r)] = some (.int ((bs.length + 1 + r.length : Nat) : Int)) := fun st => by
    rw [len_tup, List.length_append, List.length_map, List.length_cons]
    congr 2
    omega
  have hl' : ¬ ((3 : Int) < ((bs.length + 1 + r.length : Nat) : Int)) := by omega
  rw [evSs_nx (evS_exp (d := .non) (s1 := [.ins "Line" [] []]) (by simp only [evSs, evS.eq_1, evS.eq_2, evS.eq_3, evS.eq_4, evS.eq_5, evS.eq_8, evS.eq_9, evS.eq_10, evS.eq_11, evS.eq_12, evS.eq_13, evS.eq_14, E_forr, E_whl, evE.eq_1, evE.eq_2, evE.eq_3, evE.eq_4, evE.eq_5, evE.eq_6, evE.eq_7, evE.eq_8, evE.eq_9, evE.eq_10, evE.eq_11, evE.eq_12, evE.eq_13, evE.eq_14, evE.eq_15, evE.eq_16, evE.eq_17, evE.eq_18, evE.eq_19, evE.eq_20, evE.eq_21, evE.eq_22, evE.eq_23, evE.eq_24, evE.eq_25, evE.eq_26, evE.eq_27, evE.eq_28, evE.eq_32, evE.eq_33, evE.eq_34, evE_comp, evEs, evG, evGs, evI, List.getElem?_cons_zero, List.getElem?_cons_succ, bind_ok, fl_ok, fb_nx, fb_rt, nox_ok, opt_some, optB_some, blR_bl, asS_tup, asS_lst, asSK_tup, asSK_lst, asL_lst, lenGs, List.length_cons, List.length_nil, Nat.reduceAdd, Nat.reduceLT, Nat.reduceLeDiff, if_true, line, Nat.reducePow, List.set_cons_succ, List.set_cons_zero, retR_false, retR_int, evC_int, evC_bl, evC_str, evC_lst, evC_tup, evC_non, evC_is, evC_isn, cmp_eq_str, cmp_ne_str, cmp_eq_int, cmp_ne_int, cmp_eq_is, cmp_eq_ns, str_eq, String.reduceEq, decide_true, decide_false, Bool.not_true, Bool.not_false, is_non, isn_non, is_tup, isn_tup, is_lst, isn_lst, is_str, isn_str, is_int, isn_int, List.map_cons, List.map_nil, Nat.sub_self, List.replicate, List.append_nil, bind_exc, fl_exc, fb_ex, fb_rt, Bool.and_self, cmp_lt_int, cmp_le_int, cmp_gt_int, cmp_ge_int, bin_add, List.cons_append, List.nil_append, Nat.reduceSub, nc0, nc1, nc2, nc3, nc4, nc5, nc6, nc7, nc8, nc9, Int.reduceEq, Int.reduceLT, Int.reduceLE, Int.reduceNe, Bool.false_eq_true, if_false, e1]))]
  rw [evSs_nx ((evS_if_f (s1 := [.ins "Line" [] []]) (by simp only [evSs, evS.eq_1, evS.eq_2, evS.eq_3, evS.eq_4, evS.eq_5, evS.eq_8, evS.eq_9, evS.eq_10, evS.eq_11, evS.eq_12, evS.eq_13, evS.eq_14, E_forr, E_whl, evE.eq_1, evE.eq_2, evE.eq_3, evE.eq_4, evE.eq_5, evE.eq_6, evE.eq_7, evE.eq_8, evE.eq_9, evE.eq_10, evE.eq_11, evE.eq_12, evE.eq_13, evE.eq_14, evE.eq_15, evE.eq_16, evE.eq_17, evE.eq_18, evE.eq_19, evE.eq_20, evE.eq_21, evE.eq_22, evE.eq_23, evE.eq_24, evE.eq_25, evE.eq_26, evE.eq_27, evE.eq_28, evE.eq_32, evE.eq_33, evE.eq_34, evE_comp, evEs, evG, evGs, evI, List.getElem?_cons_zero, List.getElem?_cons_succ, bind_ok, fl_ok, fb_nx, fb_rt, nox_ok, opt_some, optB_some, blR_bl, asS_tup, asS_lst, asSK_tup, asSK_lst, asL_lst, lenGs, List.length_cons, List.length_nil, Nat.reduceAdd, Nat.reduceLT, Nat.reduceLeDiff, if_true, line, Nat.reducePow, List.set_cons_succ, List.set_cons_zero, retR_false, retR_int, evC_int, evC_bl, evC_str, evC_lst, evC_tup, evC_non, evC_is, evC_isn, cmp_eq_str, cmp_ne_str, cmp_eq_int, cmp_ne_int, cmp_eq_is, cmp_eq_ns, str_eq, String.reduceEq, decide_true, decide_false, Bool.not_true, Bool.not_false, is_non, isn_non, is_tup, isn_tup, is_lst, isn_lst, is_str, isn_str, is_int, isn_int, List.map_cons, List.map_nil, Nat.sub_self, List.replicate, List.append_nil, bind_exc, fl_exc, fb_ex, fb_rt, Bool.and_self, cmp_lt_int, cmp_le_int, cmp_gt_int, cmp_ge_int, bin_add, List.cons_append, List.nil_append, Nat.reduceSub, nc0, nc1, nc2, nc3, nc4, nc5, nc6, nc7, nc8, nc9, Int.reduceEq, Int.reduceLT, Int.reduceLE, Int.reduceNe, Bool.false_eq_true, if_false, e2])).trans evSs_nil)]
  rw [evSs_nx ((evS_if_f (s1 := [.ins "Line" [] []]) (by simp only [evSs, evS.eq_1, evS.eq_2, evS.eq_3, evS.eq_4, evS.eq_5, evS.eq_8, evS.eq_9, evS.eq_10, evS.eq_11, evS.eq_12, evS.eq_13, evS.eq_14, E_forr, E_whl, evE.eq_1, evE.eq_2, evE.eq_3, evE.eq_4, evE.eq_5, evE.eq_6, evE.eq_7, evE.eq_8, evE.eq_9, evE.eq_10, evE.eq_11, evE.eq_12, evE.eq_13, evE.eq_14, evE.eq_15, evE.eq_16, evE.eq_17, evE.eq_18, evE.eq_19, evE.eq_20, evE.eq_21, evE.eq_22, evE.eq_23, evE.eq_24, evE.eq_25, evE.eq_26, evE.eq_27, evE.eq_28, evE.eq_32, evE.eq_33, evE.eq_34, evE_comp, evEs, evG, evGs, evI, List.getElem?_cons_zero, List.getElem?_cons_succ, bind_ok, fl_ok, fb_nx, fb_rt, nox_ok, opt_some, optB_some, blR_bl, asS_tup, asS_lst, asSK_tup, asSK_lst, asL_lst, lenGs, List.length_cons, List.length_nil, Nat.reduceAdd, Nat.reduceLT, Nat.reduceLeDiff, if_true, line, Nat.reducePow, List.set_cons_succ, List.set_cons_zero, retR_false, retR_int, evC_int, evC_bl, evC_str, evC_lst, evC_tup, evC_non, evC_is, evC_isn, cmp_eq_str, cmp_ne_str, cmp_eq_int, cmp_ne_int, cmp_eq_is, cmp_eq_ns, str_eq, String.reduceEq, decide_true, decide_false, Bool.not_true, Bool.not_false, is_non, isn_non, is_tup, isn_tup, is_lst, isn_lst, is_str, isn_str, is_int, isn_int, List.map_cons, List.map_nil, Nat.sub_self, List.replicate, List.append_nil, bind_exc, fl_exc, fb_ex, fb_rt, Bool.and_self, cmp_lt_int, cmp_le_int, cmp_gt_int, cmp_ge_int, bin_add, List.cons_append, List.nil_append, Nat.reduceSub, nc0, nc1, nc2, nc3, nc4, nc5, nc6, nc7, nc8, nc9, Int.reduceEq, Int.reduceLT, Int.reduceLE, Int.reduceNe, Bool.false_eq_true, if_false, k0, k1, ll, hl'])).trans evSs_nil)]
  exact evSs_ex (evS_expx (by simp only [evSs, evS.eq_1, evS.eq_2, evS.eq_3, evS.eq_4, evS.eq_5, evS.eq_8, evS.eq_9, evS.eq_10, evS.eq_11, evS.eq_12, evS.eq_13, evS.eq_14, E_forr, E_whl, evE.eq_1, evE.eq_2, evE.eq_3, evE.eq_4, evE.eq_5, evE.eq_6, evE.eq_7, evE.eq_8, evE.eq_9, evE.eq_10, evE.eq_11, evE.eq_12, evE.eq_13, evE.eq_14, evE.eq_15, evE.eq_16, evE.eq_17, evE.eq_18, evE.eq_19, evE.eq_20, evE.eq_21, evE.eq_22, evE.eq_23, evE.eq_24, evE.eq_25, evE.eq_26, evE.eq_27, evE.eq_28, evE.eq_32, evE.eq_33, evE.eq_34, evE_comp, evEs, evG, evGs, evI, List.getElem?_cons_zero, List.getElem?_cons_succ, bind_ok, fl_ok, fb_nx, fb_rt, nox_ok, opt_some, optB_some, blR_bl, asS_tup, asS_lst, asSK_tup, asSK_lst, asL_lst, lenGs, List.length_cons, List.length_nil, Nat.reduceAdd, Nat.reduceLT, Nat.reduceLeDiff, if_true, line, Nat.reducePow, List.set_cons_succ, List.set_cons_zero, retR_false, retR_int, evC_int, evC_bl, evC_str, evC_lst, evC_tup, evC_non, evC_is, evC_isn, cmp_eq_str, cmp_ne_str, cmp_eq_int, cmp_ne_int, cmp_eq_is, cmp_eq_ns, str_eq, String.reduceEq, decide_true, decide_false, Bool.not_true, Bool.not_false, is_non, isn_non, is_tup, isn_tup, is_lst, isn_lst, is_str, isn_str, is_int, isn_int, List.map_cons, List.map_nil, Nat.sub_self, List.replicate, List.append_nil, bind_exc, fl_exc, fb_ex, fb_rt, Bool.and_self, cmp_lt_int, cmp_le_int, cmp_gt_int, cmp_ge_int, bin_add, List.cons_append, List.nil_append, Nat.reduceSub, nc0, nc1, nc2, nc3, nc4, nc5, nc6, nc7, nc8, nc9, Int.reduceEq, Int.reduceLT, Int.reduceLE, Int.reduceNe, Bool.false_eq_true, if_false, e3]))
/-! == of speeches and of lines -/
theorem T_speq : L.T "Speech.__eq__" = some (.fn none 2 2 false ir_Speech___eq__) := by rfl
theorem T_lneq : L.T "Line.__eq__" = some (.fn none 2 2 false ir_Line___eq__) := by rfl
theorem T_like : L.T "is_like" = some (.fn none 2 2 false ir_is_like) := by rfl
/-- two tuples of boxes -/
def bxE (bs bs' : List Bx) : Bool := keyB (.tup (bs.map bxD)) (.tup (bs'.map bxD))
theorem many_ne_all : (CSL.all fun cs => CSL.all fun cs' => (match cmpD [] .ne (manyD cs) (manyD cs') with | some b => b == !(cs == cs') | none => false)) = true := by kernel_rfl
theorem many_ne {cs cs' : List Int} (hc : okc cs) (hc' : okc cs') (st : Sto) : cmpD st .ne (manyD cs) (manyD cs') = some (!(cs == cs')) := by
  have h := List.all_eq_true.mp (List.all_eq_true.mp many_ne_all cs (okc_mem hc)) cs' (okc_mem hc')
  rw [cmp_ne_nr rfl rfl]
  revert h
  cases cmpD [] .ne (manyD cs) (manyD cs') with
  | none => intro h; cases h
  | some b => intro h; rw [eq_of_beq h]
theorem evC_many (call : Str → List Mini.D → Sto → Res Mini.D) (cls : List Str) (op : COp) (cs : List Int) (y : Mini.D) (st : Sto) : evC call cls op (manyD cs) y st = optB (cmpD st op (manyD cs) y) fun b => .ok (.bl b) st := evC_dct call cls op _ _ y st
theorem tS_eq (a b : Bool) : decide (tS a = tS b) = (a == b) := by cases a <;> cases b <;> decide
theorem eS_eq (a b : Bool) : decide (eS a = eS b) = (a == b) := by cases a <;> cases b <;> decide
theorem sp_eq (n : Nat) (st : Sto) {cs cs' : List Int} {clr any clr' any' : Bool} (hc : okc cs) (hc' : okc cs') : run_ (n + 1) "Speech.__eq__" [spD cs clr any, spD cs' clr' any'] st = .ok (.bl (cs == cs' && (clr == clr' && any == any'))) st := by
  refine run_fn0 st T_speq (by rw [bds_cons, bd_sp clr any 0 hc, bds_cons, bd_sp clr' any' 0 hc']; rfl) rfl ?_ rfl
  have k0 : kdOf [] (spD cs' clr' any') = some (.ins "Speech") := rfl
  have k1 : (List.any [Ty.own "Speech"] fun t => isK L.sub t (.ins "Speech")) = true := by decide +kernel
  have e1 := many_ne hc hc' []
  have e2 := tS_eq clr clr'
  have e3 := eS_eq any any'
  cases h1 : (cs == cs') with
  | false =>
    rw [h1] at e1
    simp only [evSs, evS.eq_1, evS.eq_2, evS.eq_3, evS.eq_4, evS.eq_5, evS.eq_8, evS.eq_9, evS.eq_10, evS.eq_11, evS.eq_12, evS.eq_13, evS.eq_14, E_forr, E_whl, evE.eq_1, evE.eq_2, evE.eq_3, evE.eq_4, evE.eq_5, evE.eq_6, evE.eq_7, evE.eq_8, evE.eq_9, evE.eq_10, evE.eq_11, evE.eq_12, evE.eq_13, evE.eq_14, evE.eq_15, evE.eq_16, evE.eq_17, evE.eq_18, evE.eq_19, evE.eq_20, evE.eq_21, evE.eq_22, evE.eq_23, evE.eq_24, evE.eq_25, evE.eq_26, evE.eq_27, evE.eq_28, evE.eq_32, evE.eq_33, evE.eq_34, evE_comp, evEs, evG, evGs, evI, List.getElem?_cons_zero, List.getElem?_cons_succ, bind_ok, fl_ok, fb_nx, fb_rt, nox_ok, opt_some, optB_some, blR_bl, asS_tup, asS_lst, asSK_tup, asSK_lst, asL_lst, lenGs, List.length_cons, List.length_nil, Nat.reduceAdd, Nat.reduceLT, Nat.reduceLeDiff, if_true, line, Nat.reducePow, List.set_cons_succ, List.set_cons_zero, retR_false, retR_int, evC_int, evC_bl, evC_str, evC_lst, evC_tup, evC_non, evC_is, evC_isn, cmp_eq_str, cmp_ne_str, cmp_eq_int, cmp_ne_int, cmp_eq_is, cmp_eq_ns, str_eq, String.reduceEq, decide_true, decide_false, Bool.not_true, Bool.not_false, is_non, isn_non, is_tup, isn_tup, is_lst, isn_lst, is_str, isn_str, is_int, isn_int, List.map_cons, List.map_nil, Nat.sub_self, List.replicate, List.append_nil, bind_exc, fl_exc, fb_ex, fb_rt, Bool.and_self, cmp_lt_int, cmp_le_int, cmp_gt_int, cmp_ge_int, bin_add, List.cons_append, List.nil_append, Nat.reduceSub, nc0, nc1, nc2, nc3, nc4, nc5, nc6, nc7, nc8, nc9, Int.reduceEq, Int.reduceLT, Int.reduceLE, Int.reduceNe, Bool.false_eq_true, if_false, ir_Speech___eq__, k0, k1, fld_many, evC_many, e1, Bool.false_and]
  | true =>
    rw [h1] at e1
    cases h2 : (clr == clr') with
    | false =>
      rw [h2] at e2
      simp only [evSs, evS.eq_1, evS.eq_2, evS.eq_3, evS.eq_4, evS.eq_5, evS.eq_8, evS.eq_9, evS.eq_10, evS.eq_11, evS.eq_12, evS.eq_13, evS.eq_14, E_forr, E_whl, evE.eq_1, evE.eq_2, evE.eq_3, evE.eq_4, evE.eq_5, evE.eq_6, evE.eq_7, evE.eq_8, evE.eq_9, evE.eq_10, evE.eq_11, evE.eq_12, evE.eq_13, evE.eq_14, evE.eq_15, evE.eq_16, evE.eq_17, evE.eq_18, evE.eq_19, evE.eq_20, evE.eq_21, evE.eq_22, evE.eq_23, evE.eq_24, evE.eq_25, evE.eq_26, evE.eq_27, evE.eq_28, evE.eq_32, evE.eq_33, evE.eq_34, evE_comp, evEs, evG, evGs, evI, List.getElem?_cons_zero, List.getElem?_cons_succ, bind_ok, fl_ok, fb_nx, fb_rt, nox_ok, opt_some, optB_some, blR_bl, asS_tup, asS_lst, asSK_tup, asSK_lst, asL_lst, lenGs, List.length_cons, List.length_nil, Nat.reduceAdd, Nat.reduceLT, Nat.reduceLeDiff, if_true, line, Nat.reducePow, List.set_cons_succ, List.set_cons_zero, retR_false, retR_int, evC_int, evC_bl, evC_str, evC_lst, evC_tup, evC_non, evC_is, evC_isn, cmp_eq_str, cmp_ne_str, cmp_eq_int, cmp_ne_int, cmp_eq_is, cmp_eq_ns, str_eq, String.reduceEq, decide_true, decide_false, Bool.not_true, Bool.not_false, is_non, isn_non, is_tup, isn_tup, is_lst, isn_lst, is_str, isn_str, is_int, isn_int, List.map_cons, List.map_nil, Nat.sub_self, List.replicate, List.append_nil, bind_exc, fl_exc, fb_ex, fb_rt, Bool.and_self, cmp_lt_int, cmp_le_int, cmp_gt_int, cmp_ge_int, bin_add, List.cons_append, List.nil_append, Nat.reduceSub, nc0, nc1, nc2, nc3, nc4, nc5, nc6, nc7, nc8, nc9, Int.reduceEq, Int.reduceLT, Int.reduceLE, Int.reduceNe, Bool.false_eq_true, if_false, ir_Speech___eq__, k0, k1, fld_many, fld_talk, evC_many, e1, e2, Bool.false_and, Bool.true_and]
    | true =>
      rw [h2] at e2
      simp only [evSs, evS.eq_1, evS.eq_2, evS.eq_3, evS.eq_4, evS.eq_5, evS.eq_8, evS.eq_9, evS.eq_10, evS.eq_11, evS.eq_12, evS.eq_13, evS.eq_14, E_forr, E_whl, evE.eq_1, evE.eq_2, evE.eq_3, evE.eq_4, evE.eq_5, evE.eq_6, evE.eq_7, evE.eq_8, evE.eq_9, evE.eq_10, evE.eq_11, evE.eq_12, evE.eq_13, evE.eq_14, evE.eq_15, evE.eq_16, evE.eq_17, evE.eq_18, evE.eq_19, evE.eq_20, evE.eq_21, evE.eq_22, evE.eq_23, evE.eq_24, evE.eq_25, evE.eq_26, evE.eq_27, evE.eq_28, evE.eq_32, evE.eq_33, evE.eq_34, evE_comp, evEs, evG, evGs, evI, List.getElem?_cons_zero, List.getElem?_cons_succ, bind_ok, fl_ok, fb_nx, fb_rt, nox_ok, opt_some, optB_some, blR_bl, asS_tup, asS_lst, asSK_tup, asSK_lst, asL_lst, lenGs, List.length_cons, List.length_nil, Nat.reduceAdd, Nat.reduceLT, Nat.reduceLeDiff, if_true, line, Nat.reducePow, List.set_cons_succ, List.set_cons_zero, retR_false, retR_int, evC_int, evC_bl, evC_str, evC_lst, evC_tup, evC_non, evC_is, evC_isn, cmp_eq_str, cmp_ne_str, cmp_eq_int, cmp_ne_int, cmp_eq_is, cmp_eq_ns, str_eq, String.reduceEq, decide_true, decide_false, Bool.not_true, Bool.not_false, is_non, isn_non, is_tup, isn_tup, is_lst, isn_lst, is_str, isn_str, is_int, isn_int, List.map_cons, List.map_nil, Nat.sub_self, List.replicate, List.append_nil, bind_exc, fl_exc, fb_ex, fb_rt, Bool.and_self, cmp_lt_int, cmp_le_int, cmp_gt_int, cmp_ge_int, bin_add, List.cons_append, List.nil_append, Nat.reduceSub, nc0, nc1, nc2, nc3, nc4, nc5, nc6, nc7, nc8, nc9, Int.reduceEq, Int.reduceLT, Int.reduceLE, Int.reduceNe, Bool.false_eq_true, if_false, ir_Speech___eq__, k0, k1, fld_many, fld_talk, fld_end, evC_many, e1, e2, e3, Bool.false_and, Bool.true_and]
theorem evC_sp (n : Nat) (st : Sto) {cls : List Str} (hcl : cls.contains "Speech" = true) {cs cs' : List Int} {clr any clr' any' : Bool} (hc : okc cs) (hc' : okc cs') : evC (run_ (n + 1)) cls .eq (spD cs clr any) (spD cs' clr' any') st = .ok (.bl (cs == cs' && (clr == clr' && any == any'))) st := by
  have e := sp_eq n st (clr := clr) (any := any) (clr' := clr') (any' := any') hc hc'
  show (if (cls.contains "Speech" && (kdOf st (spD cs' clr' any')).isSome) = true then (run_ (n + 1) "Speech.__eq__" [spD cs clr any, spD cs' clr' any'] st).nox.bind _ else _) = _
  rw [if_pos (by rw [hcl]; rfl), e]
  rfl
theorem evN_sp (n : Nat) (st : Sto) {cls : List Str} (hcl : cls.contains "Speech" = true) {cs cs' : List Int} {clr any clr' any' : Bool} (hc : okc cs) (hc' : okc cs') : evC (run_ (n + 1)) cls .ne (spD cs clr any) (spD cs' clr' any') st = .ok (.bl (!(cs == cs' && (clr == clr' && any == any')))) st := by
  have e := sp_eq n st (clr := clr) (any := any) (clr' := clr') (any' := any') hc hc'
  show (if (cls.contains "Speech" && (kdOf st (spD cs' clr' any')).isSome) = true then (run_ (n + 1) "Speech.__eq__" [spD cs clr any, spD cs' clr' any'] st).nox.bind _ else _) = _
  rw [if_pos (by rw [hcl]; rfl), e]
  rfl
theorem dats_bxs (bs : List Bx) : dats 1 (bs.map bxD) = true := by
  rw [dats_all]
  intro x hx
  obtain ⟨s, _, rfl⟩ := List.mem_map.mp hx
  exact dat_bx s
theorem rank_eq (st : Sto) (bs bs' : List Bx) : cmpD st .eq (.tup (bs.map bxD)) (.tup (bs'.map bxD)) = some (bxE bs bs') := by
  have h1 : dat 2 (.tup (bs.map bxD)) = true := dats_bxs bs
  have h2 : dat 2 (.tup (bs'.map bxD)) = true := dats_bxs bs'
  obtain ⟨p, e1, d1⟩ := dat_ok h1
  obtain ⟨q, e2, d2⟩ := dat_ok h2
  show eqD st (.tup (bs.map bxD)) (.tup (bs'.map bxD)) = _
  unfold eqD eqP bxE keyB
  simp only [asC, drf, e1, e2]
  rw [shal_of d1 (by decide), shal_of d2 (by decide)]
  rfl
theorem like_ok (n : Nat) (st : Sto) {cs cs' : List Int} {clr any clr' any' : Bool} {ev ev' : Int} {tr tr' : Str} {bx bx' : List Mini.D} (hc : okc cs) (hc' : okc cs') (hb : bds 0 bx = true) (hb' : bds 0 bx' = true) :
    run_ (n + 2) "is_like" [lineD cs clr any ev tr bx, lineD cs' clr' any' ev' tr' bx'] st = .ok (.bl ((cs == cs' && (clr == clr' && any == any')) && (decide (ev = ev') && decide (tr = tr')))) st := by
  refine run_fn0 st T_like (by rw [bds_cons, bd_line 0 hc hb, bds_cons, bd_line 0 hc' hb']; rfl) rfl ?_ rfl
  have e := evC_sp n [] (cls := ["Speech"]) (by rfl) (clr := clr) (any := any) (clr' := clr') (any' := any') hc hc'
  cases h1 : (cs == cs' && (clr == clr' && any == any')) with
  | false =>
    rw [h1] at e
    simp only [evSs, evS.eq_1, evS.eq_2, evS.eq_3, evS.eq_4, evS.eq_5, evS.eq_8, evS.eq_9, evS.eq_10, evS.eq_11, evS.eq_12, evS.eq_13, evS.eq_14, E_forr, E_whl, evE.eq_1, evE.eq_2, evE.eq_3, evE.eq_4, evE.eq_5, evE.eq_6, evE.eq_7, evE.eq_8, evE.eq_9, evE.eq_10, evE.eq_11, evE.eq_12, evE.eq_13, evE.eq_14, evE.eq_15, evE.eq_16, evE.eq_17, evE.eq_18, evE.eq_19, evE.eq_20, evE.eq_21, evE.eq_22, evE.eq_23, evE.eq_24, evE.eq_25, evE.eq_26, evE.eq_27, evE.eq_28, evE.eq_32, evE.eq_33, evE.eq_34, evE_comp, evEs, evG, evGs, evI, List.getElem?_cons_zero, List.getElem?_cons_succ, bind_ok, fl_ok, fb_nx, fb_rt, nox_ok, opt_some, optB_some, blR_bl, asS_tup, asS_lst, asSK_tup, asSK_lst, asL_lst, lenGs, List.length_cons, List.length_nil, Nat.reduceAdd, Nat.reduceLT, Nat.reduceLeDiff, if_true, line, Nat.reducePow, List.set_cons_succ, List.set_cons_zero, retR_false, retR_int, evC_int, evC_bl, evC_str, evC_lst, evC_tup, evC_non, evC_is, evC_isn, cmp_eq_str, cmp_ne_str, cmp_eq_int, cmp_ne_int, cmp_eq_is, cmp_eq_ns, str_eq, String.reduceEq, decide_true, decide_false, Bool.not_true, Bool.not_false, is_non, isn_non, is_tup, isn_tup, is_lst, isn_lst, is_str, isn_str, is_int, isn_int, List.map_cons, List.map_nil, Nat.sub_self, List.replicate, List.append_nil, bind_exc, fl_exc, fb_ex, fb_rt, Bool.and_self, cmp_lt_int, cmp_le_int, cmp_gt_int, cmp_ge_int, bin_add, List.cons_append, List.nil_append, Nat.reduceSub, nc0, nc1, nc2, nc3, nc4, nc5, nc6, nc7, nc8, nc9, Int.reduceEq, Int.reduceLT, Int.reduceLE, Int.reduceNe, Bool.false_eq_true, if_false, ir_is_like, fl_voice, e, Bool.false_and]
  | true =>
    rw [h1] at e
    by_cases h2 : ev = ev'
    · simp only [evSs, evS.eq_1, evS.eq_2, evS.eq_3, evS.eq_4, evS.eq_5, evS.eq_8, evS.eq_9, evS.eq_10, evS.eq_11, evS.eq_12, evS.eq_13, evS.eq_14, E_forr, E_whl, evE.eq_1, evE.eq_2, evE.eq_3, evE.eq_4, evE.eq_5, evE.eq_6, evE.eq_7, evE.eq_8, evE.eq_9, evE.eq_10, evE.eq_11, evE.eq_12, evE.eq_13, evE.eq_14, evE.eq_15, evE.eq_16, evE.eq_17, evE.eq_18, evE.eq_19, evE.eq_20, evE.eq_21, evE.eq_22, evE.eq_23, evE.eq_24, evE.eq_25, evE.eq_26, evE.eq_27, evE.eq_28, evE.eq_32, evE.eq_33, evE.eq_34, evE_comp, evEs, evG, evGs, evI, List.getElem?_cons_zero, List.getElem?_cons_succ, bind_ok, fl_ok, fb_nx, fb_rt, nox_ok, opt_some, optB_some, blR_bl, asS_tup, asS_lst, asSK_tup, asSK_lst, asL_lst, lenGs, List.length_cons, List.length_nil, Nat.reduceAdd, Nat.reduceLT, Nat.reduceLeDiff, if_true, line, Nat.reducePow, List.set_cons_succ, List.set_cons_zero, retR_false, retR_int, evC_int, evC_bl, evC_str, evC_lst, evC_tup, evC_non, evC_is, evC_isn, cmp_eq_str, cmp_ne_str, cmp_eq_int, cmp_ne_int, cmp_eq_is, cmp_eq_ns, str_eq, String.reduceEq, decide_true, decide_false, Bool.not_true, Bool.not_false, is_non, isn_non, is_tup, isn_tup, is_lst, isn_lst, is_str, isn_str, is_int, isn_int, List.map_cons, List.map_nil, Nat.sub_self, List.replicate, List.append_nil, bind_exc, fl_exc, fb_ex, fb_rt, Bool.and_self, cmp_lt_int, cmp_le_int, cmp_gt_int, cmp_ge_int, bin_add, List.cons_append, List.nil_append, Nat.reduceSub, nc0, nc1, nc2, nc3, nc4, nc5, nc6, nc7, nc8, nc9, Int.reduceEq, Int.reduceLT, Int.reduceLE, Int.reduceNe, Bool.false_eq_true, if_false, ir_is_like, fl_voice, fl_repeats, fl_worry, e, h2, Bool.true_and]
    · simp only [evSs, evS.eq_1, evS.eq_2, evS.eq_3, evS.eq_4, evS.eq_5, evS.eq_8, evS.eq_9, evS.eq_10, evS.eq_11, evS.eq_12, evS.eq_13, evS.eq_14, E_forr, E_whl, evE.eq_1, evE.eq_2, evE.eq_3, evE.eq_4, evE.eq_5, evE.eq_6, evE.eq_7, evE.eq_8, evE.eq_9, evE.eq_10, evE.eq_11, evE.eq_12, evE.eq_13, evE.eq_14, evE.eq_15, evE.eq_16, evE.eq_17, evE.eq_18, evE.eq_19, evE.eq_20, evE.eq_21, evE.eq_22, evE.eq_23, evE.eq_24, evE.eq_25, evE.eq_26, evE.eq_27, evE.eq_28, evE.eq_32, evE.eq_33, evE.eq_34, evE_comp, evEs, evG, evGs, evI, List.getElem?_cons_zero, List.getElem?_cons_succ, bind_ok, fl_ok, fb_nx, fb_rt, nox_ok, opt_some, optB_some, blR_bl, asS_tup, asS_lst, asSK_tup, asSK_lst, asL_lst, lenGs, List.length_cons, List.length_nil, Nat.reduceAdd, Nat.reduceLT, Nat.reduceLeDiff, if_true, line, Nat.reducePow, List.set_cons_succ, List.set_cons_zero, retR_false, retR_int, evC_int, evC_bl, evC_str, evC_lst, evC_tup, evC_non, evC_is, evC_isn, cmp_eq_str, cmp_ne_str, cmp_eq_int, cmp_ne_int, cmp_eq_is, cmp_eq_ns, str_eq, String.reduceEq, decide_true, decide_false, Bool.not_true, Bool.not_false, is_non, isn_non, is_tup, isn_tup, is_lst, isn_lst, is_str, isn_str, is_int, isn_int, List.map_cons, List.map_nil, Nat.sub_self, List.replicate, List.append_nil, bind_exc, fl_exc, fb_ex, fb_rt, Bool.and_self, cmp_lt_int, cmp_le_int, cmp_gt_int, cmp_ge_int, bin_add, List.cons_append, List.nil_append, Nat.reduceSub, nc0, nc1, nc2, nc3, nc4, nc5, nc6, nc7, nc8, nc9, Int.reduceEq, Int.reduceLT, Int.reduceLE, Int.reduceNe, Bool.false_eq_true, if_false, ir_is_like, fl_voice, fl_repeats, e, h2, Bool.true_and, Bool.false_and]
def lnE (cs cs' : List Int) (clr any clr' any' : Bool) (ev ev' : Int) (tr tr' : Str) (bs bs' : List Bx) : Bool := bxE bs bs' && ((cs == cs' && (clr == clr' && any == any')) && (decide (ev = ev') && decide (tr = tr')))
theorem ln_eq (n : Nat) (st : Sto) {cs cs' : List Int} {clr any clr' any' : Bool} {ev ev' : Int} {tr tr' : Str} {bs bs' : List Bx} (hc : okc cs) (hc' : okc cs') :
    run_ (n + 3) "Line.__eq__" [lineD cs clr any ev tr (bs.map bxD), lineD cs' clr' any' ev' tr' (bs'.map bxD)] st = .ok (.bl (lnE cs cs' clr any clr' any' ev ev' tr tr' bs bs')) st := by
  have hb := bds_bxs bs 0
  have hb' := bds_bxs bs' 0
  refine run_fn0 st T_lneq (by rw [bds_cons, bd_line 0 hc hb, bds_cons, bd_line 0 hc' hb']; rfl) rfl ?_ rfl
  have k0 : kdOf [] (lineD cs' clr' any' ev' tr' (bs'.map bxD)) = some (.ins "Line") := rfl
  have k1 : (List.any [Ty.own "Line"] fun t => isK L.sub t (.ins "Line")) = true := by decide +kernel
  have e1 := rank_eq [] bs bs'
  have e2 := like_ok n [] (clr := clr) (any := any) (clr' := clr') (any' := any') (ev := ev) (ev' := ev') (tr := tr) (tr' := tr') hc hc' hb hb'
  unfold lnE
  cases h1 : bxE bs bs' with
  | false =>
    rw [h1] at e1
    simp only [evSs, evS.eq_1, evS.eq_2, evS.eq_3, evS.eq_4, evS.eq_5, evS.eq_8, evS.eq_9, evS.eq_10, evS.eq_11, evS.eq_12, evS.eq_13, evS.eq_14, E_forr, E_whl, evE.eq_1, evE.eq_2, evE.eq_3, evE.eq_4, evE.eq_5, evE.eq_6, evE.eq_7, evE.eq_8, evE.eq_9, evE.eq_10, evE.eq_11, evE.eq_12, evE.eq_13, evE.eq_14, evE.eq_15, evE.eq_16, evE.eq_17, evE.eq_18, evE.eq_19, evE.eq_20, evE.eq_21, evE.eq_22, evE.eq_23, evE.eq_24, evE.eq_25, evE.eq_26, evE.eq_27, evE.eq_28, evE.eq_32, evE.eq_33, evE.eq_34, evE_comp, evEs, evG, evGs, evI, List.getElem?_cons_zero, List.getElem?_cons_succ, bind_ok, fl_ok, fb_nx, fb_rt, nox_ok, opt_some, optB_some, blR_bl, asS_tup, asS_lst, asSK_tup, asSK_lst, asL_lst, lenGs, List.length_cons, List.length_nil, Nat.reduceAdd, Nat.reduceLT, Nat.reduceLeDiff, if_true, line, Nat.reducePow, List.set_cons_succ, List.set_cons_zero, retR_false, retR_int, evC_int, evC_bl, evC_str, evC_lst, evC_tup, evC_non, evC_is, evC_isn, cmp_eq_str, cmp_ne_str, cmp_eq_int, cmp_ne_int, cmp_eq_is, cmp_eq_ns, str_eq, String.reduceEq, decide_true, decide_false, Bool.not_true, Bool.not_false, is_non, isn_non, is_tup, isn_tup, is_lst, isn_lst, is_str, isn_str, is_int, isn_int, List.map_cons, List.map_nil, Nat.sub_self, List.replicate, List.append_nil, bind_exc, fl_exc, fb_ex, fb_rt, Bool.and_self, cmp_lt_int, cmp_le_int, cmp_gt_int, cmp_ge_int, bin_add, List.cons_append, List.nil_append, Nat.reduceSub, nc0, nc1, nc2, nc3, nc4, nc5, nc6, nc7, nc8, nc9, Int.reduceEq, Int.reduceLT, Int.reduceLE, Int.reduceNe, Bool.false_eq_true, if_false, ir_Line___eq__, k0, k1, fl_rank, e1, Bool.false_and]
  | true =>
    rw [h1] at e1
    simp only [evSs, evS.eq_1, evS.eq_2, evS.eq_3, evS.eq_4, evS.eq_5, evS.eq_8, evS.eq_9, evS.eq_10, evS.eq_11, evS.eq_12, evS.eq_13, evS.eq_14, E_forr, E_whl, evE.eq_1, evE.eq_2, evE.eq_3, evE.eq_4, evE.eq_5, evE.eq_6, evE.eq_7, evE.eq_8, evE.eq_9, evE.eq_10, evE.eq_11, evE.eq_12, evE.eq_13, evE.eq_14, evE.eq_15, evE.eq_16, evE.eq_17, evE.eq_18, evE.eq_19, evE.eq_20, evE.eq_21, evE.eq_22, evE.eq_23, evE.eq_24, evE.eq_25, evE.eq_26, evE.eq_27, evE.eq_28, evE.eq_32, evE.eq_33, evE.eq_34, evE_comp, evEs, evG, evGs, evI, List.getElem?_cons_zero, List.getElem?_cons_succ, bind_ok, fl_ok, fb_nx, fb_rt, nox_ok, opt_some, optB_some, blR_bl, asS_tup, asS_lst, asSK_tup, asSK_lst, asL_lst, lenGs, List.length_cons, List.length_nil, Nat.reduceAdd, Nat.reduceLT, Nat.reduceLeDiff, if_true, line, Nat.reducePow, List.set_cons_succ, List.set_cons_zero, retR_false, retR_int, evC_int, evC_bl, evC_str, evC_lst, evC_tup, evC_non, evC_is, evC_isn, cmp_eq_str, cmp_ne_str, cmp_eq_int, cmp_ne_int, cmp_eq_is, cmp_eq_ns, str_eq, String.reduceEq, decide_true, decide_false, Bool.not_true, Bool.not_false, is_non, isn_non, is_tup, isn_tup, is_lst, isn_lst, is_str, isn_str, is_int, isn_int, List.map_cons, List.map_nil, Nat.sub_self, List.replicate, List.append_nil, bind_exc, fl_exc, fb_ex, fb_rt, Bool.and_self, cmp_lt_int, cmp_le_int, cmp_gt_int, cmp_ge_int, bin_add, List.cons_append, List.nil_append, Nat.reduceSub, nc0, nc1, nc2, nc3, nc4, nc5, nc6, nc7, nc8, nc9, Int.reduceEq, Int.reduceLT, Int.reduceLE, Int.reduceNe, Bool.false_eq_true, if_false, ir_Line___eq__, k0, k1, fl_rank, e1, e2, Bool.true_and]
theorem evC_ln (n : Nat) (st : Sto) {cls : List Str} (hcl : cls.contains "Line" = true) {cs cs' : List Int} {clr any clr' any' : Bool} {ev ev' : Int} {tr tr' : Str} {bs bs' : List Bx} (hc : okc cs) (hc' : okc cs') : evC (run_ (n + 3)) cls .eq (lineD cs clr any ev tr (bs.map bxD)) (lineD cs' clr' any' ev' tr' (bs'.map bxD)) st = .ok (.bl (lnE cs cs' clr any clr' any' ev ev' tr tr' bs bs')) st := by
  have e := ln_eq n st (clr := clr) (any := any) (clr' := clr') (any' := any') (ev := ev) (ev' := ev') (tr := tr) (tr' := tr') (bs := bs) (bs' := bs') hc hc'
  show (if (cls.contains "Line" && (kdOf st (lineD cs' clr' any' ev' tr' (bs'.map bxD))).isSome) = true then (run_ (n + 3) "Line.__eq__" [lineD cs clr any ev tr (bs.map bxD), lineD cs' clr' any' ev' tr' (bs'.map bxD)] st).nox.bind _ else _) = _
  rw [if_pos (by rw [hcl]; rfl), e]
  rfl
theorem evN_ln (n : Nat) (st : Sto) {cls : List Str} (hcl : cls.contains "Line" = true) {cs cs' : List Int} {clr any clr' any' : Bool} {ev ev' : Int} {tr tr' : Str} {bs bs' : List Bx} (hc : okc cs) (hc' : okc cs') : evC (run_ (n + 3)) cls .ne (lineD cs clr any ev tr (bs.map bxD)) (lineD cs' clr' any' ev' tr' (bs'.map bxD)) st = .ok (.bl (!lnE cs cs' clr any clr' any' ev ev' tr tr' bs bs')) st := by
  have e := ln_eq n st (clr := clr) (any := any) (clr' := clr') (any' := any') (ev := ev) (ev' := ev') (tr := tr) (tr' := tr') (bs := bs) (bs' := bs') hc hc'
  show (if (cls.contains "Line" && (kdOf st (lineD cs' clr' any' ev' tr' (bs'.map bxD))).isSome) = true then (run_ (n + 3) "Line.__eq__" [lineD cs clr any ev tr (bs.map bxD), lineD cs' clr' any' ev' tr' (bs'.map bxD)] st).nox.bind _ else _) = _
  rw [if_pos (by rw [hcl]; rfl), e]
  rfl
theorem bxE_refl (bs : List Bx) : bxE bs bs = true := by
  have h1 : dat 2 (.tup (bs.map bxD)) = true := dats_bxs bs
  obtain ⟨p, e1, d1⟩ := dat_ok h1
  unfold bxE keyB
  simp only [e1]
  exact eqv_refl e1
theorem lnE_refl (cs : List Int) (clr any : Bool) (ev : Int) (tr : Str) (bs : List Bx) : lnE cs cs clr any clr any ev ev tr tr bs bs = true := by
  unfold lnE
  rw [bxE_refl]
  simp
/-! the line's properties -/
theorem T_lsp : L.T "Line.speech" = some (.fn (some "Line") 1 1 false ir_Line_speech) := by rfl
theorem T_lev : L.T "Line.every" = some (.fn (some "Line") 1 1 false ir_Line_every) := by rfl
theorem T_ltr : L.T "Line.trouble" = some (.fn (some "Line") 1 1 false ir_Line_trouble) := by rfl
theorem T_lbx : L.T "Line.boxes" = some (.fn (some "Line") 1 1 false ir_Line_boxes) := by rfl
section
variable {cs : List Int} {clr any : Bool} {ev : Int} {tr : Str} {bx : List Mini.D}
theorem p_speech (n : Nat) (st : Sto) (hc : okc cs) (hb : bds 0 bx = true) : run_ (n + 1) "Line.speech" [lineD cs clr any ev tr bx] st = .ok (spD cs clr any) st :=
  run_own st T_lsp (by rw [bds_cons, bd_line 0 hc hb]; rfl) rfl rfl rfl (bd_sp clr any 0 hc)
theorem p_every (n : Nat) (st : Sto) (hc : okc cs) (hb : bds 0 bx = true) : run_ (n + 1) "Line.every" [lineD cs clr any ev tr bx] st = .ok (.int ev) st :=
  run_own st T_lev (by rw [bds_cons, bd_line 0 hc hb]; rfl) rfl rfl rfl rfl
theorem p_trouble (n : Nat) (st : Sto) (hc : okc cs) (hb : bds 0 bx = true) : run_ (n + 1) "Line.trouble" [lineD cs clr any ev tr bx] st = .ok (.str tr) st :=
  run_own st T_ltr (by rw [bds_cons, bd_line 0 hc hb]; rfl) rfl rfl rfl rfl
theorem p_boxes (n : Nat) (st : Sto) (hc : okc cs) (hb : bds 0 bx = true) : run_ (n + 1) "Line.boxes" [lineD cs clr any ev tr bx] st = .ok (.tup bx) st :=
  run_own st T_lbx (by rw [bds_cons, bd_line 0 hc hb]; rfl) rfl rfl rfl (by rw [bd_tup, hb])
end
/-! the law's own steps -/
theorem T_lsteps : L.T "_law_steps" = some (.fn none 1 6 false ir__law_steps) := by rfl
theorem bds_steps (m k : Nat) (tr : Str) : bds m (stepsD k tr) = true := by
  have hk : ∀ w : Int, bds m (saysD w k) = true := fun w => by
    unfold saysD
    rw [bds_all]
    intro x hx
    obtain ⟨y, hy, rfl⟩ := List.mem_map.mp hx
    have : bd m y = true := by
      rcases List.mem_append.mp hy with hy | hy
      · exact dat_bd m (dats_all.mp (dats_kinds k) y hy)
      · rw [List.mem_singleton.mp hy]; rfl
    show bds m [.str "say", .int w, y] = true
    rw [bds_cons, bds_cons, bds_cons, this]; rfl
  unfold stepsD
  split
  · rw [bds_append, bds_append, bds_append, hk, hk]; rfl
  · split <;> (rw [bds_append, bds_append, hk]; rfl)
theorem lsteps_ok (n : Nat) (st : Sto) {cs : List Int} {clr any : Bool} {ev : Int} {tr : Str} {bx : List Mini.D} (hc : okc cs) (ht : tr ∈ TRS) (hb : bds 0 bx = true) : run_ (n + 2) "_law_steps" [tD cs clr any ev tr bx] st = .ok (.lst (stepsD cs.length tr)) st := by
  refine run_fn0 st T_lsteps (by rw [bds_cons, bd_t hb]; rfl) rfl ?_ (by rw [bd_lst, bds_steps])
  have e1 := lkinds_ok n [] (clr := clr) (any := any) (ev := ev) (tr := tr) hc hb
  have w1 : evE (run_ (n + 1)) L.sub (.slc false (.lst false (.cons (.cst (.int (0))) (.cons (.cst (.int (1))) .nil))) .noe (.bin false .add (.cst (.int (1))) (.bi false .int (.cons (.cmp ["Speech"] .in_ (.idx (.var 0) (.cst (.str "trouble"))) (.lst false (.cons (.cst (.str "join")) (.cons (.cst (.str "fold")) .nil)))) .nil)))) [some (tD cs clr any ev tr bx), none, none, none, none, none] [] = .ok (.lst (whos tr)) [] := by
    rcases trs_cases ht with rfl | rfl | rfl | rfl | rfl <;> kernel_rfl
  have w2 : evE (run_ (n + 1)) L.sub (.bin false .add (.call "_law_kinds" (.cons (.var 0) .nil)) (.lst false (.cons (.cst (.str "talk")) .nil))) [some (tD cs clr any ev tr bx), none, none, none, none, none] [] = .ok (.lst (kinds cs.length ++ [.str "talk"])) [] := by
    have a := add_lst [] (kinds cs.length) [Mini.D.str "talk"] (by have := kinds_le cs.length; rw [List.length_append] at this; exact this)
    simp only [evSs, evS.eq_1, evS.eq_2, evS.eq_3, evS.eq_4, evS.eq_5, evS.eq_8, evS.eq_9, evS.eq_10, evS.eq_11, evS.eq_12, evS.eq_13, evS.eq_14, E_forr, E_whl, evE.eq_1, evE.eq_2, evE.eq_3, evE.eq_4, evE.eq_5, evE.eq_6, evE.eq_7, evE.eq_8, evE.eq_9, evE.eq_10, evE.eq_11, evE.eq_12, evE.eq_13, evE.eq_14, evE.eq_15, evE.eq_16, evE.eq_17, evE.eq_18, evE.eq_19, evE.eq_20, evE.eq_21, evE.eq_22, evE.eq_23, evE.eq_24, evE.eq_25, evE.eq_26, evE.eq_27, evE.eq_28, evE.eq_32, evE.eq_33, evE.eq_34, evE_comp, evEs, evG, evGs, evI, List.getElem?_cons_zero, List.getElem?_cons_succ, bind_ok, fl_ok, fb_nx, fb_rt, nox_ok, opt_some, optB_some, blR_bl, asS_tup, asS_lst, asSK_tup, asSK_lst, asL_lst, lenGs, List.length_cons, List.length_nil, Nat.reduceAdd, Nat.reduceLT, Nat.reduceLeDiff, if_true, line, Nat.reducePow, List.set_cons_succ, List.set_cons_zero, retR_false, retR_int, evC_int, evC_bl, evC_str, evC_lst, evC_tup, evC_non, evC_is, evC_isn, cmp_eq_str, cmp_ne_str, cmp_eq_int, cmp_ne_int, cmp_eq_is, cmp_eq_ns, str_eq, String.reduceEq, decide_true, decide_false, Bool.not_true, Bool.not_false, is_non, isn_non, is_tup, isn_tup, is_lst, isn_lst, is_str, isn_str, is_int, isn_int, List.map_cons, List.map_nil, Nat.sub_self, List.replicate, List.append_nil, bind_exc, fl_exc, fb_ex, fb_rt, Bool.and_self, cmp_lt_int, cmp_le_int, cmp_gt_int, cmp_ge_int, bin_add, List.cons_append, List.nil_append, Nat.reduceSub, nc0, nc1, nc2, nc3, nc4, nc5, nc6, nc7, nc8, nc9, Int.reduceEq, Int.reduceLT, Int.reduceLE, Int.reduceNe, Bool.false_eq_true, if_false, e1, a]
  show evSs (run_ (n + 1)) L.sub L.efs L.wf ir__law_steps [some (tD cs clr any ev tr bx), none, none, none, none, none] [] = .rt (.lst (stepsD cs.length tr)) []
  unfold ir__law_steps
  rw [evSs_nx (s1 := []) (e1 := [some (tD cs clr any ev tr bx), some (.lst (whos tr)), some (.lst (kinds cs.length ++ [.str "talk"])), none, none, none])]
  · clear e1 w1 w2 hb
    obtain ⟨c1, c3, _⟩ := hc
    match cs, c1, c3 with
    | [a], _, _ => rcases trs_cases ht with rfl | rfl | rfl | rfl | rfl <;> kernel_rfl
    | [a, b], _, _ => rcases trs_cases ht with rfl | rfl | rfl | rfl | rfl <;> kernel_rfl
    | [a, b, c], _, _ => rcases trs_cases ht with rfl | rfl | rfl | rfl | rfl <;> kernel_rfl
  · refine evS_asg (d := .tup [.lst (whos tr), .lst (kinds cs.length ++ [.str "talk"])]) (s1 := []) ?_ rfl
    unfold evE
    unfold evEs
    rw [w1, bind_ok]
    unfold evEs
    rw [w2]
    rfl
/-! closed stores -/
theorem clsd_app {a : Sto} {x : SO} (h : a.all (bdS a.length) = true) (hx : bdS (a.length + 1) x = true) : (a ++ [x]).all (bdS (a ++ [x]).length) = true := by
  rw [List.all_eq_true] at h ⊢
  intro y hy
  rw [List.length_append]
  rcases List.mem_append.mp hy with hy | hy
  · have := h y hy
    cases y with
    | lst xs => exact bds_mono (by simp) this
    | dct ks xs =>
      simp only [bdS, Bool.and_eq_true] at this ⊢
      exact ⟨bds_mono (by simp) this.1, bds_mono (by simp) this.2⟩
    | ins C fs xs => exact bds_mono (by simp) this
  · rw [List.mem_singleton.mp hy]; exact hx
theorem clsd_set {a : Sto} {x : SO} {j : Nat} (h : a.all (bdS a.length) = true) (hx : bdS a.length x = true) : (a.set j x).all (bdS (a.set j x).length) = true := by
  rw [List.all_eq_true] at h ⊢
  intro y hy
  rw [List.length_set]
  rcases List.mem_or_eq_of_mem_set hy with hy | rfl
  · exact h y hy
  · exact hx
/-! steps, as they are asked; lines made and told -/
theorem T_steps : L.T "steps_of" = some (.fn none 1 6 true ir_steps_of) := by rfl
theorem T_all : L.T "all_steps" = some (.fn none 1 1 true ir_all_steps) := by rfl
theorem fin_keep {n : Nat} {d : Mini.D} {s : Sto} (h : n ≤ s.length) : fin true n d s = .ok d s := by
  unfold fin
  rw [Nat.ble_eq_true_of_le h]
  rfl
theorem all_ok (n : Nat) (st : Sto) {cs : List Int} {clr any : Bool} {ev : Int} {tr : Str} {bx : List Mini.D} (hc : okc cs) (ht : tr ∈ TRS) (hb : bds 0 bx = true) : run_ (n + 3) "all_steps" [lineD cs clr any ev tr bx] st = .ok (.ref st.length) (st ++ [.lst (stepsD cs.length tr)]) := by
  have e : run_ (n + 2) "steps_of" [lineD cs clr any ev tr bx] st = .ok (.ref st.length) (st ++ [.lst (stepsD cs.length tr)]) := by
    refine run_pg T_steps (.inr rfl) rfl ?_
    show finB true st.length (evSs (run_ (n + 1)) L.sub L.efs L.wf ir_steps_of [some (lineD cs clr any ev tr bx), none, none, none, none, none] st) = _
    rw [steps_body n st hc ht hb]
    exact fin_keep (by simp)
  refine run_pg T_all (.inr rfl) rfl ?_
  have hb : evSs (run_ (n + 2)) L.sub L.efs L.wf ir_all_steps [some (lineD cs clr any ev tr bx)] st = .rt (.ref st.length) (st ++ [.lst (stepsD cs.length tr)]) := by
    simp only [evSs, evS.eq_1, evS.eq_2, evS.eq_3, evS.eq_4, evS.eq_5, evS.eq_8, evS.eq_9, evS.eq_10, evS.eq_11, evS.eq_12, evS.eq_13, evS.eq_14, E_forr, E_whl, evE.eq_1, evE.eq_2, evE.eq_3, evE.eq_4, evE.eq_5, evE.eq_6, evE.eq_7, evE.eq_8, evE.eq_9, evE.eq_10, evE.eq_11, evE.eq_12, evE.eq_13, evE.eq_14, evE.eq_15, evE.eq_16, evE.eq_17, evE.eq_18, evE.eq_19, evE.eq_20, evE.eq_21, evE.eq_22, evE.eq_23, evE.eq_24, evE.eq_25, evE.eq_26, evE.eq_27, evE.eq_28, evE.eq_32, evE.eq_33, evE.eq_34, evE_comp, evEs, evG, evGs, evI, List.getElem?_cons_zero, List.getElem?_cons_succ, bind_ok, fl_ok, fb_nx, fb_rt, nox_ok, opt_some, optB_some, blR_bl, asS_tup, asS_lst, asSK_tup, asSK_lst, asL_lst, lenGs, List.length_cons, List.length_nil, Nat.reduceAdd, Nat.reduceLT, Nat.reduceLeDiff, if_true, line, Nat.reducePow, List.set_cons_succ, List.set_cons_zero, retR_false, retR_int, evC_int, evC_bl, evC_str, evC_lst, evC_tup, evC_non, evC_is, evC_isn, cmp_eq_str, cmp_ne_str, cmp_eq_int, cmp_ne_int, cmp_eq_is, cmp_eq_ns, str_eq, String.reduceEq, decide_true, decide_false, Bool.not_true, Bool.not_false, is_non, isn_non, is_tup, isn_tup, is_lst, isn_lst, is_str, isn_str, is_int, isn_int, List.map_cons, List.map_nil, Nat.sub_self, List.replicate, List.append_nil, bind_exc, fl_exc, fb_ex, fb_rt, Bool.and_self, cmp_lt_int, cmp_le_int, cmp_gt_int, cmp_ge_int, bin_add, List.cons_append, List.nil_append, Nat.reduceSub, nc0, nc1, nc2, nc3, nc4, nc5, nc6, nc7, nc8, nc9, Int.reduceEq, Int.reduceLT, Int.reduceLE, Int.reduceNe, Bool.false_eq_true, if_false, ir_all_steps, e]
  show finB true st.length (evSs (run_ (n + 2)) L.sub L.efs L.wf ir_all_steps [some (lineD cs clr any ev tr bx)] st) = _
  rw [hb]
  exact fin_keep (by simp)
theorem T_lmade : L.T "_law_made" = some (.fn none 1 1 false ir__law_made) := by rfl
theorem T_ltold : L.T "_law_told" = some (.fn none 1 3 false ir__law_told) := by rfl
theorem lmade_ok (n : Nat) (st : Sto) {cs : List Int} {clr any : Bool} {ev : Int} {tr : Str} (hc : okc cs) (h0 : 0 ≤ ev) (h1 : ev < 4) (ht : tr ∈ TRS) (bs : List Bx) (hbs : ∀ b ∈ bs, bxOk cs b) (hl : bs.length ≤ 3) :
    run_ (n + 7) "_law_made" [tD cs clr any ev tr (bs.map bxD)] st = .ok (lineD cs clr any ev tr (bs.map bxD)) st := by
  have hb := bds_bxs bs 0
  refine run_fn0 st T_lmade (by rw [bds_cons, bd_t hb]; rfl) rfl ?_ (bd_line 0 hc hb)
  have e1 := lspeech_ok (n + 1) [] (clr := clr) (any := any) (ev := ev) (tr := tr) hc hb
  have e2 := line_ok n [] (clr := clr) (any := any) hc h0 h1 ht bs hbs hl
  simp only [evSs, evS.eq_1, evS.eq_2, evS.eq_3, evS.eq_4, evS.eq_5, evS.eq_8, evS.eq_9, evS.eq_10, evS.eq_11, evS.eq_12, evS.eq_13, evS.eq_14, E_forr, E_whl, evE.eq_1, evE.eq_2, evE.eq_3, evE.eq_4, evE.eq_5, evE.eq_6, evE.eq_7, evE.eq_8, evE.eq_9, evE.eq_10, evE.eq_11, evE.eq_12, evE.eq_13, evE.eq_14, evE.eq_15, evE.eq_16, evE.eq_17, evE.eq_18, evE.eq_19, evE.eq_20, evE.eq_21, evE.eq_22, evE.eq_23, evE.eq_24, evE.eq_25, evE.eq_26, evE.eq_27, evE.eq_28, evE.eq_32, evE.eq_33, evE.eq_34, evE_comp, evEs, evG, evGs, evI, List.getElem?_cons_zero, List.getElem?_cons_succ, bind_ok, fl_ok, fb_nx, fb_rt, nox_ok, opt_some, optB_some, blR_bl, asS_tup, asS_lst, asSK_tup, asSK_lst, asL_lst, lenGs, List.length_cons, List.length_nil, Nat.reduceAdd, Nat.reduceLT, Nat.reduceLeDiff, if_true, line, Nat.reducePow, List.set_cons_succ, List.set_cons_zero, retR_false, retR_int, evC_int, evC_bl, evC_str, evC_lst, evC_tup, evC_non, evC_is, evC_isn, cmp_eq_str, cmp_ne_str, cmp_eq_int, cmp_ne_int, cmp_eq_is, cmp_eq_ns, str_eq, String.reduceEq, decide_true, decide_false, Bool.not_true, Bool.not_false, is_non, isn_non, is_tup, isn_tup, is_lst, isn_lst, is_str, isn_str, is_int, isn_int, List.map_cons, List.map_nil, Nat.sub_self, List.replicate, List.append_nil, bind_exc, fl_exc, fb_ex, fb_rt, Bool.and_self, cmp_lt_int, cmp_le_int, cmp_gt_int, cmp_ge_int, bin_add, List.cons_append, List.nil_append, Nat.reduceSub, nc0, nc1, nc2, nc3, nc4, nc5, nc6, nc7, nc8, nc9, Int.reduceEq, Int.reduceLT, Int.reduceLE, Int.reduceNe, Bool.false_eq_true, if_false, ir__law_made, t_every, t_trouble, t_boxes, e1, e2]
theorem ltold_ok (n : Nat) (st : Sto) {cs : List Int} {clr any : Bool} {ev : Int} {tr : Str} (hc : okc cs) (h0 : 0 ≤ ev) (h1 : ev < 4) (ht : tr ∈ TRS) (bs : List Bx) (hbs : ∀ b ∈ bs, bxOk cs b) (hl : bs.length ≤ 3) :
    run_ (n + 8) "_law_told" [tD cs clr any ev tr (bs.map bxD)] st = .ok (lineD cs clr any ev tr (bs.map bxD)) st := by
  have hb := bds_bxs bs 0
  refine run_fn0 st T_ltold (by rw [bds_cons, bd_t hb]; rfl) rfl ?_ (bd_line 0 hc hb)
  have e1 := lmade_ok n [] (clr := clr) (any := any) hc h0 h1 ht bs hbs hl
  simp only [evSs, evS.eq_1, evS.eq_2, evS.eq_3, evS.eq_4, evS.eq_5, evS.eq_8, evS.eq_9, evS.eq_10, evS.eq_11, evS.eq_12, evS.eq_13, evS.eq_14, E_forr, E_whl, evE.eq_1, evE.eq_2, evE.eq_3, evE.eq_4, evE.eq_5, evE.eq_6, evE.eq_7, evE.eq_8, evE.eq_9, evE.eq_10, evE.eq_11, evE.eq_12, evE.eq_13, evE.eq_14, evE.eq_15, evE.eq_16, evE.eq_17, evE.eq_18, evE.eq_19, evE.eq_20, evE.eq_21, evE.eq_22, evE.eq_23, evE.eq_24, evE.eq_25, evE.eq_26, evE.eq_27, evE.eq_28, evE.eq_32, evE.eq_33, evE.eq_34, evE_comp, evEs, evG, evGs, evI, List.getElem?_cons_zero, List.getElem?_cons_succ, bind_ok, fl_ok, fb_nx, fb_rt, nox_ok, opt_some, optB_some, blR_bl, asS_tup, asS_lst, asSK_tup, asSK_lst, asL_lst, lenGs, List.length_cons, List.length_nil, Nat.reduceAdd, Nat.reduceLT, Nat.reduceLeDiff, if_true, line, Nat.reducePow, List.set_cons_succ, List.set_cons_zero, retR_false, retR_int, evC_int, evC_bl, evC_str, evC_lst, evC_tup, evC_non, evC_is, evC_isn, cmp_eq_str, cmp_ne_str, cmp_eq_int, cmp_ne_int, cmp_eq_is, cmp_eq_ns, str_eq, String.reduceEq, decide_true, decide_false, Bool.not_true, Bool.not_false, is_non, isn_non, is_tup, isn_tup, is_lst, isn_lst, is_str, isn_str, is_int, isn_int, List.map_cons, List.map_nil, Nat.sub_self, List.replicate, List.append_nil, bind_exc, fl_exc, fb_ex, fb_rt, Bool.and_self, cmp_lt_int, cmp_le_int, cmp_gt_int, cmp_ge_int, bin_add, List.cons_append, List.nil_append, Nat.reduceSub, nc0, nc1, nc2, nc3, nc4, nc5, nc6, nc7, nc8, nc9, Int.reduceEq, Int.reduceLT, Int.reduceLE, Int.reduceNe, Bool.false_eq_true, if_false, ir__law_told, e1]
/-! a copy that is changed -/
def uD (cs : List Int) (clr any : Bool) (e t b : Mini.D) : Mini.D := .dct tKeys [.tup (cs.map .int), .str (tS clr), .str (eS any), e, t, b]
def uSO (cs : List Int) (clr any : Bool) (e t b : Mini.D) : SO := .dct tKeys [.tup (cs.map .int), .str (tS clr), .str (eS any), e, t, b]
def UAt (k : Nat) (cs : List Int) (clr any : Bool) (e t b : Mini.D) (st : Sto) : Prop := st[k]? = some (uSO cs clr any e t b)
section
variable {k : Nat} {cs : List Int} {clr any : Bool} {e t b : Mini.D} {st : Sto}
theorem UAt.idx (h : UAt k cs clr any e t b st) (x : Str) : idxD st (.ref k) (.str x) = idxD [] (uD cs clr any e t b) (.str x) := by
  unfold UAt at h
  simp only [idxD, asS, asL, asC, h, uSO, uD]
theorem UAt.counts (h : UAt k cs clr any e t b st) : idxD st (.ref k) (.str "counts") = some (.tup (cs.map .int)) := h.idx _
theorem UAt.talk (h : UAt k cs clr any e t b st) : idxD st (.ref k) (.str "talk") = some (.str (tS clr)) := h.idx _
theorem UAt.end_ (h : UAt k cs clr any e t b st) : idxD st (.ref k) (.str "end") = some (.str (eS any)) := h.idx _
theorem UAt.every (h : UAt k cs clr any e t b st) : idxD st (.ref k) (.str "every") = some e := h.idx _
theorem UAt.trouble (h : UAt k cs clr any e t b st) : idxD st (.ref k) (.str "trouble") = some t := h.idx _
theorem UAt.boxes (h : UAt k cs clr any e t b st) : idxD st (.ref k) (.str "boxes") = some b := h.idx _
theorem UAt.lt (h : UAt k cs clr any e t b st) : k < st.length := (List.getElem?_eq_some_iff.mp h).1
theorem UAt.adv {j : Nat} {ns : List Int} {st' : Sto} (h : UAt k cs clr any e t b st) (hk : k ≠ j) (a : Adv j ns st st') : UAt k cs clr any e t b st' := by
  unfold UAt at h ⊢
  rw [a.get hk]; exact h
theorem UAt.set (h : UAt k cs clr any e t b st) (e' t' b' : Mini.D) : UAt k cs clr any e' t' b' (st.set k (uSO cs clr any e' t' b')) := List.getElem?_set_self h.lt
theorem UAt.sE (h : UAt k cs clr any e t b st) (v : Mini.D) (env : Mini.Env) : setIR (.ref k) (.str "every") v st env = .ok env (st.set k (uSO cs clr any v t b)) := by
  unfold UAt at h
  unfold setIR
  simp only [h, uSO]
  rfl
theorem UAt.sT (h : UAt k cs clr any e t b st) (v : Mini.D) (env : Mini.Env) : setIR (.ref k) (.str "trouble") v st env = .ok env (st.set k (uSO cs clr any e v b)) := by
  unfold UAt at h
  unfold setIR
  simp only [h, uSO]
  rfl
theorem UAt.sB (h : UAt k cs clr any e t b st) (v : Mini.D) (env : Mini.Env) : setIR (.ref k) (.str "boxes") v st env = .ok env (st.set k (uSO cs clr any e t v)) := by
  unfold UAt at h
  unfold setIR
  simp only [h, uSO]
  rfl
theorem bdS_u (m : Nat) (he : bd m e = true) (ht : bd m t = true) (hb : bd m b = true) : bdS m (uSO cs clr any e t b) = true := by
  show (true && bds m _) = true
  rw [bds_cons, bd_tup, bds_ints, bds_cons, bds_cons, bds_cons, bds_cons, bds_cons, he, ht, hb]; rfl
theorem lspeech_u (n : Nat) (hc : okc cs) (h : UAt k cs clr any e t b st) : run_ (n + 5) "_law_speech" [.ref k] st = .ok (spD cs clr any) st := by
  refine run_pl T_lspeech (.inl rfl) rfl ?_ rfl
  simp only [evSs, evS.eq_1, evS.eq_2, evS.eq_3, evS.eq_4, evS.eq_5, evS.eq_8, evS.eq_9, evS.eq_10, evS.eq_11, evS.eq_12, evS.eq_13, evS.eq_14, E_forr, E_whl, evE.eq_1, evE.eq_2, evE.eq_3, evE.eq_4, evE.eq_5, evE.eq_6, evE.eq_7, evE.eq_8, evE.eq_9, evE.eq_10, evE.eq_11, evE.eq_12, evE.eq_13, evE.eq_14, evE.eq_15, evE.eq_16, evE.eq_17, evE.eq_18, evE.eq_19, evE.eq_20, evE.eq_21, evE.eq_22, evE.eq_23, evE.eq_24, evE.eq_25, evE.eq_26, evE.eq_27, evE.eq_28, evE.eq_32, evE.eq_33, evE.eq_34, evE_comp, evEs, evG, evGs, evI, List.getElem?_cons_zero, List.getElem?_cons_succ, bind_ok, fl_ok, fb_nx, fb_rt, nox_ok, opt_some, optB_some, blR_bl, asS_tup, asS_lst, asSK_tup, asSK_lst, asL_lst, lenGs, List.length_cons, List.length_nil, Nat.reduceAdd, Nat.reduceLT, Nat.reduceLeDiff, if_true, line, Nat.reducePow, List.set_cons_succ, List.set_cons_zero, retR_false, retR_int, evC_int, evC_bl, evC_str, evC_lst, evC_tup, evC_non, evC_is, evC_isn, cmp_eq_str, cmp_ne_str, cmp_eq_int, cmp_ne_int, cmp_eq_is, cmp_eq_ns, str_eq, String.reduceEq, decide_true, decide_false, Bool.not_true, Bool.not_false, is_non, isn_non, is_tup, isn_tup, is_lst, isn_lst, is_str, isn_str, is_int, isn_int, List.map_cons, List.map_nil, Nat.sub_self, List.replicate, List.append_nil, bind_exc, fl_exc, fb_ex, fb_rt, Bool.and_self, cmp_lt_int, cmp_le_int, cmp_gt_int, cmp_ge_int, bin_add, List.cons_append, List.nil_append, Nat.reduceSub, nc0, nc1, nc2, nc3, nc4, nc5, nc6, nc7, nc8, nc9, Int.reduceEq, Int.reduceLT, Int.reduceLE, Int.reduceNe, Bool.false_eq_true, if_false, ir__law_speech, h.counts, h.talk, h.end_, speech_ok n _ hc]
theorem lmade_u (n : Nat) {d : Mini.D} (hc : okc cs) (h : UAt k cs clr any e t b st) (hl : run_ (n + 6) "Line" [spD cs clr any, e, t, b] st = .ok d st) : run_ (n + 7) "_law_made" [.ref k] st = .ok d st := by
  refine run_pl T_lmade (.inl rfl) rfl ?_ rfl
  have e1 := lspeech_u (n + 1) hc h
  simp only [evSs, evS.eq_1, evS.eq_2, evS.eq_3, evS.eq_4, evS.eq_5, evS.eq_8, evS.eq_9, evS.eq_10, evS.eq_11, evS.eq_12, evS.eq_13, evS.eq_14, E_forr, E_whl, evE.eq_1, evE.eq_2, evE.eq_3, evE.eq_4, evE.eq_5, evE.eq_6, evE.eq_7, evE.eq_8, evE.eq_9, evE.eq_10, evE.eq_11, evE.eq_12, evE.eq_13, evE.eq_14, evE.eq_15, evE.eq_16, evE.eq_17, evE.eq_18, evE.eq_19, evE.eq_20, evE.eq_21, evE.eq_22, evE.eq_23, evE.eq_24, evE.eq_25, evE.eq_26, evE.eq_27, evE.eq_28, evE.eq_32, evE.eq_33, evE.eq_34, evE_comp, evEs, evG, evGs, evI, List.getElem?_cons_zero, List.getElem?_cons_succ, bind_ok, fl_ok, fb_nx, fb_rt, nox_ok, opt_some, optB_some, blR_bl, asS_tup, asS_lst, asSK_tup, asSK_lst, asL_lst, lenGs, List.length_cons, List.length_nil, Nat.reduceAdd, Nat.reduceLT, Nat.reduceLeDiff, if_true, line, Nat.reducePow, List.set_cons_succ, List.set_cons_zero, retR_false, retR_int, evC_int, evC_bl, evC_str, evC_lst, evC_tup, evC_non, evC_is, evC_isn, cmp_eq_str, cmp_ne_str, cmp_eq_int, cmp_ne_int, cmp_eq_is, cmp_eq_ns, str_eq, String.reduceEq, decide_true, decide_false, Bool.not_true, Bool.not_false, is_non, isn_non, is_tup, isn_tup, is_lst, isn_lst, is_str, isn_str, is_int, isn_int, List.map_cons, List.map_nil, Nat.sub_self, List.replicate, List.append_nil, bind_exc, fl_exc, fb_ex, fb_rt, Bool.and_self, cmp_lt_int, cmp_le_int, cmp_gt_int, cmp_ge_int, bin_add, List.cons_append, List.nil_append, Nat.reduceSub, nc0, nc1, nc2, nc3, nc4, nc5, nc6, nc7, nc8, nc9, Int.reduceEq, Int.reduceLT, Int.reduceLE, Int.reduceNe, Bool.false_eq_true, if_false, ir__law_made, h.every, h.trouble, h.boxes, e1, hl]
theorem lmade_x (n : Nat) {C : Str} {fs : List Str} {xs : List Mini.D} (hc : okc cs) (h : UAt k cs clr any e t b st) (hl : run_ (n + 6) "Line" [spD cs clr any, e, t, b] st = .exc C fs xs st) : run_ (n + 7) "_law_made" [.ref k] st = .exc C fs xs st := by
  refine run_plx T_lmade (.inl rfl) rfl ⟨[some (.ref k)], ?_⟩
  have e1 := lspeech_u (n + 1) hc h
  simp only [evSs, evS.eq_1, evS.eq_2, evS.eq_3, evS.eq_4, evS.eq_5, evS.eq_8, evS.eq_9, evS.eq_10, evS.eq_11, evS.eq_12, evS.eq_13, evS.eq_14, E_forr, E_whl, evE.eq_1, evE.eq_2, evE.eq_3, evE.eq_4, evE.eq_5, evE.eq_6, evE.eq_7, evE.eq_8, evE.eq_9, evE.eq_10, evE.eq_11, evE.eq_12, evE.eq_13, evE.eq_14, evE.eq_15, evE.eq_16, evE.eq_17, evE.eq_18, evE.eq_19, evE.eq_20, evE.eq_21, evE.eq_22, evE.eq_23, evE.eq_24, evE.eq_25, evE.eq_26, evE.eq_27, evE.eq_28, evE.eq_32, evE.eq_33, evE.eq_34, evE_comp, evEs, evG, evGs, evI, List.getElem?_cons_zero, List.getElem?_cons_succ, bind_ok, fl_ok, fb_nx, fb_rt, nox_ok, opt_some, optB_some, blR_bl, asS_tup, asS_lst, asSK_tup, asSK_lst, asL_lst, lenGs, List.length_cons, List.length_nil, Nat.reduceAdd, Nat.reduceLT, Nat.reduceLeDiff, if_true, line, Nat.reducePow, List.set_cons_succ, List.set_cons_zero, retR_false, retR_int, evC_int, evC_bl, evC_str, evC_lst, evC_tup, evC_non, evC_is, evC_isn, cmp_eq_str, cmp_ne_str, cmp_eq_int, cmp_ne_int, cmp_eq_is, cmp_eq_ns, str_eq, String.reduceEq, decide_true, decide_false, Bool.not_true, Bool.not_false, is_non, isn_non, is_tup, isn_tup, is_lst, isn_lst, is_str, isn_str, is_int, isn_int, List.map_cons, List.map_nil, Nat.sub_self, List.replicate, List.append_nil, bind_exc, fl_exc, fb_ex, fb_rt, Bool.and_self, cmp_lt_int, cmp_le_int, cmp_gt_int, cmp_ge_int, bin_add, List.cons_append, List.nil_append, Nat.reduceSub, nc0, nc1, nc2, nc3, nc4, nc5, nc6, nc7, nc8, nc9, Int.reduceEq, Int.reduceLT, Int.reduceLE, Int.reduceNe, Bool.false_eq_true, if_false, ir__law_made, h.every, h.trouble, h.boxes, e1, hl]
theorem ltold_u (n : Nat) {d : Mini.D} (hc : okc cs) (h : UAt k cs clr any e t b st) (hl : run_ (n + 6) "Line" [spD cs clr any, e, t, b] st = .ok d st) : run_ (n + 8) "_law_told" [.ref k] st = .ok d st := by
  refine run_pl T_ltold (.inl rfl) rfl ?_ rfl
  have e1 := lmade_u n hc h hl
  simp only [evSs, evS.eq_1, evS.eq_2, evS.eq_3, evS.eq_4, evS.eq_5, evS.eq_8, evS.eq_9, evS.eq_10, evS.eq_11, evS.eq_12, evS.eq_13, evS.eq_14, E_forr, E_whl, evE.eq_1, evE.eq_2, evE.eq_3, evE.eq_4, evE.eq_5, evE.eq_6, evE.eq_7, evE.eq_8, evE.eq_9, evE.eq_10, evE.eq_11, evE.eq_12, evE.eq_13, evE.eq_14, evE.eq_15, evE.eq_16, evE.eq_17, evE.eq_18, evE.eq_19, evE.eq_20, evE.eq_21, evE.eq_22, evE.eq_23, evE.eq_24, evE.eq_25, evE.eq_26, evE.eq_27, evE.eq_28, evE.eq_32, evE.eq_33, evE.eq_34, evE_comp, evEs, evG, evGs, evI, List.getElem?_cons_zero, List.getElem?_cons_succ, bind_ok, fl_ok, fb_nx, fb_rt, nox_ok, opt_some, optB_some, blR_bl, asS_tup, asS_lst, asSK_tup, asSK_lst, asL_lst, lenGs, List.length_cons, List.length_nil, Nat.reduceAdd, Nat.reduceLT, Nat.reduceLeDiff, if_true, line, Nat.reducePow, List.set_cons_succ, List.set_cons_zero, retR_false, retR_int, evC_int, evC_bl, evC_str, evC_lst, evC_tup, evC_non, evC_is, evC_isn, cmp_eq_str, cmp_ne_str, cmp_eq_int, cmp_ne_int, cmp_eq_is, cmp_eq_ns, str_eq, String.reduceEq, decide_true, decide_false, Bool.not_true, Bool.not_false, is_non, isn_non, is_tup, isn_tup, is_lst, isn_lst, is_str, isn_str, is_int, isn_int, List.map_cons, List.map_nil, Nat.sub_self, List.replicate, List.append_nil, bind_exc, fl_exc, fb_ex, fb_rt, Bool.and_self, cmp_lt_int, cmp_le_int, cmp_gt_int, cmp_ge_int, bin_add, List.cons_append, List.nil_append, Nat.reduceSub, nc0, nc1, nc2, nc3, nc4, nc5, nc6, nc7, nc8, nc9, Int.reduceEq, Int.reduceLT, Int.reduceLE, Int.reduceNe, Bool.false_eq_true, if_false, ir__law_told, e1]
theorem sub1 : L.sub "BadEvery" "BadEvery" = true ∧ L.sub "BadEvery" "SpeechError" = true ∧ L.sub "BadTrouble" "BadEvery" = false ∧ L.sub "BadTrouble" "BadTrouble" = true ∧ L.sub "BadTrouble" "SpeechError" = true ∧ L.sub "BadBox" "BadEvery" = false ∧ L.sub "BadBox" "BadTrouble" = false ∧ L.sub "BadBox" "BadBox" = true := by decide +kernel
theorem ltold_every (n : Nat) (hc : okc cs) (h : UAt k cs clr any e t b st) (hl : run_ (n + 6) "Line" [spD cs clr any, e, t, b] st = .exc "BadEvery" [] [] st) : run_ (n + 8) "_law_told" [.ref k] st = .ok (.str "every") st := by
  refine run_pl T_ltold (.inl rfl) rfl ?_ rfl
  have e1 := lmade_x n hc h hl
  obtain ⟨s1, s2, s3, s4, s5, s6, s7, s8⟩ := sub1
  simp only [evSs, evS.eq_1, evS.eq_2, evS.eq_3, evS.eq_4, evS.eq_5, evS.eq_8, evS.eq_9, evS.eq_10, evS.eq_11, evS.eq_12, evS.eq_13, evS.eq_14, E_forr, E_whl, evE.eq_1, evE.eq_2, evE.eq_3, evE.eq_4, evE.eq_5, evE.eq_6, evE.eq_7, evE.eq_8, evE.eq_9, evE.eq_10, evE.eq_11, evE.eq_12, evE.eq_13, evE.eq_14, evE.eq_15, evE.eq_16, evE.eq_17, evE.eq_18, evE.eq_19, evE.eq_20, evE.eq_21, evE.eq_22, evE.eq_23, evE.eq_24, evE.eq_25, evE.eq_26, evE.eq_27, evE.eq_28, evE.eq_32, evE.eq_33, evE.eq_34, evE_comp, evEs, evG, evGs, evI, List.getElem?_cons_zero, List.getElem?_cons_succ, bind_ok, fl_ok, fb_nx, fb_rt, nox_ok, opt_some, optB_some, blR_bl, asS_tup, asS_lst, asSK_tup, asSK_lst, asL_lst, lenGs, List.length_cons, List.length_nil, Nat.reduceAdd, Nat.reduceLT, Nat.reduceLeDiff, if_true, line, Nat.reducePow, List.set_cons_succ, List.set_cons_zero, retR_false, retR_int, evC_int, evC_bl, evC_str, evC_lst, evC_tup, evC_non, evC_is, evC_isn, cmp_eq_str, cmp_ne_str, cmp_eq_int, cmp_ne_int, cmp_eq_is, cmp_eq_ns, str_eq, String.reduceEq, decide_true, decide_false, Bool.not_true, Bool.not_false, is_non, isn_non, is_tup, isn_tup, is_lst, isn_lst, is_str, isn_str, is_int, isn_int, List.map_cons, List.map_nil, Nat.sub_self, List.replicate, List.append_nil, bind_exc, fl_exc, fb_ex, fb_rt, Bool.and_self, cmp_lt_int, cmp_le_int, cmp_gt_int, cmp_ge_int, bin_add, List.cons_append, List.nil_append, Nat.reduceSub, nc0, nc1, nc2, nc3, nc4, nc5, nc6, nc7, nc8, nc9, Int.reduceEq, Int.reduceLT, Int.reduceLE, Int.reduceNe, Bool.false_eq_true, if_false, ir__law_told, e1, evHs, s1, s2]
theorem ltold_trouble (n : Nat) (hc : okc cs) (h : UAt k cs clr any e t b st) (hl : run_ (n + 6) "Line" [spD cs clr any, e, t, b] st = .exc "BadTrouble" [] [] st) : run_ (n + 8) "_law_told" [.ref k] st = .ok (.str "trouble") st := by
  refine run_pl T_ltold (.inl rfl) rfl ?_ rfl
  have e1 := lmade_x n hc h hl
  obtain ⟨s1, s2, s3, s4, s5, s6, s7, s8⟩ := sub1
  simp only [evSs, evS.eq_1, evS.eq_2, evS.eq_3, evS.eq_4, evS.eq_5, evS.eq_8, evS.eq_9, evS.eq_10, evS.eq_11, evS.eq_12, evS.eq_13, evS.eq_14, E_forr, E_whl, evE.eq_1, evE.eq_2, evE.eq_3, evE.eq_4, evE.eq_5, evE.eq_6, evE.eq_7, evE.eq_8, evE.eq_9, evE.eq_10, evE.eq_11, evE.eq_12, evE.eq_13, evE.eq_14, evE.eq_15, evE.eq_16, evE.eq_17, evE.eq_18, evE.eq_19, evE.eq_20, evE.eq_21, evE.eq_22, evE.eq_23, evE.eq_24, evE.eq_25, evE.eq_26, evE.eq_27, evE.eq_28, evE.eq_32, evE.eq_33, evE.eq_34, evE_comp, evEs, evG, evGs, evI, List.getElem?_cons_zero, List.getElem?_cons_succ, bind_ok, fl_ok, fb_nx, fb_rt, nox_ok, opt_some, optB_some, blR_bl, asS_tup, asS_lst, asSK_tup, asSK_lst, asL_lst, lenGs, List.length_cons, List.length_nil, Nat.reduceAdd, Nat.reduceLT, Nat.reduceLeDiff, if_true, line, Nat.reducePow, List.set_cons_succ, List.set_cons_zero, retR_false, retR_int, evC_int, evC_bl, evC_str, evC_lst, evC_tup, evC_non, evC_is, evC_isn, cmp_eq_str, cmp_ne_str, cmp_eq_int, cmp_ne_int, cmp_eq_is, cmp_eq_ns, str_eq, String.reduceEq, decide_true, decide_false, Bool.not_true, Bool.not_false, is_non, isn_non, is_tup, isn_tup, is_lst, isn_lst, is_str, isn_str, is_int, isn_int, List.map_cons, List.map_nil, Nat.sub_self, List.replicate, List.append_nil, bind_exc, fl_exc, fb_ex, fb_rt, Bool.and_self, cmp_lt_int, cmp_le_int, cmp_gt_int, cmp_ge_int, bin_add, List.cons_append, List.nil_append, Nat.reduceSub, nc0, nc1, nc2, nc3, nc4, nc5, nc6, nc7, nc8, nc9, Int.reduceEq, Int.reduceLT, Int.reduceLE, Int.reduceNe, Bool.false_eq_true, if_false, ir__law_told, e1, evHs, s3, s4, s5]
theorem ltold_box (n : Nat) {x : Mini.D} (hc : okc cs) (h : UAt k cs clr any e t b st) (hl : run_ (n + 6) "Line" [spD cs clr any, e, t, b] st = .exc "BadBox" ["index"] [x] st) : run_ (n + 8) "_law_told" [.ref k] st = .ok (.lst [.str "box", x]) st := by
  refine run_pl T_ltold (.inl rfl) rfl ?_ rfl
  have e1 := lmade_x n hc h hl
  obtain ⟨s1, s2, s3, s4, s5, s6, s7, s8⟩ := sub1
  have e3 : ∀ (X : Mini.D) , lookF ["index"] [X] ("index" : Str) = some X := fun X => by unfold lookF; rfl
  simp only [evSs, evS.eq_1, evS.eq_2, evS.eq_3, evS.eq_4, evS.eq_5, evS.eq_8, evS.eq_9, evS.eq_10, evS.eq_11, evS.eq_12, evS.eq_13, evS.eq_14, E_forr, E_whl, evE.eq_1, evE.eq_2, evE.eq_3, evE.eq_4, evE.eq_5, evE.eq_6, evE.eq_7, evE.eq_8, evE.eq_9, evE.eq_10, evE.eq_11, evE.eq_12, evE.eq_13, evE.eq_14, evE.eq_15, evE.eq_16, evE.eq_17, evE.eq_18, evE.eq_19, evE.eq_20, evE.eq_21, evE.eq_22, evE.eq_23, evE.eq_24, evE.eq_25, evE.eq_26, evE.eq_27, evE.eq_28, evE.eq_32, evE.eq_33, evE.eq_34, evE_comp, evEs, evG, evGs, evI, List.getElem?_cons_zero, List.getElem?_cons_succ, bind_ok, fl_ok, fb_nx, fb_rt, nox_ok, opt_some, optB_some, blR_bl, asS_tup, asS_lst, asSK_tup, asSK_lst, asL_lst, lenGs, List.length_cons, List.length_nil, Nat.reduceAdd, Nat.reduceLT, Nat.reduceLeDiff, if_true, line, Nat.reducePow, List.set_cons_succ, List.set_cons_zero, retR_false, retR_int, evC_int, evC_bl, evC_str, evC_lst, evC_tup, evC_non, evC_is, evC_isn, cmp_eq_str, cmp_ne_str, cmp_eq_int, cmp_ne_int, cmp_eq_is, cmp_eq_ns, str_eq, String.reduceEq, decide_true, decide_false, Bool.not_true, Bool.not_false, is_non, isn_non, is_tup, isn_tup, is_lst, isn_lst, is_str, isn_str, is_int, isn_int, List.map_cons, List.map_nil, Nat.sub_self, List.replicate, List.append_nil, bind_exc, fl_exc, fb_ex, fb_rt, Bool.and_self, cmp_lt_int, cmp_le_int, cmp_gt_int, cmp_ge_int, bin_add, List.cons_append, List.nil_append, Nat.reduceSub, nc0, nc1, nc2, nc3, nc4, nc5, nc6, nc7, nc8, nc9, Int.reduceEq, Int.reduceLT, Int.reduceLE, Int.reduceNe, Bool.false_eq_true, if_false, ir__law_told, e1, evHs, s6, s7, s8, e3]
end
/-! what has been told before -/
structure LT where
  cs : List Int
  clr : Bool
  any : Bool
  ev : Int
  tr : Str
  bs : List Bx
structure LT.Ok (m : LT) : Prop where
  hc : okc m.cs
  h0 : 0 ≤ m.ev
  h1 : m.ev < 4
  ht : m.tr ∈ TRS
  hb : ∀ b ∈ m.bs, bxOk m.cs b
  hl : m.bs.length ≤ 3
def LT.line (m : LT) : Mini.D := lineD m.cs m.clr m.any m.ev m.tr (m.bs.map bxD)
def LT.t (m : LT) : Mini.D := tD m.cs m.clr m.any m.ev m.tr (m.bs.map bxD)
def LT.pair (m : LT) : Mini.D := .tup [m.line, m.t]
def LT.e (m p : LT) : Bool := lnE m.cs p.cs m.clr m.any p.clr p.any m.ev p.ev m.tr p.tr m.bs p.bs
theorem datB_dat {n : Nat} {d : Mini.D} (h : dat n d = true) (hn : n < 60) : datB d = true := by
  obtain ⟨p, e, l⟩ := dat_ok h
  unfold datB
  rw [e]
  exact shal_of l hn
theorem cnt_eq_all : (CSL.all fun cs => CSL.all fun cs' => keyB (.tup (cs.map .int)) (.tup (cs'.map .int)) == (cs == cs')) = true := by kernel_rfl
theorem cnt_eq {cs cs' : List Int} (hc : okc cs) (hc' : okc cs') : keyB (.tup (cs.map .int)) (.tup (cs'.map .int)) = (cs == cs') :=
  eq_of_beq (List.all_eq_true.mp (List.all_eq_true.mp cnt_eq_all cs (okc_mem hc)) cs' (okc_mem hc'))
theorem keyB_str (a b : Str) : keyB (.str a) (.str b) = decide (a = b) := eqv_str a b
theorem keyB_int (a b : Int) : keyB (.int a) (.int b) = decide (a = b) := rfl
theorem dats_cs (cs : List Int) : dats 0 (cs.map Mini.D.int) = true := by
  rw [dats_all]
  intro x hx
  obtain ⟨i, _, rfl⟩ := List.mem_map.mp hx
  rfl
theorem t_dat (m : LT) : ([Mini.D.tup (m.cs.map .int), .str (tS m.clr), .str (eS m.any), .int m.ev, .str m.tr, .tup (m.bs.map bxD)]).all datB = true := by
  have h1 : datB (.tup (m.cs.map .int)) = true := datB_dat (n := 1) (dats_cs m.cs) (by decide)
  have h2 : datB (.tup (m.bs.map bxD)) = true := datB_dat (n := 2) (dats_bxs m.bs) (by decide)
  have hs : ∀ x : Str, datB (.str x) = true := fun x => datB_dat (n := 0) rfl (by decide)
  have hi : ∀ x : Int, datB (.int x) = true := fun x => datB_dat (n := 0) rfl (by decide)
  rw [List.all_cons, List.all_cons, List.all_cons, List.all_cons, List.all_cons, List.all_cons, h1, h2, hs, hs, hs, hi]; rfl
theorem t_eqKD {m p : LT} (hm : m.Ok) (hp : p.Ok) : eqKD tKeys [.tup (p.cs.map .int), .str (tS p.clr), .str (eS p.any), .int p.ev, .str p.tr, .tup (p.bs.map bxD)] tKeys [.tup (m.cs.map .int), .str (tS m.clr), .str (eS m.any), .int m.ev, .str m.tr, .tup (m.bs.map bxD)] = m.e p := by
  show (keyB _ _ && (keyB _ _ && (keyB _ _ && (keyB _ _ && (keyB _ _ && (keyB _ _ && true)))))) = _
  rw [cnt_eq hm.hc hp.hc, keyB_str, keyB_str, keyB_str, keyB_int, tS_eq, eS_eq]
  unfold LT.e lnE bxE
  generalize (m.cs == p.cs) = b1
  generalize (m.clr == p.clr) = b2
  generalize (m.any == p.any) = b3
  generalize decide (m.ev = p.ev) = b4
  generalize decide (m.tr = p.tr) = b5
  generalize keyB (.tup (m.bs.map bxD)) (.tup (p.bs.map bxD)) = b6
  cases b1 <;> cases b2 <;> cases b3 <;> cases b4 <;> cases b5 <;> cases b6 <;> rfl
theorem t_eqC {m p : LT} (hm : m.Ok) (hp : p.Ok) {st : Sto} {x y : Mini.D} (hx : asC st x = some (tKeys, [.tup (m.cs.map .int), .str (tS m.clr), .str (eS m.any), .int m.ev, .str m.tr, .tup (m.bs.map bxD)])) (hy : asC st y = some (tKeys, [.tup (p.cs.map .int), .str (tS p.clr), .str (eS p.any), .int p.ev, .str p.tr, .tup (p.bs.map bxD)])) : eqD st x y = some (m.e p) := by
  unfold eqD
  rw [hx, hy]
  show (if (tKeys.all leafK && tKeys.all leafK && List.all _ datB && List.all _ datB) = true then _ else _) = _
  rw [t_dat m, t_dat p, if_pos (by rfl), t_eqKD hm hp]
  rfl
theorem t_eq {m p : LT} (hm : m.Ok) (hp : p.Ok) (st : Sto) : cmpD st .eq m.t p.t = some (m.e p) := t_eqC (st := st) (x := m.t) (y := p.t) hm hp rfl rfl
theorem e_refl (m : LT) : m.e m = true := lnE_refl _ _ _ _ _ _
theorem bd_tt (n : Nat) (m : LT) : bd n m.t = true := bd_mono (Nat.zero_le n) (bd_t (bds_bxs m.bs 0))
theorem bd_ll (n : Nat) {m : LT} (h : m.Ok) : bd n m.line = true := bd_line n h.hc (bds_bxs m.bs n)
theorem bds_pairs (n : Nat) {ms : List LT} (h : ∀ m ∈ ms, m.Ok) : bds n (ms.map LT.pair) = true := by
  rw [bds_all]
  intro x hx
  obtain ⟨m, hm, rfl⟩ := List.mem_map.mp hx
  show bds n [m.line, m.t] = true
  rw [bds_cons, bd_ll n (h m hm), bds_cons, bd_tt]; rfl
/-- the store between the steps -/
structure GS (ns : List Int) (ms : List LT) (st : Sto) : Prop where
  row : RowAt 0 ns st
  bef : st[1]? = some (.lst (ms.map LT.pair))
  cl : st.all (bdS st.length) = true
theorem GS.adv {ns : List Int} {ms : List LT} {st st' : Sto} (g : GS ns ms st) (a : Adv 0 ns st st') : GS ns ms st' :=
  ⟨a.row, by rw [a.get (by decide)]; exact g.bef, by rw [a.len]; exact a.clsd g.cl⟩
theorem GS.lt {ns : List Int} {ms : List LT} {st : Sto} (g : GS ns ms st) : 1 < st.length := (List.getElem?_eq_some_iff.mp g.bef).1
theorem GS.app {ns : List Int} {ms : List LT} {st : Sto} (g : GS ns ms st) {x : SO} (hx : bdS (st.length + 1) x = true) : GS ns ms (st ++ [x]) :=
  ⟨g.row.app _, by rw [List.getElem?_append_left g.lt]; exact g.bef, clsd_app g.cl hx⟩
theorem GS.set {ns : List Int} {ms : List LT} {st : Sto} (g : GS ns ms st) {k : Nat} (hk : 2 ≤ k) {x : SO} (hx : bdS st.length x = true) : GS ns ms (st.set k x) :=
  ⟨g.row.set (by omega) x, by rw [List.getElem?_set_ne (by omega)]; exact g.bef, clsd_set g.cl hx⟩
theorem cut3 (bs : List Bx) (x : Mini.D) (hl : bs.length ≤ 3) : (bs.length < 3 → ∃ r, bds 0 r = true ∧ bs.length + 1 + r.length ≤ 3 ∧ ∀ st, slcD st (.tup (bs.map bxD ++ [x, .non])) none (some 3) = some (.tup (bs.map bxD ++ x :: r))) ∧ (bs.length = 3 → ∀ st, slcD st (.tup (bs.map bxD ++ [x, .non])) none (some 3) = some (.tup (bs.map bxD))) := by
  match bs, hl with
  | [], _ => exact ⟨fun _ => ⟨[.non], rfl, by simp, fun _ => rfl⟩, fun h => by simp at h⟩
  | [a], _ => exact ⟨fun _ => ⟨[.non], rfl, by simp, fun _ => rfl⟩, fun h => by simp at h⟩
  | [a, b], _ => exact ⟨fun _ => ⟨[], rfl, by simp, fun _ => rfl⟩, fun h => by simp at h⟩
  | [a, b, c], _ => exact ⟨fun h => by simp at h, fun _ _ => rfl⟩
theorem add_tup (st : Sto) (xs ys : List Mini.D) (h : xs.length + ys.length ≤ line) : binD st .add (.tup xs) (.tup ys) = some (.tup (xs ++ ys)) := by
  show (if xs.length + ys.length ≤ line then _ else _) = _
  rw [if_pos h]
theorem evC_refd (call : Str → List Mini.D → Sto → Res Mini.D) (cls : List Str) (op : COp) {k : Nat} (y : Mini.D) {st : Sto} {ks xs : List Mini.D} (h : st[k]? = some (.dct ks xs)) : evC call cls op (.ref k) y st = optB (cmpD st op (.ref k) y) fun b => .ok (.bl b) st := by
  have : asI st (.ref k) = none := by simp only [asI, h]
  cases op <;> first | rfl | (unfold evC; simp only [this])
theorem evC_refl (call : Str → List Mini.D → Sto → Res Mini.D) (cls : List Str) (op : COp) {k : Nat} (y : Mini.D) {st : Sto} {xs : List Mini.D} (h : st[k]? = some (.lst xs)) : evC call cls op (.ref k) y st = optB (cmpD st op (.ref k) y) fun b => .ok (.bl b) st := by
  have : asI st (.ref k) = none := by simp only [asI, h]
  cases op <;> first | rfl | (unfold evC; simp only [this])
theorem ln_t (n : Nat) (st : Sto) {cls : List Str} (hcl : cls.contains "Line" = true) {m p : LT} (hm : m.Ok) : evC (run_ (n + 1)) cls .eq m.line p.t st = .ok (.bl false) st := by
  have e : run_ (n + 1) "Line.__eq__" [m.line, p.t] st = .ok (.bl false) st := by
    refine run_fn0 st T_lneq (by rw [bds_cons, bd_ll 0 hm, bds_cons, bd_tt]; rfl) rfl ?_ rfl
    have k0 : kdOf [] p.t = some .dct := rfl
    have k1 : (List.any [Ty.own "Line"] fun t => isK L.sub t .dct) = false := rfl
    simp only [evSs, evS.eq_1, evS.eq_2, evS.eq_3, evS.eq_4, evS.eq_5, evS.eq_8, evS.eq_9, evS.eq_10, evS.eq_11, evS.eq_12, evS.eq_13, evS.eq_14, E_forr, E_whl, evE.eq_1, evE.eq_2, evE.eq_3, evE.eq_4, evE.eq_5, evE.eq_6, evE.eq_7, evE.eq_8, evE.eq_9, evE.eq_10, evE.eq_11, evE.eq_12, evE.eq_13, evE.eq_14, evE.eq_15, evE.eq_16, evE.eq_17, evE.eq_18, evE.eq_19, evE.eq_20, evE.eq_21, evE.eq_22, evE.eq_23, evE.eq_24, evE.eq_25, evE.eq_26, evE.eq_27, evE.eq_28, evE.eq_32, evE.eq_33, evE.eq_34, evE_comp, evEs, evG, evGs, evI, List.getElem?_cons_zero, List.getElem?_cons_succ, bind_ok, fl_ok, fb_nx, fb_rt, nox_ok, opt_some, optB_some, blR_bl, asS_tup, asS_lst, asSK_tup, asSK_lst, asL_lst, lenGs, List.length_cons, List.length_nil, Nat.reduceAdd, Nat.reduceLT, Nat.reduceLeDiff, if_true, line, Nat.reducePow, List.set_cons_succ, List.set_cons_zero, retR_false, retR_int, evC_int, evC_bl, evC_str, evC_lst, evC_tup, evC_non, evC_is, evC_isn, cmp_eq_str, cmp_ne_str, cmp_eq_int, cmp_ne_int, cmp_eq_is, cmp_eq_ns, str_eq, String.reduceEq, decide_true, decide_false, Bool.not_true, Bool.not_false, is_non, isn_non, is_tup, isn_tup, is_lst, isn_lst, is_str, isn_str, is_int, isn_int, List.map_cons, List.map_nil, Nat.sub_self, List.replicate, List.append_nil, bind_exc, fl_exc, fb_ex, fb_rt, Bool.and_self, cmp_lt_int, cmp_le_int, cmp_gt_int, cmp_ge_int, bin_add, List.cons_append, List.nil_append, Nat.reduceSub, nc0, nc1, nc2, nc3, nc4, nc5, nc6, nc7, nc8, nc9, Int.reduceEq, Int.reduceLT, Int.reduceLE, Int.reduceNe, Bool.false_eq_true, if_false, ir_Line___eq__, k0, k1]
  show (if (cls.contains "Line" && (kdOf st p.t).isSome) = true then (run_ (n + 1) "Line.__eq__" [m.line, p.t] st).nox.bind _ else _) = _
  rw [if_pos (by rw [hcl]; rfl), e]
  rfl
abbrev S_ := evS (run_ 12) L.sub L.efs L.wf
def boxL0 (bs : List Bx) : List Mini.D := [.non, .lst (bs.map bxD), .tup [.tup [.str "thin"], .tup [.str "thin"], .tup [.str "thin"], .tup [.str "thin"]], .dct [] []]
theorem boxL0_bd (bs : List Bx) : (boxL0 bs).all (fun x => bd 0 x) = true := by
  unfold boxL0
  rw [List.all_cons, List.all_cons, bd_lst, bds_bxs]; rfl
theorem boxL0_k {bs : List Bx} {d : Mini.D} (h : d ∈ boxL0 bs) : kdOf [.ins "Line" [] []] d ≠ some .tup ∧ (kdOf [.ins "Line" [] []] d).isSome = true ∨ ∃ xs, d = .tup xs ∧ 3 < xs.length := by
  simp only [boxL0, List.mem_cons, List.not_mem_nil, or_false] at h
  rcases h with rfl | rfl | rfl | rfl
  · exact .inl ⟨by simp [kdOf], rfl⟩
  · exact .inl ⟨by simp [kdOf], rfl⟩
  · exact .inr ⟨_, rfl, by decide⟩
  · exact .inl ⟨by simp [kdOf], rfl⟩
theorem filt (n : Nat) {ms : List LT} {p : LT} (hms : ∀ m ∈ ms, m.Ok) (hp : p.Ok) (hl : ms.length < 1000) {st : Sto} (hs : st[1]? = some (.lst (ms.map LT.pair))) (v0 v1 v2 v3 v6 v7 v8 v9 v10 : Option Mini.D) :
    loopR (depB (.ref 1) (ms.map LT.pair)) (compB (run_ (n + 3)) L.sub [9, 10] (.tup (.cons (.name 9) (.cons (.name 10) .nil))) ir_law_b1 ir_law_b2 [v0, v1, v2, v3, some p.t, some p.line, v6, v7, v8, v9, v10]) (ms.map LT.pair) [] st = .ok [] st := by
  have := comp_map (dep := depB (.ref 1) (ms.map LT.pair)) (body := compB (run_ (n + 3)) L.sub [9, 10] (.tup (.cons (.name 9) (.cons (.name 10) .nil))) ir_law_b1 ir_law_b2 [v0, v1, v2, v3, some p.t, some p.line, v6, v7, v8, v9, v10]) LT.pair (fun _ => []) ms (st := st) (dep_ref hs) (by unfold line; omega) (fun _ _ => Nat.zero_le _) (fun m hm acc ha => by
    have e1 := evC_ln n st (cls := ["Speech", "Line"]) (by rfl) (clr := m.clr) (any := m.any) (clr' := p.clr) (any' := p.any) (ev := m.ev) (ev' := p.ev) (tr := m.tr) (tr' := p.tr) (bs := m.bs) (bs' := p.bs) (hms m hm).hc hp.hc
    have e1 : evC (run_ (n + 3)) ["Speech", "Line"] .eq m.line p.line st = .ok (.bl (m.e p)) st := e1
    have e2 : evC (run_ (n + 3)) ["Speech", "Line"] .eq m.t p.t st = .ok (.bl (m.e p)) st := by
      rw [show evC (run_ (n + 3)) ["Speech", "Line"] .eq m.t p.t st = _ from evC_dct _ _ _ _ _ _ _]
      rw [show cmpD st .eq (.dct tKeys _) p.t = _ from t_eq (hms m hm) hp st]
      rfl
    have e3 : (m.e p != m.e p) = false := by cases m.e p <;> rfl
    unfold LT.pair ir_law_b1
    simp only [evSs, evS.eq_1, evS.eq_2, evS.eq_3, evS.eq_4, evS.eq_5, evS.eq_8, evS.eq_9, evS.eq_10, evS.eq_11, evS.eq_12, evS.eq_13, evS.eq_14, E_forr, E_whl, evE.eq_1, evE.eq_2, evE.eq_3, evE.eq_4, evE.eq_5, evE.eq_6, evE.eq_7, evE.eq_8, evE.eq_9, evE.eq_10, evE.eq_11, evE.eq_12, evE.eq_13, evE.eq_14, evE.eq_15, evE.eq_16, evE.eq_17, evE.eq_18, evE.eq_19, evE.eq_20, evE.eq_21, evE.eq_22, evE.eq_23, evE.eq_24, evE.eq_25, evE.eq_26, evE.eq_27, evE.eq_28, evE.eq_32, evE.eq_33, evE.eq_34, evE_comp, evEs, evG, evGs, evI, List.getElem?_cons_zero, List.getElem?_cons_succ, bind_ok, fl_ok, fb_nx, fb_rt, nox_ok, opt_some, optB_some, blR_bl, asS_tup, asS_lst, asSK_tup, asSK_lst, asL_lst, lenGs, List.length_cons, List.length_nil, Nat.reduceAdd, Nat.reduceLT, Nat.reduceLeDiff, if_true, line, Nat.reducePow, List.set_cons_succ, List.set_cons_zero, retR_false, retR_int, evC_int, evC_bl, evC_str, evC_lst, evC_tup, evC_non, evC_is, evC_isn, cmp_eq_str, cmp_ne_str, cmp_eq_int, cmp_ne_int, cmp_eq_is, cmp_eq_ns, str_eq, String.reduceEq, decide_true, decide_false, Bool.not_true, Bool.not_false, is_non, isn_non, is_tup, isn_tup, is_lst, isn_lst, is_str, isn_str, is_int, isn_int, List.map_cons, List.map_nil, Nat.sub_self, List.replicate, List.append_nil, bind_exc, fl_exc, fb_ex, fb_rt, Bool.and_self, cmp_lt_int, cmp_le_int, cmp_gt_int, cmp_ge_int, bin_add, List.cons_append, List.nil_append, Nat.reduceSub, nc0, nc1, nc2, nc3, nc4, nc5, nc6, nc7, nc8, nc9, Int.reduceEq, Int.reduceLT, Int.reduceLE, Int.reduceNe, Bool.false_eq_true, if_false, compB, wipeE, List.foldr_cons, List.foldr_nil, e1, e2, cmp_ne_bl, e3])
  rw [this]
  have : ∀ l : List LT, l.flatMap (fun _ => ([] : List Mini.D)) = [] := fun l => by induction l with
    | nil => rfl
    | cons _ _ ih => rw [List.flatMap_cons, ih]; rfl
  rw [this]
/-! the law -/
theorem dats_steps (k : Nat) (tr : Str) : dats 1 (stepsD k tr) = true := by
  have hk : ∀ w : Int, dats 1 (saysD w k) = true := fun w => by
    unfold saysD
    rw [dats_all]
    intro x hx
    obtain ⟨y, hy, rfl⟩ := List.mem_map.mp hx
    have : dat 0 y = true := by
      rcases List.mem_append.mp hy with hy | hy
      · exact dats_all.mp (dats_kinds k) y hy
      · rw [List.mem_singleton.mp hy]; rfl
    show (true && (true && (dat 0 y && true))) = true
    rw [this]; rfl
  have app : ∀ a b : List Mini.D, dats 1 a = true → dats 1 b = true → dats 1 (a ++ b) = true := fun a b h1 h2 => by
    rw [dats_all] at h1 h2 ⊢
    intro x hx
    rcases List.mem_append.mp hx with hx | hx
    · exact h1 x hx
    · exact h2 x hx
  unfold stepsD
  split
  · exact app _ _ (app _ _ (app _ _ rfl (hk 0)) (hk 1)) rfl
  · split
    · exact app _ _ (app _ _ rfl (hk 0)) rfl
    · exact app _ _ (app _ _ rfl (hk 0)) rfl
theorem cmp_ne_ref {st : Sto} {k : Nat} {xs : List Mini.D} {n : Nat} (h : st[k]? = some (.lst xs)) (hd : dats n xs = true) (hn : n < 50) : cmpD st .ne (.ref k) (.lst xs) = some false := by
  have h1 : dat (n + 1) (.lst xs) = true := hd
  have e := ne_self h1 (by omega) st
  have a1 : asC st (.ref k) = none := by simp only [asC, h]
  have a2 : drf st (.ref k) = .lst xs := by simp only [drf, h]
  have : eqD st (.ref k) (.lst xs) = eqD st (.lst xs) (.lst xs) := by
    unfold eqD eqP
    rw [a1, a2]
    rfl
  show (eqD st (.ref k) (.lst xs)).map _ = _
  rw [this]
  exact e
theorem retR_dct (ks xs : List Mini.D) (s : Sto) : retR true (.dct ks xs) s = .ok (.ref s.length) (s ++ [.dct ks xs]) := rfl
theorem cmp_ld (st : Sto) (xs : List Mini.D) {k : Nat} {ks vs : List Mini.D} (h : st[k]? = some (.dct ks vs)) (hk : ks.all leafK = true) : eqD st (.lst xs) (.ref k) = some false := by
  have a1 : asC st (.ref k) = some (ks, vs) := by simp only [asC, h]
  unfold eqD
  rw [a1]
  show (if ((asL st (.lst xs)).isSome && ks.all leafK) = true then some false else _) = _
  rw [hk]
  rfl
theorem turn (ns : List Int) (ms : List LT) (hms : ∀ m ∈ ms, m.Ok) (hml : ms.length < 900) (st : Sto) (g : GS ns ms st) (v0 : Option Mini.D) (x : Mini.D) (v3 v4 v5 v6 v7 v8 v9 v10 : Option Mini.D) :
    ∃ m w4 w5 w6 w7 w8 st', m.Ok ∧ GS ns (ms ++ [m]) st' ∧ loopB (run_ 12) L.sub L.efs L.wf (.name 3) ir_law_b22 x [v0, some (.ref 0), some (.ref 1), v3, v4, v5, v6, v7, v8, v9, v10] st = .nx [v0, some (.ref 0), some (.ref 1), some x, w4, w5, w6, w7, w8, v9, v10] st' := by
  obtain ⟨cs, clr, any, ev, tr, bs, s1, hc, _, h0, h1, ht, hbs, hbl, A1, e1⟩ := drawn_ok 8 (many := 3) (bx := 3) (by decide) (by decide) (by decide) (by decide) g.row g.cl
  have hl : bs.length ≤ 3 := by omega
  have hb := bds_bxs bs 0
  have mO : (LT.mk cs clr any ev tr bs).Ok := ⟨hc, h0, h1, ht, hbs, hl⟩
  have g1 := g.adv A1
  have e2 := ltold_ok 4 s1 (clr := clr) (any := any) hc h0 h1 ht bs hbs hl
  have p1 := p_speech 11 s1 (clr := clr) (any := any) (ev := ev) (tr := tr) hc hb
  have p2 := p_every 11 s1 (clr := clr) (any := any) (ev := ev) (tr := tr) hc hb
  have p3 := p_trouble 11 s1 (clr := clr) (any := any) (ev := ev) (tr := tr) hc hb
  have p4 := p_boxes 11 s1 (clr := clr) (any := any) (ev := ev) (tr := tr) hc hb
  have e3 := lspeech_ok 7 s1 (clr := clr) (any := any) (ev := ev) (tr := tr) hc hb
  have n1 : evC (run_ 12) ["Speech", "Line"] .ne (spD cs clr any) (spD cs clr any) s1 = .ok (.bl false) s1 := by
    rw [evN_sp 11 s1 (by rfl) hc hc]; simp
  have n2 : ∀ st, cmpD st .ne (.tup (bs.map bxD)) (.tup (bs.map bxD)) = some false := fun st => ne_self (n := 2) (show dat 2 (.tup (bs.map bxD)) = true from dats_bxs bs) (by decide) st
  have n3 : ∀ st, cmpD st .ne (.lst [.int ev, .str tr]) (.lst [.int ev, .str tr]) = some false := fun st => ne_self (n := 1) rfl (by decide) st
  -- all steps
  have e4 := all_ok 9 s1 (clr := clr) (any := any) (ev := ev) hc ht hb
  generalize hs2 : s1 ++ [SO.lst (stepsD cs.length tr)] = s2 at e4
  have gs2 : s2[s1.length]? = some (.lst (stepsD cs.length tr)) := by rw [← hs2]; exact get_last rfl _
  have g2 : GS ns ms s2 := by rw [← hs2]; exact g1.app (bds_steps _ _ _)
  have e5 := lsteps_ok 10 s2 (clr := clr) (any := any) (ev := ev) hc ht hb
  have n4 : evC (run_ 12) ["Speech", "Line"] .ne (.ref s1.length) (.lst (stepsD cs.length tr)) s2 = .ok (.bl false) s2 := by
    rw [evC_refl _ _ _ _ gs2, cmp_ne_ref gs2 (dats_steps _ _) (by decide)]; rfl
  have n5 : evC (run_ 12) ["Speech", "Line"] .eq (lineD cs clr any ev tr (bs.map bxD)) (tD cs clr any ev tr (bs.map bxD)) s2 = .ok (.bl false) s2 := ln_t 11 s2 (by rfl) (m := ⟨cs, clr, any, ev, tr, bs⟩) (p := ⟨cs, clr, any, ev, tr, bs⟩) mO
  have e6 := all_ok 9 s2 (clr := clr) (any := any) (ev := ev) hc ht hb
  have ty := ty_last (a := s2) rfl (xs := stepsD cs.length tr)
  have ap := append_last (a := s2) rfl (xs := stepsD cs.length tr) (v := .str "more") (by
    have : (stepsD cs.length tr).length < 100 := by
      have hc3 := hc.2.1
      have hk : ∀ w, (saysD w cs.length).length ≤ 4 := fun w => by
        unfold saysD kinds
        rw [List.length_map, List.length_append, List.length_take]
        simp only [List.length_cons, List.length_nil]
        omega
      have k0 := hk 0
      have k1 := hk 1
      unfold stepsD
      split
      · simp only [List.length_append, List.length_cons, List.length_nil]; omega
      · split <;> (simp only [List.length_append, List.length_cons, List.length_nil]; omega)
    unfold line; omega)
  generalize hs3 : s2 ++ [SO.lst (stepsD cs.length tr ++ [.str "more"])] = s3 at ap
  have g3 : GS ns ms s3 := by rw [← hs3]; exact g2.app (by show bds _ _ = true; rw [bds_append, bds_steps]; rfl)
  have e7 := filt 9 hms mO (by omega) g3.bef v0 (some (.ref 0)) (some (.ref 1)) (some x) v6 v7 v8 v9 v10
  have ty2 := (tyM_ref g3.bef).1
  have ap2 : evM .append (.ref 1) [.tup [lineD cs clr any ev tr (bs.map bxD), tD cs clr any ev tr (bs.map bxD)]] s3 = .ok .non (s3.set 1 (.lst (ms.map LT.pair ++ [.tup [lineD cs clr any ev tr (bs.map bxD), tD cs clr any ev tr (bs.map bxD)]]))) := append_ok g3.bef (by rw [List.length_map]; unfold line; omega)
  have dt : ∀ st, biD st .dict [tD cs clr any ev tr (bs.map bxD)] = some (tD cs clr any ev tr (bs.map bxD)) := fun _ => rfl
  generalize hs4 : s3.set 1 (.lst (ms.map LT.pair ++ [.tup [lineD cs clr any ev tr (bs.map bxD), tD cs clr any ev tr (bs.map bxD)]])) = s4 at ap2
  have hms' : ∀ m ∈ ms ++ [LT.mk cs clr any ev tr bs], m.Ok := by
    intro m hm
    rcases List.mem_append.mp hm with hm | hm
    · exact hms m hm
    · rw [List.mem_singleton.mp hm]; exact mO
  have g4 : GS ns (ms ++ [LT.mk cs clr any ev tr bs]) s4 := by
    rw [← hs4]
    refine ⟨g3.row.set (by decide) _, ?_, clsd_set g3.cl ?_⟩
    · rw [List.getElem?_set_self g3.lt, List.map_append]; rfl
    · show bds _ _ = true
      have := bds_pairs s3.length hms'
      rw [List.map_append] at this
      exact this
  have hN : 2 ≤ s4.length := g4.lt
  have hN0 : s4.length ≠ 0 := by omega
  generalize hs5 : s4 ++ [uSO cs clr any (.int ev) (.str tr) (.tup (bs.map bxD))] = s5
  have g5 : GS ns (ms ++ [LT.mk cs clr any ev tr bs]) s5 := by rw [← hs5]; exact g4.app (bdS_u _ rfl rfl (by rw [bd_tup]; exact bds_bxs bs _))
  have u5 : UAt s4.length cs clr any (.int ev) (.str tr) (.tup (bs.map bxD)) s5 := by rw [← hs5]; exact get_last rfl _
  obtain ⟨r6, s6, f6, i6, i6', A6⟩ := pick_adv 11 g5.row (many := 5) (by decide) (by decide)
  obtain ⟨bad, hbad, j6⟩ := atPick (xs := oddX) i6 i6'
  have g6 := g5.adv A6
  have u6 := u5.adv hN0 A6
  have hbd : bd 0 bad = true := dat_bd 0 (List.all_eq_true.mp oddX_bd bad hbad)
  have at1 : ∀ st, binD st .add (.tup (bs.map bxD)) (.tup [bad, .non]) = some (.tup (bs.map bxD ++ [bad, .non])) := fun st => add_tup st _ _ (by rw [List.length_map]; unfold line; simp only [List.length_cons, List.length_nil]; omega)
  have lb : ∀ st, biD st .len [.tup (bs.map bxD)] = some (.int (bs.length : Int)) := fun st => by rw [len_tup, List.length_map]
  have ak : ∀ st : Sto, ∀ e t b, UAt s4.length cs clr any e t b st → st[s4.length]? = some (.dct tKeys [.tup (cs.map .int), .str (tS clr), .str (eS any), e, t, b]) := fun _ _ _ _ h => h
  have P : ∃ b1 due, bd 0 b1 = true ∧
      S_ ir_law_s11 [v0, some (.ref 0), some (.ref 1), some x, some (tD cs clr any ev tr (bs.map bxD)), some (lineD cs clr any ev tr (bs.map bxD)), some (.ref s4.length), some bad, v8, v9, v10] s6 = .nx [v0, some (.ref 0), some (.ref 1), some x, some (tD cs clr any ev tr (bs.map bxD)), some (lineD cs clr any ev tr (bs.map bxD)), some (.ref s4.length), some bad, v8, v9, v10] (s6.set s4.length (uSO cs clr any (.int ev) (.str tr) b1)) ∧
      S_ ir_law_s10 [v0, some (.ref 0), some (.ref 1), some x, some (tD cs clr any ev tr (bs.map bxD)), some (lineD cs clr any ev tr (bs.map bxD)), some (.ref s4.length), some bad, v8, v9, v10] (s6.set s4.length (uSO cs clr any (.int ev) (.str tr) b1)) = .nx [v0, some (.ref 0), some (.ref 1), some x, some (tD cs clr any ev tr (bs.map bxD)), some (lineD cs clr any ev tr (bs.map bxD)), some (.ref s4.length), some bad, some due, v9, v10] (s6.set s4.length (uSO cs clr any (.int ev) (.str tr) b1)) ∧
      S_ ir_law_s9 [v0, some (.ref 0), some (.ref 1), some x, some (tD cs clr any ev tr (bs.map bxD)), some (lineD cs clr any ev tr (bs.map bxD)), some (.ref s4.length), some bad, some due, v9, v10] (s6.set s4.length (uSO cs clr any (.int ev) (.str tr) b1)) = .nx [v0, some (.ref 0), some (.ref 1), some x, some (tD cs clr any ev tr (bs.map bxD)), some (lineD cs clr any ev tr (bs.map bxD)), some (.ref s4.length), some bad, some due, v9, v10] (s6.set s4.length (uSO cs clr any (.int ev) (.str tr) b1)) := by
    obtain ⟨c1, c2⟩ := cut3 bs bad hl
    by_cases hlt : bs.length < 3
    · obtain ⟨r, hr, hrl, c⟩ := c1 hlt
      have hlt' : (bs.length : Int) < 3 := by omega
      have u7 := u6.set (.int ev) (.str tr) (.tup (bs.map bxD ++ bad :: r))
      have sb := u6.sB (.tup (bs.map bxD ++ bad :: r))
      generalize h7 : s6.set s4.length (uSO cs clr any (.int ev) (.str tr) (.tup (bs.map bxD ++ bad :: r))) = s7 at u7 sb
      have tb := ltold_box 4 hc u7 (line_box 4 s7 (clr := clr) (any := any) hc h0 h1 ht bs hbs hbad r hr hrl)
      have q1 : ∀ y, cmpD s7 .eq (.lst y) (.ref s4.length) = some false := fun y => cmp_ld s7 y (ak _ _ _ _ u7) rfl
      have q2 : ∀ y, cmpD s7 .ne (.lst y) (.ref s4.length) = some true := fun y => by
        show (eqD s7 (.lst y) (.ref s4.length)).map _ = _
        rw [cmp_ld s7 y (ak _ _ _ _ u7) rfl]; rfl
      have q3 : ∀ (i : Int) st, cmpD st .ne (.lst [.str "box", .int i]) (.lst [.str "box", .int i]) = some false := fun i st => ne_self (n := 1) rfl (by decide) st
      refine ⟨.tup (bs.map bxD ++ bad :: r), .lst [.str "box", .int (bs.length : Int)], by rw [bd_tup, bds_append, hb, bds_cons, hbd, hr]; rfl, ?_, ?_, ?_⟩
      · rw [h7]; unfold ir_law_s11; simp only [evSs, evS.eq_1, evS.eq_2, evS.eq_3, evS.eq_4, evS.eq_5, evS.eq_8, evS.eq_9, evS.eq_10, evS.eq_11, evS.eq_12, evS.eq_13, evS.eq_14, E_forr, E_whl, evE.eq_1, evE.eq_2, evE.eq_3, evE.eq_4, evE.eq_5, evE.eq_6, evE.eq_7, evE.eq_8, evE.eq_9, evE.eq_10, evE.eq_11, evE.eq_12, evE.eq_13, evE.eq_14, evE.eq_15, evE.eq_16, evE.eq_17, evE.eq_18, evE.eq_19, evE.eq_20, evE.eq_21, evE.eq_22, evE.eq_23, evE.eq_24, evE.eq_25, evE.eq_26, evE.eq_27, evE.eq_28, evE.eq_32, evE.eq_33, evE.eq_34, evE_comp, evEs, evG, evGs, evI, List.getElem?_cons_zero, List.getElem?_cons_succ, bind_ok, fl_ok, fb_nx, fb_rt, nox_ok, opt_some, optB_some, blR_bl, asS_tup, asS_lst, asSK_tup, asSK_lst, asL_lst, lenGs, List.length_cons, List.length_nil, Nat.reduceAdd, Nat.reduceLT, Nat.reduceLeDiff, if_true, line, Nat.reducePow, List.set_cons_succ, List.set_cons_zero, retR_false, retR_int, evC_int, evC_bl, evC_str, evC_lst, evC_tup, evC_non, evC_is, evC_isn, cmp_eq_str, cmp_ne_str, cmp_eq_int, cmp_ne_int, cmp_eq_is, cmp_eq_ns, str_eq, String.reduceEq, decide_true, decide_false, Bool.not_true, Bool.not_false, is_non, isn_non, is_tup, isn_tup, is_lst, isn_lst, is_str, isn_str, is_int, isn_int, List.map_cons, List.map_nil, Nat.sub_self, List.replicate, List.append_nil, bind_exc, fl_exc, fb_ex, fb_rt, Bool.and_self, cmp_lt_int, cmp_le_int, cmp_gt_int, cmp_ge_int, bin_add, List.cons_append, List.nil_append, Nat.reduceSub, nc0, nc1, nc2, nc3, nc4, nc5, nc6, nc7, nc8, nc9, Int.reduceEq, Int.reduceLT, Int.reduceLE, Int.reduceNe, Bool.false_eq_true, if_false, S_, t_boxes, at1, optI_int, optI_non, c, sb]
      · rw [h7]; unfold ir_law_s10; simp only [evSs, evS.eq_1, evS.eq_2, evS.eq_3, evS.eq_4, evS.eq_5, evS.eq_8, evS.eq_9, evS.eq_10, evS.eq_11, evS.eq_12, evS.eq_13, evS.eq_14, E_forr, E_whl, evE.eq_1, evE.eq_2, evE.eq_3, evE.eq_4, evE.eq_5, evE.eq_6, evE.eq_7, evE.eq_8, evE.eq_9, evE.eq_10, evE.eq_11, evE.eq_12, evE.eq_13, evE.eq_14, evE.eq_15, evE.eq_16, evE.eq_17, evE.eq_18, evE.eq_19, evE.eq_20, evE.eq_21, evE.eq_22, evE.eq_23, evE.eq_24, evE.eq_25, evE.eq_26, evE.eq_27, evE.eq_28, evE.eq_32, evE.eq_33, evE.eq_34, evE_comp, evEs, evG, evGs, evI, List.getElem?_cons_zero, List.getElem?_cons_succ, bind_ok, fl_ok, fb_nx, fb_rt, nox_ok, opt_some, optB_some, blR_bl, asS_tup, asS_lst, asSK_tup, asSK_lst, asL_lst, lenGs, List.length_cons, List.length_nil, Nat.reduceAdd, Nat.reduceLT, Nat.reduceLeDiff, if_true, line, Nat.reducePow, List.set_cons_succ, List.set_cons_zero, retR_false, retR_int, evC_int, evC_bl, evC_str, evC_lst, evC_tup, evC_non, evC_is, evC_isn, cmp_eq_str, cmp_ne_str, cmp_eq_int, cmp_ne_int, cmp_eq_is, cmp_eq_ns, str_eq, String.reduceEq, decide_true, decide_false, Bool.not_true, Bool.not_false, is_non, isn_non, is_tup, isn_tup, is_lst, isn_lst, is_str, isn_str, is_int, isn_int, List.map_cons, List.map_nil, Nat.sub_self, List.replicate, List.append_nil, bind_exc, fl_exc, fb_ex, fb_rt, Bool.and_self, cmp_lt_int, cmp_le_int, cmp_gt_int, cmp_ge_int, bin_add, List.cons_append, List.nil_append, Nat.reduceSub, nc0, nc1, nc2, nc3, nc4, nc5, nc6, nc7, nc8, nc9, Int.reduceEq, Int.reduceLT, Int.reduceLE, Int.reduceNe, Bool.false_eq_true, if_false, S_, t_boxes, lb, hlt']
      · rw [h7]; unfold ir_law_s9; simp only [evSs, evS.eq_1, evS.eq_2, evS.eq_3, evS.eq_4, evS.eq_5, evS.eq_8, evS.eq_9, evS.eq_10, evS.eq_11, evS.eq_12, evS.eq_13, evS.eq_14, E_forr, E_whl, evE.eq_1, evE.eq_2, evE.eq_3, evE.eq_4, evE.eq_5, evE.eq_6, evE.eq_7, evE.eq_8, evE.eq_9, evE.eq_10, evE.eq_11, evE.eq_12, evE.eq_13, evE.eq_14, evE.eq_15, evE.eq_16, evE.eq_17, evE.eq_18, evE.eq_19, evE.eq_20, evE.eq_21, evE.eq_22, evE.eq_23, evE.eq_24, evE.eq_25, evE.eq_26, evE.eq_27, evE.eq_28, evE.eq_32, evE.eq_33, evE.eq_34, evE_comp, evEs, evG, evGs, evI, List.getElem?_cons_zero, List.getElem?_cons_succ, bind_ok, fl_ok, fb_nx, fb_rt, nox_ok, opt_some, optB_some, blR_bl, asS_tup, asS_lst, asSK_tup, asSK_lst, asL_lst, lenGs, List.length_cons, List.length_nil, Nat.reduceAdd, Nat.reduceLT, Nat.reduceLeDiff, if_true, line, Nat.reducePow, List.set_cons_succ, List.set_cons_zero, retR_false, retR_int, evC_int, evC_bl, evC_str, evC_lst, evC_tup, evC_non, evC_is, evC_isn, cmp_eq_str, cmp_ne_str, cmp_eq_int, cmp_ne_int, cmp_eq_is, cmp_eq_ns, str_eq, String.reduceEq, decide_true, decide_false, Bool.not_true, Bool.not_false, is_non, isn_non, is_tup, isn_tup, is_lst, isn_lst, is_str, isn_str, is_int, isn_int, List.map_cons, List.map_nil, Nat.sub_self, List.replicate, List.append_nil, bind_exc, fl_exc, fb_ex, fb_rt, Bool.and_self, cmp_lt_int, cmp_le_int, cmp_gt_int, cmp_ge_int, bin_add, List.cons_append, List.nil_append, Nat.reduceSub, nc0, nc1, nc2, nc3, nc4, nc5, nc6, nc7, nc8, nc9, Int.reduceEq, Int.reduceLT, Int.reduceLE, Int.reduceNe, Bool.false_eq_true, if_false, S_, evC_lst, q1, q2, tb, q3]
    · have hlt' : ¬ (bs.length : Int) < 3 := by omega
      have c := c2 (by omega)
      have u7 := u6.set (.int ev) (.str tr) (.tup (bs.map bxD))
      have sb := u6.sB (.tup (bs.map bxD))
      generalize h7 : s6.set s4.length (uSO cs clr any (.int ev) (.str tr) (.tup (bs.map bxD))) = s7 at u7 sb
      have hL := line_ok 4 s7 (clr := clr) (any := any) hc h0 h1 ht bs hbs hl
      have tb := ltold_u 4 hc u7 hL
      have tm := lmade_u 5 hc u7 (line_ok 5 s7 (clr := clr) (any := any) hc h0 h1 ht bs hbs hl)
      have hC : asC s7 (.ref s4.length) = some (tKeys, [.tup (cs.map .int), .str (tS clr), .str (eS any), .int ev, .str tr, .tup (bs.map bxD)]) := by
        have := ak _ _ _ _ u7
        simp only [asC, this]
      have qe : eqD s7 (.ref s4.length) (.ref s4.length) = some true := by
        have := t_eqC (m := ⟨cs, clr, any, ev, tr, bs⟩) (p := ⟨cs, clr, any, ev, tr, bs⟩) mO mO hC hC
        rw [e_refl] at this
        exact this
      have q1 : evC (run_ 12) ["Speech", "Line"] .eq (.ref s4.length) (.ref s4.length) s7 = .ok (.bl true) s7 := by
        rw [evC_refd _ _ _ _ (ak _ _ _ _ u7)]
        show optB (eqD s7 (.ref s4.length) (.ref s4.length)) _ = _
        rw [qe]; rfl
      have q2 : evC (run_ 12) ["Speech", "Line"] .ne (.ref s4.length) (.ref s4.length) s7 = .ok (.bl false) s7 := by
        rw [evC_refd _ _ _ _ (ak _ _ _ _ u7)]
        show optB ((eqD s7 (.ref s4.length) (.ref s4.length)).map _) _ = _
        rw [qe]; rfl
      have q3 : evC (run_ 12) ["Speech", "Line"] .ne (lineD cs clr any ev tr (bs.map bxD)) (lineD cs clr any ev tr (bs.map bxD)) s7 = .ok (.bl false) s7 := by
        rw [evN_ln 9 s7 (by rfl) hc hc, lnE_refl]; rfl
      refine ⟨.tup (bs.map bxD), .ref s4.length, by rw [bd_tup, hb], ?_, ?_, ?_⟩
      · rw [h7]; unfold ir_law_s11; simp only [evSs, evS.eq_1, evS.eq_2, evS.eq_3, evS.eq_4, evS.eq_5, evS.eq_8, evS.eq_9, evS.eq_10, evS.eq_11, evS.eq_12, evS.eq_13, evS.eq_14, E_forr, E_whl, evE.eq_1, evE.eq_2, evE.eq_3, evE.eq_4, evE.eq_5, evE.eq_6, evE.eq_7, evE.eq_8, evE.eq_9, evE.eq_10, evE.eq_11, evE.eq_12, evE.eq_13, evE.eq_14, evE.eq_15, evE.eq_16, evE.eq_17, evE.eq_18, evE.eq_19, evE.eq_20, evE.eq_21, evE.eq_22, evE.eq_23, evE.eq_24, evE.eq_25, evE.eq_26, evE.eq_27, evE.eq_28, evE.eq_32, evE.eq_33, evE.eq_34, evE_comp, evEs, evG, evGs, evI, List.getElem?_cons_zero, List.getElem?_cons_succ, bind_ok, fl_ok, fb_nx, fb_rt, nox_ok, opt_some, optB_some, blR_bl, asS_tup, asS_lst, asSK_tup, asSK_lst, asL_lst, lenGs, List.length_cons, List.length_nil, Nat.reduceAdd, Nat.reduceLT, Nat.reduceLeDiff, if_true, line, Nat.reducePow, List.set_cons_succ, List.set_cons_zero, retR_false, retR_int, evC_int, evC_bl, evC_str, evC_lst, evC_tup, evC_non, evC_is, evC_isn, cmp_eq_str, cmp_ne_str, cmp_eq_int, cmp_ne_int, cmp_eq_is, cmp_eq_ns, str_eq, String.reduceEq, decide_true, decide_false, Bool.not_true, Bool.not_false, is_non, isn_non, is_tup, isn_tup, is_lst, isn_lst, is_str, isn_str, is_int, isn_int, List.map_cons, List.map_nil, Nat.sub_self, List.replicate, List.append_nil, bind_exc, fl_exc, fb_ex, fb_rt, Bool.and_self, cmp_lt_int, cmp_le_int, cmp_gt_int, cmp_ge_int, bin_add, List.cons_append, List.nil_append, Nat.reduceSub, nc0, nc1, nc2, nc3, nc4, nc5, nc6, nc7, nc8, nc9, Int.reduceEq, Int.reduceLT, Int.reduceLE, Int.reduceNe, Bool.false_eq_true, if_false, S_, t_boxes, at1, optI_int, optI_non, c, sb]
      · rw [h7]; unfold ir_law_s10; simp only [evSs, evS.eq_1, evS.eq_2, evS.eq_3, evS.eq_4, evS.eq_5, evS.eq_8, evS.eq_9, evS.eq_10, evS.eq_11, evS.eq_12, evS.eq_13, evS.eq_14, E_forr, E_whl, evE.eq_1, evE.eq_2, evE.eq_3, evE.eq_4, evE.eq_5, evE.eq_6, evE.eq_7, evE.eq_8, evE.eq_9, evE.eq_10, evE.eq_11, evE.eq_12, evE.eq_13, evE.eq_14, evE.eq_15, evE.eq_16, evE.eq_17, evE.eq_18, evE.eq_19, evE.eq_20, evE.eq_21, evE.eq_22, evE.eq_23, evE.eq_24, evE.eq_25, evE.eq_26, evE.eq_27, evE.eq_28, evE.eq_32, evE.eq_33, evE.eq_34, evE_comp, evEs, evG, evGs, evI, List.getElem?_cons_zero, List.getElem?_cons_succ, bind_ok, fl_ok, fb_nx, fb_rt, nox_ok, opt_some, optB_some, blR_bl, asS_tup, asS_lst, asSK_tup, asSK_lst, asL_lst, lenGs, List.length_cons, List.length_nil, Nat.reduceAdd, Nat.reduceLT, Nat.reduceLeDiff, if_true, line, Nat.reducePow, List.set_cons_succ, List.set_cons_zero, retR_false, retR_int, evC_int, evC_bl, evC_str, evC_lst, evC_tup, evC_non, evC_is, evC_isn, cmp_eq_str, cmp_ne_str, cmp_eq_int, cmp_ne_int, cmp_eq_is, cmp_eq_ns, str_eq, String.reduceEq, decide_true, decide_false, Bool.not_true, Bool.not_false, is_non, isn_non, is_tup, isn_tup, is_lst, isn_lst, is_str, isn_str, is_int, isn_int, List.map_cons, List.map_nil, Nat.sub_self, List.replicate, List.append_nil, bind_exc, fl_exc, fb_ex, fb_rt, Bool.and_self, cmp_lt_int, cmp_le_int, cmp_gt_int, cmp_ge_int, bin_add, List.cons_append, List.nil_append, Nat.reduceSub, nc0, nc1, nc2, nc3, nc4, nc5, nc6, nc7, nc8, nc9, Int.reduceEq, Int.reduceLT, Int.reduceLE, Int.reduceNe, Bool.false_eq_true, if_false, S_, t_boxes, lb, hlt']
      · rw [h7]; unfold ir_law_s9; simp only [evSs, evS.eq_1, evS.eq_2, evS.eq_3, evS.eq_4, evS.eq_5, evS.eq_8, evS.eq_9, evS.eq_10, evS.eq_11, evS.eq_12, evS.eq_13, evS.eq_14, E_forr, E_whl, evE.eq_1, evE.eq_2, evE.eq_3, evE.eq_4, evE.eq_5, evE.eq_6, evE.eq_7, evE.eq_8, evE.eq_9, evE.eq_10, evE.eq_11, evE.eq_12, evE.eq_13, evE.eq_14, evE.eq_15, evE.eq_16, evE.eq_17, evE.eq_18, evE.eq_19, evE.eq_20, evE.eq_21, evE.eq_22, evE.eq_23, evE.eq_24, evE.eq_25, evE.eq_26, evE.eq_27, evE.eq_28, evE.eq_32, evE.eq_33, evE.eq_34, evE_comp, evEs, evG, evGs, evI, List.getElem?_cons_zero, List.getElem?_cons_succ, bind_ok, fl_ok, fb_nx, fb_rt, nox_ok, opt_some, optB_some, blR_bl, asS_tup, asS_lst, asSK_tup, asSK_lst, asL_lst, lenGs, List.length_cons, List.length_nil, Nat.reduceAdd, Nat.reduceLT, Nat.reduceLeDiff, if_true, line, Nat.reducePow, List.set_cons_succ, List.set_cons_zero, retR_false, retR_int, evC_int, evC_bl, evC_str, evC_lst, evC_tup, evC_non, evC_is, evC_isn, cmp_eq_str, cmp_ne_str, cmp_eq_int, cmp_ne_int, cmp_eq_is, cmp_eq_ns, str_eq, String.reduceEq, decide_true, decide_false, Bool.not_true, Bool.not_false, is_non, isn_non, is_tup, isn_tup, is_lst, isn_lst, is_str, isn_str, is_int, isn_int, List.map_cons, List.map_nil, Nat.sub_self, List.replicate, List.append_nil, bind_exc, fl_exc, fb_ex, fb_rt, Bool.and_self, cmp_lt_int, cmp_le_int, cmp_gt_int, cmp_ge_int, bin_add, List.cons_append, List.nil_append, Nat.reduceSub, nc0, nc1, nc2, nc3, nc4, nc5, nc6, nc7, nc8, nc9, Int.reduceEq, Int.reduceLT, Int.reduceLE, Int.reduceNe, Bool.false_eq_true, if_false, S_, q1, q2, tb, tm, q3]
  obtain ⟨b1, due, hb1, q11, q10, q9⟩ := P
  have g7 : GS ns (ms ++ [LT.mk cs clr any ev tr bs]) (s6.set s4.length (uSO cs clr any (.int ev) (.str tr) b1)) := g6.set hN (bdS_u _ rfl rfl (bd_mono (Nat.zero_le _) hb1))
  have u7 := u6.set (.int ev) (.str tr) b1
  generalize s6.set s4.length (uSO cs clr any (.int ev) (.str tr) b1) = s7 at q11 q10 q9 g7 u7
  obtain ⟨r8, s8, f8, i8, i8', A8⟩ := pick_adv 11 g7.row (many := 4) (by decide) (by decide)
  obtain ⟨d8, hd8, j8⟩ := atPick (xs := boxL0 bs) i8 i8'
  have hd8' := List.all_eq_true.mp (boxL0_bd bs) d8 hd8
  have g8 := g7.adv A8
  have u8 := u7.adv hN0 A8
  have sb8 := u8.sB d8
  have u9 := u8.set (.int ev) (.str tr) d8
  have g9 : GS ns (ms ++ [LT.mk cs clr any ev tr bs]) (s8.set s4.length (uSO cs clr any (.int ev) (.str tr) d8)) := g8.set hN (bdS_u _ rfl rfl (bd_mono (Nat.zero_le _) hd8'))
  generalize s8.set s4.length (uSO cs clr any (.int ev) (.str tr) d8) = s9 at sb8 u9 g9
  have t9 := ltold_box 4 hc u9 (line_box0 5 s9 (clr := clr) (any := any) hc h0 h1 ht hd8' (boxL0_k hd8))
  obtain ⟨r10, s10, f10, i10, i10', A10⟩ := pick_adv 11 g9.row (many := 5) (by decide) (by decide)
  obtain ⟨d10, hd10, j10⟩ := atPick (xs := oddT) i10 i10'
  have hd10' := List.all_eq_true.mp oddT_bd d10 hd10
  have g10 := g9.adv A10
  have u10 := u9.adv hN0 A10
  have sb10 := u10.sT d10
  have u11 := u10.set (.int ev) d10 d8
  have g11 : GS ns (ms ++ [LT.mk cs clr any ev tr bs]) (s10.set s4.length (uSO cs clr any (.int ev) d10 d8)) := g10.set hN (bdS_u _ rfl (bd_mono (Nat.zero_le _) hd10') (bd_mono (Nat.zero_le _) hd8'))
  generalize s10.set s4.length (uSO cs clr any (.int ev) d10 d8) = s11 at sb10 u11 g11
  have t11 := ltold_trouble 4 hc u11 (line_trouble 5 s11 (clr := clr) (any := any) hc h0 h1 hd10 hd8')
  obtain ⟨r12, s12, f12, i12, i12', A12⟩ := pick_adv 11 g11.row (many := 5) (by decide) (by decide)
  obtain ⟨d12, hd12, j12⟩ := atPick (xs := oddE) i12 i12'
  have hd12' := List.all_eq_true.mp oddE_bd d12 hd12
  have g12 := g11.adv A12
  have u12 := u11.adv hN0 A12
  have sb12 := u12.sE d12
  have u13 := u12.set d12 d10 d8
  have g13 : GS ns (ms ++ [LT.mk cs clr any ev tr bs]) (s12.set s4.length (uSO cs clr any d12 d10 d8)) := g12.set hN (bdS_u _ (bd_mono (Nat.zero_le _) hd12') (bd_mono (Nat.zero_le _) hd10') (bd_mono (Nat.zero_le _) hd8'))
  generalize s12.set s4.length (uSO cs clr any d12 d10 d8) = s13 at sb12 u13 g13
  have t13 := ltold_every 4 hc u13 (line_every 5 s13 (clr := clr) (any := any) hc hd12 hd10' hd8')
  refine ⟨⟨cs, clr, any, ev, tr, bs⟩, some (tD cs clr any ev tr (bs.map bxD)), some (lineD cs clr any ev tr (bs.map bxD)), some (.ref s4.length), some bad, some due, s13, mO, g13, ?_⟩
  have q21 : S_ ir_law_s21 [v0, some (.ref 0), some (.ref 1), some x, v4, v5, v6, v7, v8, v9, v10] st = .nx [v0, some (.ref 0), some (.ref 1), some x, some (tD cs clr any ev tr (bs.map bxD)), v5, v6, v7, v8, v9, v10] s1 := by
    unfold ir_law_s21; simp only [evSs, evS.eq_1, evS.eq_2, evS.eq_3, evS.eq_4, evS.eq_5, evS.eq_8, evS.eq_9, evS.eq_10, evS.eq_11, evS.eq_12, evS.eq_13, evS.eq_14, E_forr, E_whl, evE.eq_1, evE.eq_2, evE.eq_3, evE.eq_4, evE.eq_5, evE.eq_6, evE.eq_7, evE.eq_8, evE.eq_9, evE.eq_10, evE.eq_11, evE.eq_12, evE.eq_13, evE.eq_14, evE.eq_15, evE.eq_16, evE.eq_17, evE.eq_18, evE.eq_19, evE.eq_20, evE.eq_21, evE.eq_22, evE.eq_23, evE.eq_24, evE.eq_25, evE.eq_26, evE.eq_27, evE.eq_28, evE.eq_32, evE.eq_33, evE.eq_34, evE_comp, evEs, evG, evGs, evI, List.getElem?_cons_zero, List.getElem?_cons_succ, bind_ok, fl_ok, fb_nx, fb_rt, nox_ok, opt_some, optB_some, blR_bl, asS_tup, asS_lst, asSK_tup, asSK_lst, asL_lst, lenGs, List.length_cons, List.length_nil, Nat.reduceAdd, Nat.reduceLT, Nat.reduceLeDiff, if_true, line, Nat.reducePow, List.set_cons_succ, List.set_cons_zero, retR_false, retR_int, evC_int, evC_bl, evC_str, evC_lst, evC_tup, evC_non, evC_is, evC_isn, cmp_eq_str, cmp_ne_str, cmp_eq_int, cmp_ne_int, cmp_eq_is, cmp_eq_ns, str_eq, String.reduceEq, decide_true, decide_false, Bool.not_true, Bool.not_false, is_non, isn_non, is_tup, isn_tup, is_lst, isn_lst, is_str, isn_str, is_int, isn_int, List.map_cons, List.map_nil, Nat.sub_self, List.replicate, List.append_nil, bind_exc, fl_exc, fb_ex, fb_rt, Bool.and_self, cmp_lt_int, cmp_le_int, cmp_gt_int, cmp_ge_int, bin_add, List.cons_append, List.nil_append, Nat.reduceSub, nc0, nc1, nc2, nc3, nc4, nc5, nc6, nc7, nc8, nc9, Int.reduceEq, Int.reduceLT, Int.reduceLE, Int.reduceNe, Bool.false_eq_true, if_false, S_, e1]
  have q20 : S_ ir_law_s20 [v0, some (.ref 0), some (.ref 1), some x, some (tD cs clr any ev tr (bs.map bxD)), v5, v6, v7, v8, v9, v10] s1 = .nx [v0, some (.ref 0), some (.ref 1), some x, some (tD cs clr any ev tr (bs.map bxD)), some (lineD cs clr any ev tr (bs.map bxD)), v6, v7, v8, v9, v10] s1 := by
    unfold ir_law_s20; simp only [evSs, evS.eq_1, evS.eq_2, evS.eq_3, evS.eq_4, evS.eq_5, evS.eq_8, evS.eq_9, evS.eq_10, evS.eq_11, evS.eq_12, evS.eq_13, evS.eq_14, E_forr, E_whl, evE.eq_1, evE.eq_2, evE.eq_3, evE.eq_4, evE.eq_5, evE.eq_6, evE.eq_7, evE.eq_8, evE.eq_9, evE.eq_10, evE.eq_11, evE.eq_12, evE.eq_13, evE.eq_14, evE.eq_15, evE.eq_16, evE.eq_17, evE.eq_18, evE.eq_19, evE.eq_20, evE.eq_21, evE.eq_22, evE.eq_23, evE.eq_24, evE.eq_25, evE.eq_26, evE.eq_27, evE.eq_28, evE.eq_32, evE.eq_33, evE.eq_34, evE_comp, evEs, evG, evGs, evI, List.getElem?_cons_zero, List.getElem?_cons_succ, bind_ok, fl_ok, fb_nx, fb_rt, nox_ok, opt_some, optB_some, blR_bl, asS_tup, asS_lst, asSK_tup, asSK_lst, asL_lst, lenGs, List.length_cons, List.length_nil, Nat.reduceAdd, Nat.reduceLT, Nat.reduceLeDiff, if_true, line, Nat.reducePow, List.set_cons_succ, List.set_cons_zero, retR_false, retR_int, evC_int, evC_bl, evC_str, evC_lst, evC_tup, evC_non, evC_is, evC_isn, cmp_eq_str, cmp_ne_str, cmp_eq_int, cmp_ne_int, cmp_eq_is, cmp_eq_ns, str_eq, String.reduceEq, decide_true, decide_false, Bool.not_true, Bool.not_false, is_non, isn_non, is_tup, isn_tup, is_lst, isn_lst, is_str, isn_str, is_int, isn_int, List.map_cons, List.map_nil, Nat.sub_self, List.replicate, List.append_nil, bind_exc, fl_exc, fb_ex, fb_rt, Bool.and_self, cmp_lt_int, cmp_le_int, cmp_gt_int, cmp_ge_int, bin_add, List.cons_append, List.nil_append, Nat.reduceSub, nc0, nc1, nc2, nc3, nc4, nc5, nc6, nc7, nc8, nc9, Int.reduceEq, Int.reduceLT, Int.reduceLE, Int.reduceNe, Bool.false_eq_true, if_false, S_, e2]
  have q19 : S_ ir_law_s19 [v0, some (.ref 0), some (.ref 1), some x, some (tD cs clr any ev tr (bs.map bxD)), some (lineD cs clr any ev tr (bs.map bxD)), v6, v7, v8, v9, v10] s1 = .nx [v0, some (.ref 0), some (.ref 1), some x, some (tD cs clr any ev tr (bs.map bxD)), some (lineD cs clr any ev tr (bs.map bxD)), v6, v7, v8, v9, v10] s1 := by
    unfold ir_law_s19; simp only [evSs, evS.eq_1, evS.eq_2, evS.eq_3, evS.eq_4, evS.eq_5, evS.eq_8, evS.eq_9, evS.eq_10, evS.eq_11, evS.eq_12, evS.eq_13, evS.eq_14, E_forr, E_whl, evE.eq_1, evE.eq_2, evE.eq_3, evE.eq_4, evE.eq_5, evE.eq_6, evE.eq_7, evE.eq_8, evE.eq_9, evE.eq_10, evE.eq_11, evE.eq_12, evE.eq_13, evE.eq_14, evE.eq_15, evE.eq_16, evE.eq_17, evE.eq_18, evE.eq_19, evE.eq_20, evE.eq_21, evE.eq_22, evE.eq_23, evE.eq_24, evE.eq_25, evE.eq_26, evE.eq_27, evE.eq_28, evE.eq_32, evE.eq_33, evE.eq_34, evE_comp, evEs, evG, evGs, evI, List.getElem?_cons_zero, List.getElem?_cons_succ, bind_ok, fl_ok, fb_nx, fb_rt, nox_ok, opt_some, optB_some, blR_bl, asS_tup, asS_lst, asSK_tup, asSK_lst, asL_lst, lenGs, List.length_cons, List.length_nil, Nat.reduceAdd, Nat.reduceLT, Nat.reduceLeDiff, if_true, line, Nat.reducePow, List.set_cons_succ, List.set_cons_zero, retR_false, retR_int, evC_int, evC_bl, evC_str, evC_lst, evC_tup, evC_non, evC_is, evC_isn, cmp_eq_str, cmp_ne_str, cmp_eq_int, cmp_ne_int, cmp_eq_is, cmp_eq_ns, str_eq, String.reduceEq, decide_true, decide_false, Bool.not_true, Bool.not_false, is_non, isn_non, is_tup, isn_tup, is_lst, isn_lst, is_str, isn_str, is_int, isn_int, List.map_cons, List.map_nil, Nat.sub_self, List.replicate, List.append_nil, bind_exc, fl_exc, fb_ex, fb_rt, Bool.and_self, cmp_lt_int, cmp_le_int, cmp_gt_int, cmp_ge_int, bin_add, List.cons_append, List.nil_append, Nat.reduceSub, nc0, nc1, nc2, nc3, nc4, nc5, nc6, nc7, nc8, nc9, Int.reduceEq, Int.reduceLT, Int.reduceLE, Int.reduceNe, Bool.false_eq_true, if_false, S_, p1, e3, n1, p4, t_boxes, n2]
  have q18 : S_ ir_law_s18 [v0, some (.ref 0), some (.ref 1), some x, some (tD cs clr any ev tr (bs.map bxD)), some (lineD cs clr any ev tr (bs.map bxD)), v6, v7, v8, v9, v10] s1 = .nx [v0, some (.ref 0), some (.ref 1), some x, some (tD cs clr any ev tr (bs.map bxD)), some (lineD cs clr any ev tr (bs.map bxD)), v6, v7, v8, v9, v10] s1 := by
    unfold ir_law_s18; simp only [evSs, evS.eq_1, evS.eq_2, evS.eq_3, evS.eq_4, evS.eq_5, evS.eq_8, evS.eq_9, evS.eq_10, evS.eq_11, evS.eq_12, evS.eq_13, evS.eq_14, E_forr, E_whl, evE.eq_1, evE.eq_2, evE.eq_3, evE.eq_4, evE.eq_5, evE.eq_6, evE.eq_7, evE.eq_8, evE.eq_9, evE.eq_10, evE.eq_11, evE.eq_12, evE.eq_13, evE.eq_14, evE.eq_15, evE.eq_16, evE.eq_17, evE.eq_18, evE.eq_19, evE.eq_20, evE.eq_21, evE.eq_22, evE.eq_23, evE.eq_24, evE.eq_25, evE.eq_26, evE.eq_27, evE.eq_28, evE.eq_32, evE.eq_33, evE.eq_34, evE_comp, evEs, evG, evGs, evI, List.getElem?_cons_zero, List.getElem?_cons_succ, bind_ok, fl_ok, fb_nx, fb_rt, nox_ok, opt_some, optB_some, blR_bl, asS_tup, asS_lst, asSK_tup, asSK_lst, asL_lst, lenGs, List.length_cons, List.length_nil, Nat.reduceAdd, Nat.reduceLT, Nat.reduceLeDiff, if_true, line, Nat.reducePow, List.set_cons_succ, List.set_cons_zero, retR_false, retR_int, evC_int, evC_bl, evC_str, evC_lst, evC_tup, evC_non, evC_is, evC_isn, cmp_eq_str, cmp_ne_str, cmp_eq_int, cmp_ne_int, cmp_eq_is, cmp_eq_ns, str_eq, String.reduceEq, decide_true, decide_false, Bool.not_true, Bool.not_false, is_non, isn_non, is_tup, isn_tup, is_lst, isn_lst, is_str, isn_str, is_int, isn_int, List.map_cons, List.map_nil, Nat.sub_self, List.replicate, List.append_nil, bind_exc, fl_exc, fb_ex, fb_rt, Bool.and_self, cmp_lt_int, cmp_le_int, cmp_gt_int, cmp_ge_int, bin_add, List.cons_append, List.nil_append, Nat.reduceSub, nc0, nc1, nc2, nc3, nc4, nc5, nc6, nc7, nc8, nc9, Int.reduceEq, Int.reduceLT, Int.reduceLE, Int.reduceNe, Bool.false_eq_true, if_false, S_, p2, p3, t_every, t_trouble, n3]
  have q17 : S_ ir_law_s17 [v0, some (.ref 0), some (.ref 1), some x, some (tD cs clr any ev tr (bs.map bxD)), some (lineD cs clr any ev tr (bs.map bxD)), v6, v7, v8, v9, v10] s1 = .nx [v0, some (.ref 0), some (.ref 1), some x, some (tD cs clr any ev tr (bs.map bxD)), some (lineD cs clr any ev tr (bs.map bxD)), v6, v7, v8, v9, v10] s2 := by
    unfold ir_law_s17; simp only [evSs, evS.eq_1, evS.eq_2, evS.eq_3, evS.eq_4, evS.eq_5, evS.eq_8, evS.eq_9, evS.eq_10, evS.eq_11, evS.eq_12, evS.eq_13, evS.eq_14, E_forr, E_whl, evE.eq_1, evE.eq_2, evE.eq_3, evE.eq_4, evE.eq_5, evE.eq_6, evE.eq_7, evE.eq_8, evE.eq_9, evE.eq_10, evE.eq_11, evE.eq_12, evE.eq_13, evE.eq_14, evE.eq_15, evE.eq_16, evE.eq_17, evE.eq_18, evE.eq_19, evE.eq_20, evE.eq_21, evE.eq_22, evE.eq_23, evE.eq_24, evE.eq_25, evE.eq_26, evE.eq_27, evE.eq_28, evE.eq_32, evE.eq_33, evE.eq_34, evE_comp, evEs, evG, evGs, evI, List.getElem?_cons_zero, List.getElem?_cons_succ, bind_ok, fl_ok, fb_nx, fb_rt, nox_ok, opt_some, optB_some, blR_bl, asS_tup, asS_lst, asSK_tup, asSK_lst, asL_lst, lenGs, List.length_cons, List.length_nil, Nat.reduceAdd, Nat.reduceLT, Nat.reduceLeDiff, if_true, line, Nat.reducePow, List.set_cons_succ, List.set_cons_zero, retR_false, retR_int, evC_int, evC_bl, evC_str, evC_lst, evC_tup, evC_non, evC_is, evC_isn, cmp_eq_str, cmp_ne_str, cmp_eq_int, cmp_ne_int, cmp_eq_is, cmp_eq_ns, str_eq, String.reduceEq, decide_true, decide_false, Bool.not_true, Bool.not_false, is_non, isn_non, is_tup, isn_tup, is_lst, isn_lst, is_str, isn_str, is_int, isn_int, List.map_cons, List.map_nil, Nat.sub_self, List.replicate, List.append_nil, bind_exc, fl_exc, fb_ex, fb_rt, Bool.and_self, cmp_lt_int, cmp_le_int, cmp_gt_int, cmp_ge_int, bin_add, List.cons_append, List.nil_append, Nat.reduceSub, nc0, nc1, nc2, nc3, nc4, nc5, nc6, nc7, nc8, nc9, Int.reduceEq, Int.reduceLT, Int.reduceLE, Int.reduceNe, Bool.false_eq_true, if_false, S_, e4, e5, n4, n5]
  have q16 : S_ ir_law_s16 [v0, some (.ref 0), some (.ref 1), some x, some (tD cs clr any ev tr (bs.map bxD)), some (lineD cs clr any ev tr (bs.map bxD)), v6, v7, v8, v9, v10] s2 = .nx [v0, some (.ref 0), some (.ref 1), some x, some (tD cs clr any ev tr (bs.map bxD)), some (lineD cs clr any ev tr (bs.map bxD)), v6, v7, v8, v9, v10] s3 := by
    unfold ir_law_s16; simp only [evSs, evS.eq_1, evS.eq_2, evS.eq_3, evS.eq_4, evS.eq_5, evS.eq_8, evS.eq_9, evS.eq_10, evS.eq_11, evS.eq_12, evS.eq_13, evS.eq_14, E_forr, E_whl, evE.eq_1, evE.eq_2, evE.eq_3, evE.eq_4, evE.eq_5, evE.eq_6, evE.eq_7, evE.eq_8, evE.eq_9, evE.eq_10, evE.eq_11, evE.eq_12, evE.eq_13, evE.eq_14, evE.eq_15, evE.eq_16, evE.eq_17, evE.eq_18, evE.eq_19, evE.eq_20, evE.eq_21, evE.eq_22, evE.eq_23, evE.eq_24, evE.eq_25, evE.eq_26, evE.eq_27, evE.eq_28, evE.eq_32, evE.eq_33, evE.eq_34, evE_comp, evEs, evG, evGs, evI, List.getElem?_cons_zero, List.getElem?_cons_succ, bind_ok, fl_ok, fb_nx, fb_rt, nox_ok, opt_some, optB_some, blR_bl, asS_tup, asS_lst, asSK_tup, asSK_lst, asL_lst, lenGs, List.length_cons, List.length_nil, Nat.reduceAdd, Nat.reduceLT, Nat.reduceLeDiff, if_true, line, Nat.reducePow, List.set_cons_succ, List.set_cons_zero, retR_false, retR_int, evC_int, evC_bl, evC_str, evC_lst, evC_tup, evC_non, evC_is, evC_isn, cmp_eq_str, cmp_ne_str, cmp_eq_int, cmp_ne_int, cmp_eq_is, cmp_eq_ns, str_eq, String.reduceEq, decide_true, decide_false, Bool.not_true, Bool.not_false, is_non, isn_non, is_tup, isn_tup, is_lst, isn_lst, is_str, isn_str, is_int, isn_int, List.map_cons, List.map_nil, Nat.sub_self, List.replicate, List.append_nil, bind_exc, fl_exc, fb_ex, fb_rt, Bool.and_self, cmp_lt_int, cmp_le_int, cmp_gt_int, cmp_ge_int, bin_add, List.cons_append, List.nil_append, Nat.reduceSub, nc0, nc1, nc2, nc3, nc4, nc5, nc6, nc7, nc8, nc9, Int.reduceEq, Int.reduceLT, Int.reduceLE, Int.reduceNe, Bool.false_eq_true, if_false, S_, e6, ty, ap]
  have q15 : S_ ir_law_s15 [v0, some (.ref 0), some (.ref 1), some x, some (tD cs clr any ev tr (bs.map bxD)), some (lineD cs clr any ev tr (bs.map bxD)), v6, v7, v8, v9, v10] s3 = .nx [v0, some (.ref 0), some (.ref 1), some x, some (tD cs clr any ev tr (bs.map bxD)), some (lineD cs clr any ev tr (bs.map bxD)), v6, v7, v8, v9, v10] s3 := by
    have a1 : asS s3 (.ref 1) = some (ms.map LT.pair) := by simp only [asS, asL, g3.bef]
    have n6 : ∀ st, cmpD st .ne (.lst []) (.lst []) = some false := fun st => ne_self (n := 1) rfl (by decide) st
    have e7 : loopR (depB (.ref 1) (ms.map LT.pair)) (compB (run_ 12) L.sub [9, 10] (.tup (.cons (.name 9) (.cons (.name 10) .nil))) ir_law_b1 ir_law_b2 [v0, some (.ref 0), some (.ref 1), some x, some (tD cs clr any ev tr (bs.map bxD)), some (lineD cs clr any ev tr (bs.map bxD)), v6, v7, v8, v9, v10]) (ms.map LT.pair) [] s3 = .ok [] s3 := e7
    unfold ir_law_s15; simp only [evSs, evS.eq_1, evS.eq_2, evS.eq_3, evS.eq_4, evS.eq_5, evS.eq_8, evS.eq_9, evS.eq_10, evS.eq_11, evS.eq_12, evS.eq_13, evS.eq_14, E_forr, E_whl, evE.eq_1, evE.eq_2, evE.eq_3, evE.eq_4, evE.eq_5, evE.eq_6, evE.eq_7, evE.eq_8, evE.eq_9, evE.eq_10, evE.eq_11, evE.eq_12, evE.eq_13, evE.eq_14, evE.eq_15, evE.eq_16, evE.eq_17, evE.eq_18, evE.eq_19, evE.eq_20, evE.eq_21, evE.eq_22, evE.eq_23, evE.eq_24, evE.eq_25, evE.eq_26, evE.eq_27, evE.eq_28, evE.eq_32, evE.eq_33, evE.eq_34, evE_comp, evEs, evG, evGs, evI, List.getElem?_cons_zero, List.getElem?_cons_succ, bind_ok, fl_ok, fb_nx, fb_rt, nox_ok, opt_some, optB_some, blR_bl, asS_tup, asS_lst, asSK_tup, asSK_lst, asL_lst, lenGs, List.length_cons, List.length_nil, Nat.reduceAdd, Nat.reduceLT, Nat.reduceLeDiff, if_true, line, Nat.reducePow, List.set_cons_succ, List.set_cons_zero, retR_false, retR_int, evC_int, evC_bl, evC_str, evC_lst, evC_tup, evC_non, evC_is, evC_isn, cmp_eq_str, cmp_ne_str, cmp_eq_int, cmp_ne_int, cmp_eq_is, cmp_eq_ns, str_eq, String.reduceEq, decide_true, decide_false, Bool.not_true, Bool.not_false, is_non, isn_non, is_tup, isn_tup, is_lst, isn_lst, is_str, isn_str, is_int, isn_int, List.map_cons, List.map_nil, Nat.sub_self, List.replicate, List.append_nil, bind_exc, fl_exc, fb_ex, fb_rt, Bool.and_self, cmp_lt_int, cmp_le_int, cmp_gt_int, cmp_ge_int, bin_add, List.cons_append, List.nil_append, Nat.reduceSub, nc0, nc1, nc2, nc3, nc4, nc5, nc6, nc7, nc8, nc9, Int.reduceEq, Int.reduceLT, Int.reduceLE, Int.reduceNe, Bool.false_eq_true, if_false, S_, a1, e7, n6, Nat.zero_le]
  have q14 : S_ ir_law_s14 [v0, some (.ref 0), some (.ref 1), some x, some (tD cs clr any ev tr (bs.map bxD)), some (lineD cs clr any ev tr (bs.map bxD)), v6, v7, v8, v9, v10] s3 = .nx [v0, some (.ref 0), some (.ref 1), some x, some (tD cs clr any ev tr (bs.map bxD)), some (lineD cs clr any ev tr (bs.map bxD)), v6, v7, v8, v9, v10] s4 := by
    unfold ir_law_s14; simp only [evSs, evS.eq_1, evS.eq_2, evS.eq_3, evS.eq_4, evS.eq_5, evS.eq_8, evS.eq_9, evS.eq_10, evS.eq_11, evS.eq_12, evS.eq_13, evS.eq_14, E_forr, E_whl, evE.eq_1, evE.eq_2, evE.eq_3, evE.eq_4, evE.eq_5, evE.eq_6, evE.eq_7, evE.eq_8, evE.eq_9, evE.eq_10, evE.eq_11, evE.eq_12, evE.eq_13, evE.eq_14, evE.eq_15, evE.eq_16, evE.eq_17, evE.eq_18, evE.eq_19, evE.eq_20, evE.eq_21, evE.eq_22, evE.eq_23, evE.eq_24, evE.eq_25, evE.eq_26, evE.eq_27, evE.eq_28, evE.eq_32, evE.eq_33, evE.eq_34, evE_comp, evEs, evG, evGs, evI, List.getElem?_cons_zero, List.getElem?_cons_succ, bind_ok, fl_ok, fb_nx, fb_rt, nox_ok, opt_some, optB_some, blR_bl, asS_tup, asS_lst, asSK_tup, asSK_lst, asL_lst, lenGs, List.length_cons, List.length_nil, Nat.reduceAdd, Nat.reduceLT, Nat.reduceLeDiff, if_true, line, Nat.reducePow, List.set_cons_succ, List.set_cons_zero, retR_false, retR_int, evC_int, evC_bl, evC_str, evC_lst, evC_tup, evC_non, evC_is, evC_isn, cmp_eq_str, cmp_ne_str, cmp_eq_int, cmp_ne_int, cmp_eq_is, cmp_eq_ns, str_eq, String.reduceEq, decide_true, decide_false, Bool.not_true, Bool.not_false, is_non, isn_non, is_tup, isn_tup, is_lst, isn_lst, is_str, isn_str, is_int, isn_int, List.map_cons, List.map_nil, Nat.sub_self, List.replicate, List.append_nil, bind_exc, fl_exc, fb_ex, fb_rt, Bool.and_self, cmp_lt_int, cmp_le_int, cmp_gt_int, cmp_ge_int, bin_add, List.cons_append, List.nil_append, Nat.reduceSub, nc0, nc1, nc2, nc3, nc4, nc5, nc6, nc7, nc8, nc9, Int.reduceEq, Int.reduceLT, Int.reduceLE, Int.reduceNe, Bool.false_eq_true, if_false, S_, ty2, dt, ap2]
  have q13 : S_ ir_law_s13 [v0, some (.ref 0), some (.ref 1), some x, some (tD cs clr any ev tr (bs.map bxD)), some (lineD cs clr any ev tr (bs.map bxD)), v6, v7, v8, v9, v10] s4 = .nx [v0, some (.ref 0), some (.ref 1), some x, some (tD cs clr any ev tr (bs.map bxD)), some (lineD cs clr any ev tr (bs.map bxD)), some (.ref s4.length), v7, v8, v9, v10] s5 := by
    have rt : retR true (tD cs clr any ev tr (bs.map bxD)) s4 = .ok (.ref s4.length) s5 := by rw [← hs5]; rfl
    unfold ir_law_s13; simp only [evSs, evS.eq_1, evS.eq_2, evS.eq_3, evS.eq_4, evS.eq_5, evS.eq_8, evS.eq_9, evS.eq_10, evS.eq_11, evS.eq_12, evS.eq_13, evS.eq_14, E_forr, E_whl, evE.eq_1, evE.eq_2, evE.eq_3, evE.eq_4, evE.eq_5, evE.eq_6, evE.eq_7, evE.eq_8, evE.eq_9, evE.eq_10, evE.eq_11, evE.eq_12, evE.eq_13, evE.eq_14, evE.eq_15, evE.eq_16, evE.eq_17, evE.eq_18, evE.eq_19, evE.eq_20, evE.eq_21, evE.eq_22, evE.eq_23, evE.eq_24, evE.eq_25, evE.eq_26, evE.eq_27, evE.eq_28, evE.eq_32, evE.eq_33, evE.eq_34, evE_comp, evEs, evG, evGs, evI, List.getElem?_cons_zero, List.getElem?_cons_succ, bind_ok, fl_ok, fb_nx, fb_rt, nox_ok, opt_some, optB_some, blR_bl, asS_tup, asS_lst, asSK_tup, asSK_lst, asL_lst, lenGs, List.length_cons, List.length_nil, Nat.reduceAdd, Nat.reduceLT, Nat.reduceLeDiff, if_true, line, Nat.reducePow, List.set_cons_succ, List.set_cons_zero, retR_false, retR_int, evC_int, evC_bl, evC_str, evC_lst, evC_tup, evC_non, evC_is, evC_isn, cmp_eq_str, cmp_ne_str, cmp_eq_int, cmp_ne_int, cmp_eq_is, cmp_eq_ns, str_eq, String.reduceEq, decide_true, decide_false, Bool.not_true, Bool.not_false, is_non, isn_non, is_tup, isn_tup, is_lst, isn_lst, is_str, isn_str, is_int, isn_int, List.map_cons, List.map_nil, Nat.sub_self, List.replicate, List.append_nil, bind_exc, fl_exc, fb_ex, fb_rt, Bool.and_self, cmp_lt_int, cmp_le_int, cmp_gt_int, cmp_ge_int, bin_add, List.cons_append, List.nil_append, Nat.reduceSub, nc0, nc1, nc2, nc3, nc4, nc5, nc6, nc7, nc8, nc9, Int.reduceEq, Int.reduceLT, Int.reduceLE, Int.reduceNe, Bool.false_eq_true, if_false, S_, dt, rt]
  have q12 : S_ ir_law_s12 [v0, some (.ref 0), some (.ref 1), some x, some (tD cs clr any ev tr (bs.map bxD)), some (lineD cs clr any ev tr (bs.map bxD)), some (.ref s4.length), v7, v8, v9, v10] s5 = .nx [v0, some (.ref 0), some (.ref 1), some x, some (tD cs clr any ev tr (bs.map bxD)), some (lineD cs clr any ev tr (bs.map bxD)), some (.ref s4.length), some bad, v8, v9, v10] s6 := by
    unfold oddX at j6
    unfold ir_law_s12; simp only [evSs, evS.eq_1, evS.eq_2, evS.eq_3, evS.eq_4, evS.eq_5, evS.eq_8, evS.eq_9, evS.eq_10, evS.eq_11, evS.eq_12, evS.eq_13, evS.eq_14, E_forr, E_whl, evE.eq_1, evE.eq_2, evE.eq_3, evE.eq_4, evE.eq_5, evE.eq_6, evE.eq_7, evE.eq_8, evE.eq_9, evE.eq_10, evE.eq_11, evE.eq_12, evE.eq_13, evE.eq_14, evE.eq_15, evE.eq_16, evE.eq_17, evE.eq_18, evE.eq_19, evE.eq_20, evE.eq_21, evE.eq_22, evE.eq_23, evE.eq_24, evE.eq_25, evE.eq_26, evE.eq_27, evE.eq_28, evE.eq_32, evE.eq_33, evE.eq_34, evE_comp, evEs, evG, evGs, evI, List.getElem?_cons_zero, List.getElem?_cons_succ, bind_ok, fl_ok, fb_nx, fb_rt, nox_ok, opt_some, optB_some, blR_bl, asS_tup, asS_lst, asSK_tup, asSK_lst, asL_lst, lenGs, List.length_cons, List.length_nil, Nat.reduceAdd, Nat.reduceLT, Nat.reduceLeDiff, if_true, line, Nat.reducePow, List.set_cons_succ, List.set_cons_zero, retR_false, retR_int, evC_int, evC_bl, evC_str, evC_lst, evC_tup, evC_non, evC_is, evC_isn, cmp_eq_str, cmp_ne_str, cmp_eq_int, cmp_ne_int, cmp_eq_is, cmp_eq_ns, str_eq, String.reduceEq, decide_true, decide_false, Bool.not_true, Bool.not_false, is_non, isn_non, is_tup, isn_tup, is_lst, isn_lst, is_str, isn_str, is_int, isn_int, List.map_cons, List.map_nil, Nat.sub_self, List.replicate, List.append_nil, bind_exc, fl_exc, fb_ex, fb_rt, Bool.and_self, cmp_lt_int, cmp_le_int, cmp_gt_int, cmp_ge_int, bin_add, List.cons_append, List.nil_append, Nat.reduceSub, nc0, nc1, nc2, nc3, nc4, nc5, nc6, nc7, nc8, nc9, Int.reduceEq, Int.reduceLT, Int.reduceLE, Int.reduceNe, Bool.false_eq_true, if_false, S_, f6, j6]
  have q8 : S_ ir_law_s8 [v0, some (.ref 0), some (.ref 1), some x, some (tD cs clr any ev tr (bs.map bxD)), some (lineD cs clr any ev tr (bs.map bxD)), some (.ref s4.length), some bad, some due, v9, v10] s7 = .nx [v0, some (.ref 0), some (.ref 1), some x, some (tD cs clr any ev tr (bs.map bxD)), some (lineD cs clr any ev tr (bs.map bxD)), some (.ref s4.length), some bad, some due, v9, v10] s9 := by
    have m4 : ∀ st, binD st .mul (.tup [.tup [.str "thin"]]) (.int 4) = some (.tup [.tup [.str "thin"], .tup [.str "thin"], .tup [.str "thin"], .tup [.str "thin"]]) := fun _ => rfl
    have li : ∀ st, biD st .list [.tup (bs.map bxD)] = some (.lst (bs.map bxD)) := fun _ => rfl
    unfold boxL0 at j8
    unfold ir_law_s8; simp only [evSs, evS.eq_1, evS.eq_2, evS.eq_3, evS.eq_4, evS.eq_5, evS.eq_8, evS.eq_9, evS.eq_10, evS.eq_11, evS.eq_12, evS.eq_13, evS.eq_14, E_forr, E_whl, evE.eq_1, evE.eq_2, evE.eq_3, evE.eq_4, evE.eq_5, evE.eq_6, evE.eq_7, evE.eq_8, evE.eq_9, evE.eq_10, evE.eq_11, evE.eq_12, evE.eq_13, evE.eq_14, evE.eq_15, evE.eq_16, evE.eq_17, evE.eq_18, evE.eq_19, evE.eq_20, evE.eq_21, evE.eq_22, evE.eq_23, evE.eq_24, evE.eq_25, evE.eq_26, evE.eq_27, evE.eq_28, evE.eq_32, evE.eq_33, evE.eq_34, evE_comp, evEs, evG, evGs, evI, List.getElem?_cons_zero, List.getElem?_cons_succ, bind_ok, fl_ok, fb_nx, fb_rt, nox_ok, opt_some, optB_some, blR_bl, asS_tup, asS_lst, asSK_tup, asSK_lst, asL_lst, lenGs, List.length_cons, List.length_nil, Nat.reduceAdd, Nat.reduceLT, Nat.reduceLeDiff, if_true, line, Nat.reducePow, List.set_cons_succ, List.set_cons_zero, retR_false, retR_int, evC_int, evC_bl, evC_str, evC_lst, evC_tup, evC_non, evC_is, evC_isn, cmp_eq_str, cmp_ne_str, cmp_eq_int, cmp_ne_int, cmp_eq_is, cmp_eq_ns, str_eq, String.reduceEq, decide_true, decide_false, Bool.not_true, Bool.not_false, is_non, isn_non, is_tup, isn_tup, is_lst, isn_lst, is_str, isn_str, is_int, isn_int, List.map_cons, List.map_nil, Nat.sub_self, List.replicate, List.append_nil, bind_exc, fl_exc, fb_ex, fb_rt, Bool.and_self, cmp_lt_int, cmp_le_int, cmp_gt_int, cmp_ge_int, bin_add, List.cons_append, List.nil_append, Nat.reduceSub, nc0, nc1, nc2, nc3, nc4, nc5, nc6, nc7, nc8, nc9, Int.reduceEq, Int.reduceLT, Int.reduceLE, Int.reduceNe, Bool.false_eq_true, if_false, S_, t_boxes, li, m4, f8, j8, sb8]
  have q7 : S_ ir_law_s7 [v0, some (.ref 0), some (.ref 1), some x, some (tD cs clr any ev tr (bs.map bxD)), some (lineD cs clr any ev tr (bs.map bxD)), some (.ref s4.length), some bad, some due, v9, v10] s9 = .nx [v0, some (.ref 0), some (.ref 1), some x, some (tD cs clr any ev tr (bs.map bxD)), some (lineD cs clr any ev tr (bs.map bxD)), some (.ref s4.length), some bad, some due, v9, v10] s9 := by
    have n7 : ∀ st, cmpD st .ne (.lst [.str "box", .non]) (.lst [.str "box", .non]) = some false := fun st => ne_self (n := 1) rfl (by decide) st
    unfold ir_law_s7; simp only [evSs, evS.eq_1, evS.eq_2, evS.eq_3, evS.eq_4, evS.eq_5, evS.eq_8, evS.eq_9, evS.eq_10, evS.eq_11, evS.eq_12, evS.eq_13, evS.eq_14, E_forr, E_whl, evE.eq_1, evE.eq_2, evE.eq_3, evE.eq_4, evE.eq_5, evE.eq_6, evE.eq_7, evE.eq_8, evE.eq_9, evE.eq_10, evE.eq_11, evE.eq_12, evE.eq_13, evE.eq_14, evE.eq_15, evE.eq_16, evE.eq_17, evE.eq_18, evE.eq_19, evE.eq_20, evE.eq_21, evE.eq_22, evE.eq_23, evE.eq_24, evE.eq_25, evE.eq_26, evE.eq_27, evE.eq_28, evE.eq_32, evE.eq_33, evE.eq_34, evE_comp, evEs, evG, evGs, evI, List.getElem?_cons_zero, List.getElem?_cons_succ, bind_ok, fl_ok, fb_nx, fb_rt, nox_ok, opt_some, optB_some, blR_bl, asS_tup, asS_lst, asSK_tup, asSK_lst, asL_lst, lenGs, List.length_cons, List.length_nil, Nat.reduceAdd, Nat.reduceLT, Nat.reduceLeDiff, if_true, line, Nat.reducePow, List.set_cons_succ, List.set_cons_zero, retR_false, retR_int, evC_int, evC_bl, evC_str, evC_lst, evC_tup, evC_non, evC_is, evC_isn, cmp_eq_str, cmp_ne_str, cmp_eq_int, cmp_ne_int, cmp_eq_is, cmp_eq_ns, str_eq, String.reduceEq, decide_true, decide_false, Bool.not_true, Bool.not_false, is_non, isn_non, is_tup, isn_tup, is_lst, isn_lst, is_str, isn_str, is_int, isn_int, List.map_cons, List.map_nil, Nat.sub_self, List.replicate, List.append_nil, bind_exc, fl_exc, fb_ex, fb_rt, Bool.and_self, cmp_lt_int, cmp_le_int, cmp_gt_int, cmp_ge_int, bin_add, List.cons_append, List.nil_append, Nat.reduceSub, nc0, nc1, nc2, nc3, nc4, nc5, nc6, nc7, nc8, nc9, Int.reduceEq, Int.reduceLT, Int.reduceLE, Int.reduceNe, Bool.false_eq_true, if_false, S_, t9, n7]
  have q6 : S_ ir_law_s6 [v0, some (.ref 0), some (.ref 1), some x, some (tD cs clr any ev tr (bs.map bxD)), some (lineD cs clr any ev tr (bs.map bxD)), some (.ref s4.length), some bad, some due, v9, v10] s9 = .nx [v0, some (.ref 0), some (.ref 1), some x, some (tD cs clr any ev tr (bs.map bxD)), some (lineD cs clr any ev tr (bs.map bxD)), some (.ref s4.length), some bad, some due, v9, v10] s11 := by
    unfold oddT at j10
    unfold ir_law_s6; simp only [evSs, evS.eq_1, evS.eq_2, evS.eq_3, evS.eq_4, evS.eq_5, evS.eq_8, evS.eq_9, evS.eq_10, evS.eq_11, evS.eq_12, evS.eq_13, evS.eq_14, E_forr, E_whl, evE.eq_1, evE.eq_2, evE.eq_3, evE.eq_4, evE.eq_5, evE.eq_6, evE.eq_7, evE.eq_8, evE.eq_9, evE.eq_10, evE.eq_11, evE.eq_12, evE.eq_13, evE.eq_14, evE.eq_15, evE.eq_16, evE.eq_17, evE.eq_18, evE.eq_19, evE.eq_20, evE.eq_21, evE.eq_22, evE.eq_23, evE.eq_24, evE.eq_25, evE.eq_26, evE.eq_27, evE.eq_28, evE.eq_32, evE.eq_33, evE.eq_34, evE_comp, evEs, evG, evGs, evI, List.getElem?_cons_zero, List.getElem?_cons_succ, bind_ok, fl_ok, fb_nx, fb_rt, nox_ok, opt_some, optB_some, blR_bl, asS_tup, asS_lst, asSK_tup, asSK_lst, asL_lst, lenGs, List.length_cons, List.length_nil, Nat.reduceAdd, Nat.reduceLT, Nat.reduceLeDiff, if_true, line, Nat.reducePow, List.set_cons_succ, List.set_cons_zero, retR_false, retR_int, evC_int, evC_bl, evC_str, evC_lst, evC_tup, evC_non, evC_is, evC_isn, cmp_eq_str, cmp_ne_str, cmp_eq_int, cmp_ne_int, cmp_eq_is, cmp_eq_ns, str_eq, String.reduceEq, decide_true, decide_false, Bool.not_true, Bool.not_false, is_non, isn_non, is_tup, isn_tup, is_lst, isn_lst, is_str, isn_str, is_int, isn_int, List.map_cons, List.map_nil, Nat.sub_self, List.replicate, List.append_nil, bind_exc, fl_exc, fb_ex, fb_rt, Bool.and_self, cmp_lt_int, cmp_le_int, cmp_gt_int, cmp_ge_int, bin_add, List.cons_append, List.nil_append, Nat.reduceSub, nc0, nc1, nc2, nc3, nc4, nc5, nc6, nc7, nc8, nc9, Int.reduceEq, Int.reduceLT, Int.reduceLE, Int.reduceNe, Bool.false_eq_true, if_false, S_, f10, j10, sb10]
  have q5 : S_ ir_law_s5 [v0, some (.ref 0), some (.ref 1), some x, some (tD cs clr any ev tr (bs.map bxD)), some (lineD cs clr any ev tr (bs.map bxD)), some (.ref s4.length), some bad, some due, v9, v10] s11 = .nx [v0, some (.ref 0), some (.ref 1), some x, some (tD cs clr any ev tr (bs.map bxD)), some (lineD cs clr any ev tr (bs.map bxD)), some (.ref s4.length), some bad, some due, v9, v10] s11 := by
    unfold ir_law_s5; simp only [evSs, evS.eq_1, evS.eq_2, evS.eq_3, evS.eq_4, evS.eq_5, evS.eq_8, evS.eq_9, evS.eq_10, evS.eq_11, evS.eq_12, evS.eq_13, evS.eq_14, E_forr, E_whl, evE.eq_1, evE.eq_2, evE.eq_3, evE.eq_4, evE.eq_5, evE.eq_6, evE.eq_7, evE.eq_8, evE.eq_9, evE.eq_10, evE.eq_11, evE.eq_12, evE.eq_13, evE.eq_14, evE.eq_15, evE.eq_16, evE.eq_17, evE.eq_18, evE.eq_19, evE.eq_20, evE.eq_21, evE.eq_22, evE.eq_23, evE.eq_24, evE.eq_25, evE.eq_26, evE.eq_27, evE.eq_28, evE.eq_32, evE.eq_33, evE.eq_34, evE_comp, evEs, evG, evGs, evI, List.getElem?_cons_zero, List.getElem?_cons_succ, bind_ok, fl_ok, fb_nx, fb_rt, nox_ok, opt_some, optB_some, blR_bl, asS_tup, asS_lst, asSK_tup, asSK_lst, asL_lst, lenGs, List.length_cons, List.length_nil, Nat.reduceAdd, Nat.reduceLT, Nat.reduceLeDiff, if_true, line, Nat.reducePow, List.set_cons_succ, List.set_cons_zero, retR_false, retR_int, evC_int, evC_bl, evC_str, evC_lst, evC_tup, evC_non, evC_is, evC_isn, cmp_eq_str, cmp_ne_str, cmp_eq_int, cmp_ne_int, cmp_eq_is, cmp_eq_ns, str_eq, String.reduceEq, decide_true, decide_false, Bool.not_true, Bool.not_false, is_non, isn_non, is_tup, isn_tup, is_lst, isn_lst, is_str, isn_str, is_int, isn_int, List.map_cons, List.map_nil, Nat.sub_self, List.replicate, List.append_nil, bind_exc, fl_exc, fb_ex, fb_rt, Bool.and_self, cmp_lt_int, cmp_le_int, cmp_gt_int, cmp_ge_int, bin_add, List.cons_append, List.nil_append, Nat.reduceSub, nc0, nc1, nc2, nc3, nc4, nc5, nc6, nc7, nc8, nc9, Int.reduceEq, Int.reduceLT, Int.reduceLE, Int.reduceNe, Bool.false_eq_true, if_false, S_, t11]
  have q4 : S_ ir_law_s4 [v0, some (.ref 0), some (.ref 1), some x, some (tD cs clr any ev tr (bs.map bxD)), some (lineD cs clr any ev tr (bs.map bxD)), some (.ref s4.length), some bad, some due, v9, v10] s11 = .nx [v0, some (.ref 0), some (.ref 1), some x, some (tD cs clr any ev tr (bs.map bxD)), some (lineD cs clr any ev tr (bs.map bxD)), some (.ref s4.length), some bad, some due, v9, v10] s13 := by
    unfold oddE at j12
    unfold ir_law_s4; simp only [evSs, evS.eq_1, evS.eq_2, evS.eq_3, evS.eq_4, evS.eq_5, evS.eq_8, evS.eq_9, evS.eq_10, evS.eq_11, evS.eq_12, evS.eq_13, evS.eq_14, E_forr, E_whl, evE.eq_1, evE.eq_2, evE.eq_3, evE.eq_4, evE.eq_5, evE.eq_6, evE.eq_7, evE.eq_8, evE.eq_9, evE.eq_10, evE.eq_11, evE.eq_12, evE.eq_13, evE.eq_14, evE.eq_15, evE.eq_16, evE.eq_17, evE.eq_18, evE.eq_19, evE.eq_20, evE.eq_21, evE.eq_22, evE.eq_23, evE.eq_24, evE.eq_25, evE.eq_26, evE.eq_27, evE.eq_28, evE.eq_32, evE.eq_33, evE.eq_34, evE_comp, evEs, evG, evGs, evI, List.getElem?_cons_zero, List.getElem?_cons_succ, bind_ok, fl_ok, fb_nx, fb_rt, nox_ok, opt_some, optB_some, blR_bl, asS_tup, asS_lst, asSK_tup, asSK_lst, asL_lst, lenGs, List.length_cons, List.length_nil, Nat.reduceAdd, Nat.reduceLT, Nat.reduceLeDiff, if_true, line, Nat.reducePow, List.set_cons_succ, List.set_cons_zero, retR_false, retR_int, evC_int, evC_bl, evC_str, evC_lst, evC_tup, evC_non, evC_is, evC_isn, cmp_eq_str, cmp_ne_str, cmp_eq_int, cmp_ne_int, cmp_eq_is, cmp_eq_ns, str_eq, String.reduceEq, decide_true, decide_false, Bool.not_true, Bool.not_false, is_non, isn_non, is_tup, isn_tup, is_lst, isn_lst, is_str, isn_str, is_int, isn_int, List.map_cons, List.map_nil, Nat.sub_self, List.replicate, List.append_nil, bind_exc, fl_exc, fb_ex, fb_rt, Bool.and_self, cmp_lt_int, cmp_le_int, cmp_gt_int, cmp_ge_int, bin_add, List.cons_append, List.nil_append, Nat.reduceSub, nc0, nc1, nc2, nc3, nc4, nc5, nc6, nc7, nc8, nc9, Int.reduceEq, Int.reduceLT, Int.reduceLE, Int.reduceNe, Bool.false_eq_true, if_false, S_, Int.reduceNeg, f12, j12, sb12]
  have q3 : S_ ir_law_s3 [v0, some (.ref 0), some (.ref 1), some x, some (tD cs clr any ev tr (bs.map bxD)), some (lineD cs clr any ev tr (bs.map bxD)), some (.ref s4.length), some bad, some due, v9, v10] s13 = .nx [v0, some (.ref 0), some (.ref 1), some x, some (tD cs clr any ev tr (bs.map bxD)), some (lineD cs clr any ev tr (bs.map bxD)), some (.ref s4.length), some bad, some due, v9, v10] s13 := by
    unfold ir_law_s3; simp only [evSs, evS.eq_1, evS.eq_2, evS.eq_3, evS.eq_4, evS.eq_5, evS.eq_8, evS.eq_9, evS.eq_10, evS.eq_11, evS.eq_12, evS.eq_13, evS.eq_14, E_forr, E_whl, evE.eq_1, evE.eq_2, evE.eq_3, evE.eq_4, evE.eq_5, evE.eq_6, evE.eq_7, evE.eq_8, evE.eq_9, evE.eq_10, evE.eq_11, evE.eq_12, evE.eq_13, evE.eq_14, evE.eq_15, evE.eq_16, evE.eq_17, evE.eq_18, evE.eq_19, evE.eq_20, evE.eq_21, evE.eq_22, evE.eq_23, evE.eq_24, evE.eq_25, evE.eq_26, evE.eq_27, evE.eq_28, evE.eq_32, evE.eq_33, evE.eq_34, evE_comp, evEs, evG, evGs, evI, List.getElem?_cons_zero, List.getElem?_cons_succ, bind_ok, fl_ok, fb_nx, fb_rt, nox_ok, opt_some, optB_some, blR_bl, asS_tup, asS_lst, asSK_tup, asSK_lst, asL_lst, lenGs, List.length_cons, List.length_nil, Nat.reduceAdd, Nat.reduceLT, Nat.reduceLeDiff, if_true, line, Nat.reducePow, List.set_cons_succ, List.set_cons_zero, retR_false, retR_int, evC_int, evC_bl, evC_str, evC_lst, evC_tup, evC_non, evC_is, evC_isn, cmp_eq_str, cmp_ne_str, cmp_eq_int, cmp_ne_int, cmp_eq_is, cmp_eq_ns, str_eq, String.reduceEq, decide_true, decide_false, Bool.not_true, Bool.not_false, is_non, isn_non, is_tup, isn_tup, is_lst, isn_lst, is_str, isn_str, is_int, isn_int, List.map_cons, List.map_nil, Nat.sub_self, List.replicate, List.append_nil, bind_exc, fl_exc, fb_ex, fb_rt, Bool.and_self, cmp_lt_int, cmp_le_int, cmp_gt_int, cmp_ge_int, bin_add, List.cons_append, List.nil_append, Nat.reduceSub, nc0, nc1, nc2, nc3, nc4, nc5, nc6, nc7, nc8, nc9, Int.reduceEq, Int.reduceLT, Int.reduceLE, Int.reduceNe, Bool.false_eq_true, if_false, S_, t13]
  have eg : evG (run_ 12) L.sub (.name 3) x [v0, some (.ref 0), some (.ref 1), v3, v4, v5, v6, v7, v8, v9, v10] st = .ok [v0, some (.ref 0), some (.ref 1), some x, v4, v5, v6, v7, v8, v9, v10] st := by simp only [evSs, evS.eq_1, evS.eq_2, evS.eq_3, evS.eq_4, evS.eq_5, evS.eq_8, evS.eq_9, evS.eq_10, evS.eq_11, evS.eq_12, evS.eq_13, evS.eq_14, E_forr, E_whl, evE.eq_1, evE.eq_2, evE.eq_3, evE.eq_4, evE.eq_5, evE.eq_6, evE.eq_7, evE.eq_8, evE.eq_9, evE.eq_10, evE.eq_11, evE.eq_12, evE.eq_13, evE.eq_14, evE.eq_15, evE.eq_16, evE.eq_17, evE.eq_18, evE.eq_19, evE.eq_20, evE.eq_21, evE.eq_22, evE.eq_23, evE.eq_24, evE.eq_25, evE.eq_26, evE.eq_27, evE.eq_28, evE.eq_32, evE.eq_33, evE.eq_34, evE_comp, evEs, evG, evGs, evI, List.getElem?_cons_zero, List.getElem?_cons_succ, bind_ok, fl_ok, fb_nx, fb_rt, nox_ok, opt_some, optB_some, blR_bl, asS_tup, asS_lst, asSK_tup, asSK_lst, asL_lst, lenGs, List.length_cons, List.length_nil, Nat.reduceAdd, Nat.reduceLT, Nat.reduceLeDiff, if_true, line, Nat.reducePow, List.set_cons_succ, List.set_cons_zero, retR_false, retR_int, evC_int, evC_bl, evC_str, evC_lst, evC_tup, evC_non, evC_is, evC_isn, cmp_eq_str, cmp_ne_str, cmp_eq_int, cmp_ne_int, cmp_eq_is, cmp_eq_ns, str_eq, String.reduceEq, decide_true, decide_false, Bool.not_true, Bool.not_false, is_non, isn_non, is_tup, isn_tup, is_lst, isn_lst, is_str, isn_str, is_int, isn_int, List.map_cons, List.map_nil, Nat.sub_self, List.replicate, List.append_nil, bind_exc, fl_exc, fb_ex, fb_rt, Bool.and_self, cmp_lt_int, cmp_le_int, cmp_gt_int, cmp_ge_int, bin_add, List.cons_append, List.nil_append, Nat.reduceSub, nc0, nc1, nc2, nc3, nc4, nc5, nc6, nc7, nc8, nc9, Int.reduceEq, Int.reduceLT, Int.reduceLE, Int.reduceNe, Bool.false_eq_true, if_false, ]
  unfold loopB
  rw [eg, nox_ok, fl_ok]
  unfold ir_law_b22
  refine (evSs_nx q21).trans ((evSs_nx q20).trans ((evSs_nx q19).trans ((evSs_nx q18).trans ((evSs_nx q17).trans ?_))))
  refine (evSs_nx q16).trans ((evSs_nx q15).trans ((evSs_nx q14).trans ((evSs_nx q13).trans ((evSs_nx q12).trans ?_))))
  refine (evSs_nx q11).trans ((evSs_nx q10).trans ((evSs_nx q9).trans ((evSs_nx q8).trans ((evSs_nx q7).trans ?_))))
  refine (evSs_nx q6).trans ((evSs_nx q5).trans ((evSs_nx q4).trans ((evSs_nx q3).trans ?_)))
  exact evSs_nil
theorem T_law : L.T "law" = some (.fn none 1 11 false ir_law) := by rfl
theorem main (ns : List Int) (h : ns.length ≤ 63) : ∃ n s, evF L.T L.sub L.efs L.wf n ("law" : Str) [.scr ns] [] = .ok (.bl true) s := by
  refine ⟨13, [], ?_⟩
  have hR0 : RowAt 0 ns [rowO ns 0 0 7] := ⟨0, 0, 7, rfl, by decide, by decide⟩
  have hG0 : GS ns [] [rowO ns 0 0 7, .lst []] := ⟨hR0.app [.lst []], rfl, by rw [List.all_cons, row_bdS]; rfl⟩
  have hrl : (rngD 0 6).length = 6 := by rfl
  obtain ⟨e', s', el, ms, v3, v4, v5, v6, v7, v8, hms, hml, hG, rfl⟩ := loop_pre (dep := fun _ => true) (body := loopB (run_ 12) L.sub L.efs L.wf (.name 3) ir_law_b22) id
    (fun p e s => ∃ (ms : List LT) (v3 v4 v5 v6 v7 v8 : Option Mini.D), (∀ m ∈ ms, m.Ok) ∧ ms.length = p.length ∧ GS ns ms s ∧ e = [some (.scr ns), some (.ref 0), some (.ref 1), v3, v4, v5, v6, v7, v8, none, none])
    (rngD 0 6) (fun _ _ _ _ _ _ => rfl)
    (fun p x q e s hx hR => by
      obtain ⟨ms, v3, v4, v5, v6, v7, v8, hms, hml, hG, rfl⟩ := hR
      have hpl : p.length < 6 := by
        have h := congrArg List.length hx
        rw [hrl] at h
        simp only [List.length_append, List.length_cons] at h
        omega
      obtain ⟨m, w4, w5, w6, w7, w8, st', mO, hG', e⟩ := turn ns ms hms (by omega) s hG (some (.scr ns)) x v3 v4 v5 v6 v7 v8 none none
      refine ⟨_, _, e, ms ++ [m], some x, w4, w5, w6, w7, w8, ?_, by simp [hml], hG', rfl⟩
      intro z hz
      rcases List.mem_append.mp hz with hz | hz
      · exact hms z hz
      · rw [List.mem_singleton.mp hz]; exact mO)
    (e := [some (.scr ns), some (.ref 0), some (.ref 1), none, none, none, none, none, none, none, none]) (s := [rowO ns 0 0 7, .lst []]) ⟨[], none, none, none, none, none, none, (fun _ h => by cases h), rfl, hG0, rfl⟩
  rw [List.map_id] at el
  refine run_fn [] T_law rfl rfl ?_ rfl
  have d := draws_ok 11 ns []
  simp only [List.nil_append, List.length_nil] at d
  have q1 : S_ ir_law_s25 [some (.scr ns), none, none, none, none, none, none, none, none, none, none] [] = .nx [some (.scr ns), some (.ref 0), none, none, none, none, none, none, none, none, none] [rowO ns 0 0 7] := by
    unfold ir_law_s25; simp only [evSs, evS.eq_1, evS.eq_2, evS.eq_3, evS.eq_4, evS.eq_5, evS.eq_8, evS.eq_9, evS.eq_10, evS.eq_11, evS.eq_12, evS.eq_13, evS.eq_14, E_forr, E_whl, evE.eq_1, evE.eq_2, evE.eq_3, evE.eq_4, evE.eq_5, evE.eq_6, evE.eq_7, evE.eq_8, evE.eq_9, evE.eq_10, evE.eq_11, evE.eq_12, evE.eq_13, evE.eq_14, evE.eq_15, evE.eq_16, evE.eq_17, evE.eq_18, evE.eq_19, evE.eq_20, evE.eq_21, evE.eq_22, evE.eq_23, evE.eq_24, evE.eq_25, evE.eq_26, evE.eq_27, evE.eq_28, evE.eq_32, evE.eq_33, evE.eq_34, evE_comp, evEs, evG, evGs, evI, List.getElem?_cons_zero, List.getElem?_cons_succ, bind_ok, fl_ok, fb_nx, fb_rt, nox_ok, opt_some, optB_some, blR_bl, asS_tup, asS_lst, asSK_tup, asSK_lst, asL_lst, lenGs, List.length_cons, List.length_nil, Nat.reduceAdd, Nat.reduceLT, Nat.reduceLeDiff, if_true, line, Nat.reducePow, List.set_cons_succ, List.set_cons_zero, retR_false, retR_int, evC_int, evC_bl, evC_str, evC_lst, evC_tup, evC_non, evC_is, evC_isn, cmp_eq_str, cmp_ne_str, cmp_eq_int, cmp_ne_int, cmp_eq_is, cmp_eq_ns, str_eq, String.reduceEq, decide_true, decide_false, Bool.not_true, Bool.not_false, is_non, isn_non, is_tup, isn_tup, is_lst, isn_lst, is_str, isn_str, is_int, isn_int, List.map_cons, List.map_nil, Nat.sub_self, List.replicate, List.append_nil, bind_exc, fl_exc, fb_ex, fb_rt, Bool.and_self, cmp_lt_int, cmp_le_int, cmp_gt_int, cmp_ge_int, bin_add, List.cons_append, List.nil_append, Nat.reduceSub, nc0, nc1, nc2, nc3, nc4, nc5, nc6, nc7, nc8, nc9, Int.reduceEq, Int.reduceLT, Int.reduceLE, Int.reduceNe, Bool.false_eq_true, if_false, S_, d]
  have q2 : S_ ir_law_s24 [some (.scr ns), some (.ref 0), none, none, none, none, none, none, none, none, none] [rowO ns 0 0 7] = .nx [some (.scr ns), some (.ref 0), some (.ref 1), none, none, none, none, none, none, none, none] [rowO ns 0 0 7, .lst []] := by rfl
  have q3 : S_ ir_law_s23 [some (.scr ns), some (.ref 0), some (.ref 1), none, none, none, none, none, none, none, none] [rowO ns 0 0 7, .lst []] = .nx [some (.scr ns), some (.ref 0), some (.ref 1), v3, v4, v5, v6, v7, v8, none, none] s' := by
    have ei : evI (run_ 12) L.sub (.rng (.cst (.int (0))) (.cst (.int (6)))) [some (.scr ns), some (.ref 0), some (.ref 1), none, none, none, none, none, none, none, none] [rowO ns 0 0 7, .lst []] = .ok (rngD 0 6, fun _ => true) [rowO ns 0 0 7, .lst []] := by rfl
    unfold S_ ir_law_s23
    rw [E_forr, ei, fl_ok]
    exact el
  have hb : evSs (run_ 12) L.sub L.efs L.wf ir_law [some (.scr ns), none, none, none, none, none, none, none, none, none, none] [] = .rt (.bl true) s' := by
    unfold ir_law
    refine (evSs_nx q1).trans ((evSs_nx q2).trans ((evSs_nx q3).trans ?_))
    rfl
  show finB false 0 (evSs (run_ 12) L.sub L.efs L.wf ir_law [some (.scr ns), none, none, none, none, none, none, none, none, none, none] []) = _
  rw [hb]
  exact fin_val rfl
end Law
open PySem PySem.W PySem.Calls PyProof.Rows
theorem PySem.Challenge.cw_statusbytes_k05_lines_refused_holds : PySem.Challenge.rw_statusbytes_k05_lines_refused.Holds := by
  w_on; o_law
  refine HandSHeadRun.head_any (r := OpenLaw.row PySem.Challenge.rw_statusbytes_k05_lines_refused) (q := view (OpenLaw.row PySem.Challenge.rw_statusbytes_k05_lines_refused).prog [50]) (H := Law.hk) (ob := Law.ob) (M := 12000) (loose := Law.names) (d := HandSHeadRun.topDef (OpenLaw.row PySem.Challenge.rw_statusbytes_k05_lines_refused).prog 50) (kwd := []) (Mini.LW.obs_eqA _ _ _)
    (by kernel_rfl) (fun s => by kernel_rfl) Law.run (by kernel_rfl) (by kernel_rfl) (by kernel_rfl) (by rfl) (by first | assumption | decide +kernel) (by decide +kernel) ⟨rfl, rfl, rfl, rfl, rfl, by decide +kernel⟩ ?hw ?hc
  case hw => w_witness2
  case hc => exact Mini.walk_law (l := PySem.Challenge.rw_statusbytes_k05_lines_refused) (x := "_law_script") Law.L 6 Law.txs rfl (by kernel_rfl) (by kernel_rfl) (dl := Law.d_law) (by kernel_rfl) rfl rfl rfl rfl ⟨rfl, by decide, by decide⟩ (by decide +kernel) Law.main
