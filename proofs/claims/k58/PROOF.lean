import PyProof.Rows.All
import Wide.All
import OpenK.AllK
import Wide.FinOn
import HandS.ForMost
import HandS.Wide
import HandS.IsInst
import HandS.Zip
import HandS.SortInts
import HandS.More
import KE.DatumOrd
import KE.SortData
import HandS.ForExc
import HandS.ExcIs
import PySem.Challenge.RW_meshworks_k58_whole_least_work
set_option Elab.async false
set_option linter.all false
set_option maxRecDepth 100000
set_option maxHeartbeats 1000000
namespace K58
open PySem PySem.Spec PyProof.Rows L2

/-! ### two heaps: what the data lean on (B), all that is tracked (H) -/
theorem same_some {H H' : Hp} (e : Same H H') {a : Addr} (h : H a ≠ none) : H' a ≠ none := by
  cases q : H a with
  | none => exact absurd q h
  | some o => rw [e a o q]; exact fun z => nomatch z
theorem same_new {H : Hp} {p : Addr} {o : HO} (h : H p = none) : Same H (upd H p o) := fun b u q => by rw [upd_ne (ne_of_none q h)]; exact q
theorem same_mut {H H' : Hp} {p : Addr} {o : HO} (e : Same H H') (h : H p = none) : Same H (upd H' p o) := fun b u q => by rw [upd_ne (ne_of_none q h)]; exact e b u q
structure Stp (B H B' H' : Hp) : Prop where
  eb : Same B B'
  eh : Same H H'
  ob : Same B' H'
  fr : ∀ a, B a = none → H a ≠ none → B' a = none
theorem Stp.refl {B H : Hp} (o : Same B H) : Stp B H B H := ⟨Same.refl _, Same.refl _, o, fun _ h _ => h⟩
theorem Stp.trans {B H B1 H1 B2 H2 : Hp} (x : Stp B H B1 H1) (y : Stp B1 H1 B2 H2) : Stp B H B2 H2 :=
  ⟨x.eb.trans y.eb, x.eh.trans y.eh, y.ob, fun a h1 h2 => y.fr a (x.fr a h1 h2) (same_some x.eh h2)⟩
theorem Stp.new {B H : Hp} {p : Addr} {o : HO} (ob : Same B H) (hp : H p = none) : Stp B H (upd B p o) (upd H p o) := by
  have hb : B p = none := ob.free hp
  refine ⟨same_new hb, same_new hp, fun a u q => ?_, fun a h1 h2 => ?_⟩
  · by_cases e : a = p
    · subst e; rw [upd_same] at q ⊢; exact q
    · rw [upd_ne e] at q ⊢; exact ob a u q
  · rw [upd_ne (fun e => h2 (by rw [e]; exact hp))]; exact h1
/-- a new object of which the data tell nothing -/
theorem Stp.side {B H H' : Hp} (ob : Same B H) (eh : Same H H') : Stp B H B H' := ⟨Same.refl _, eh, ob.trans eh, fun _ h _ => h⟩

/-! ### data -/
theorem sqL_up {K : PySem.W.Frag} {B B' : Hp} (e : Same B B') {a : Addr} {xs : List V} (h : SqL K B a xs) : SqL K B' a xs := e.seq h
theorem sqT_up {K : PySem.W.Frag} {B B' : Hp} (e : Same B B') {a : Addr} {xs : List V} (h : SqT K B a xs) : SqT K B' a xs := by
  rcases h with (h | ⟨o, h⟩) | h
  · exact .inl (.inl (e _ _ h))
  · exact .inl (.inr ⟨o, e _ _ h⟩)
  · exact .inr h
mutual
theorem Dp.up {K : PySem.W.Frag} {B B' : Hp} (e : Same B B') : ∀ {v : V} {d : PyData}, Dp K B v d → Dp K B' v d
  | _, _, .non => .non
  | _, _, .bl b => .bl b
  | _, _, .int i => .int i
  | _, _, .str x => .str x
  | _, _, .lst s h => .lst (sqL_up e s) (DpAll.up e h)
  | _, _, .tup s h => .tup (sqT_up e s) (DpAll.up e h)
theorem DpAll.up {K : PySem.W.Frag} {B B' : Hp} (e : Same B B') : ∀ {vs : List V} {ds : List PyData}, DpAll K B vs ds → DpAll K B' vs ds
  | _, _, .nil => .nil
  | _, _, .cons h t => .cons (Dp.up e h) (DpAll.up e t)
end
section
variable {K : PySem.W.Frag} {B : Hp} {v : V} {vs ws : List V} {d : PyData} {ds es : List PyData}
theorem dp_int {i : Int} (h : Dp K B v (.int i)) : v = .int i := by cases h; rfl
theorem dp_bl {b : Bool} (h : Dp K B v (.bool b)) : v = .bl b := by cases h; rfl
theorem dp_str {x : Str} (h : Dp K B v (.str x)) : v = .str x := by cases h; rfl
theorem dp_non (h : Dp K B v .none) : v = .non := by cases h; rfl
theorem dp_lst (h : Dp K B v (.list ds)) : ∃ a xs, v = .ref a ∧ SqL K B a xs ∧ DpAll K B xs ds := by cases h with | lst s t => exact ⟨_, _, rfl, s, t⟩
theorem dp_tup (h : Dp K B v (.tuple ds)) : ∃ a xs, v = .ref a ∧ SqT K B a xs ∧ DpAll K B xs ds := by cases h with | tup s t => exact ⟨_, _, rfl, s, t⟩
theorem dpa_len : ∀ {vs : List V} {ds : List PyData}, DpAll K B vs ds → vs.length = ds.length
  | _, _, .nil => rfl
  | _, _, .cons _ t => by rw [List.length_cons, List.length_cons, dpa_len t]
theorem dpa_get : ∀ {vs : List V} {ds : List PyData} {i : Nat} {d : PyData}, DpAll K B vs ds → ds[i]? = some d → ∃ v, vs[i]? = some v ∧ Dp K B v d
  | _, _, i, _, .nil, e => by simp at e
  | _, _, 0, _, .cons h _, e => by simp at e; subst e; exact ⟨_, rfl, h⟩
  | _, _, i + 1, d, .cons _ t, e => by
    obtain ⟨v, h1, h2⟩ := dpa_get (i := i) (d := d) t (by simpa using e)
    exact ⟨v, by simpa using h1, h2⟩
theorem dpa_getV : ∀ {vs : List V} {ds : List PyData} {i : Nat} {v : V}, DpAll K B vs ds → vs[i]? = some v → ∃ d, ds[i]? = some d ∧ Dp K B v d
  | _, _, i, _, .nil, e => by simp at e
  | _, _, 0, _, .cons h _, e => by simp at e; subst e; exact ⟨_, rfl, h⟩
  | _, _, i + 1, v, .cons _ t, e => by
    obtain ⟨d, h1, h2⟩ := dpa_getV (i := i) (v := v) t (by simpa using e)
    exact ⟨d, by simpa using h1, h2⟩
theorem dpa_app : ∀ {vs ws : List V} {ds es : List PyData}, DpAll K B vs ds → DpAll K B ws es → DpAll K B (vs ++ ws) (ds ++ es)
  | _, _, _, _, .nil, h => h
  | _, _, _, _, .cons h t, q => .cons h (dpa_app t q)
theorem dpa_take : ∀ {vs : List V} {ds : List PyData} (n : Nat), DpAll K B vs ds → DpAll K B (vs.take n) (ds.take n)
  | _, _, 0, _ => .nil
  | _, _, _ + 1, .nil => .nil
  | _, _, n + 1, .cons h t => .cons h (dpa_take n t)
theorem dpa_drop : ∀ {vs : List V} {ds : List PyData} (n : Nat), DpAll K B vs ds → DpAll K B (vs.drop n) (ds.drop n)
  | _, _, 0, h => h
  | _, _, _ + 1, .nil => .nil
  | _, _, n + 1, .cons _ t => dpa_drop n t
theorem dpa_one (h : Dp K B v d) : DpAll K B [v] [d] := .cons h .nil
theorem dpa_ints : ∀ {vs : List V} {ns : List Int}, DpAll K B vs (ns.map .int) → vs = ns.map V.int
  | _, [], .nil => rfl
  | _, n :: ns, .cons h t => by rw [dp_int h, dpa_ints t]; rfl
theorem ints_dpa : ∀ (ns : List Int), DpAll K B (ns.map V.int) (ns.map .int)
  | [] => .nil
  | n :: ns => .cons (.int n) (ints_dpa ns)
end

/-! ### what a slot holds -/
inductive Item where
  | no
  | dat (d : PyData)
  | lst (ds : List PyData)
  | dk (kvs : List (Int × PyData))
  | dt (kvs : List (List Key × V))
  | bt (kvs : List (List Key × V))
  | raw (v : V)
def Item.own : Item → Bool
  | .lst _ => true
  | .dk _ => true
  | .dt _ => true
  | _ => false
def KD (K : PySem.W.Frag) (B : Hp) : List (Key × V) → List (Int × PyData) → Prop := Paired fun p q => p.1 = .inl q.1 ∧ Dp K B p.2 q.2
theorem KD.up {K : PySem.W.Frag} {B B' : Hp} (e : Same B B') {ks : List (Key × V)} {kvs : List (Int × PyData)} (h : KD K B ks kvs) : KD K B' ks kvs := Paired.mapP h fun _ _ ⟨a, b⟩ => ⟨a, Dp.up e b⟩
def ItemOk (K : PySem.W.Frag) (H0 B H : Hp) (o : Option V) : Item → Prop
  | .no => True
  | .dat d => ∃ v, o = some v ∧ Dp K B v d
  | .lst ds => ∃ l xs, o = some (.ref l) ∧ H0 l = none ∧ B l = none ∧ H l = some (.lst xs) ∧ DpAll K B xs ds
  | .dk kvs => ∃ l ks, o = some (.ref l) ∧ H0 l = none ∧ B l = none ∧ H l = some (.dK ks) ∧ KD K B ks kvs
  | .dt kvs => ∃ l, o = some (.ref l) ∧ H0 l = none ∧ B l = none ∧ H l = some (.dT kvs)
  | .bt kvs => ∃ l, o = some (.ref l) ∧ H0 l = some (.dT kvs)
  | .raw v => o = some v
theorem ItemOk.step {K : PySem.W.Frag} {H0 B H B2 H2 : Hp} {o : Option V} {t : Item} (h : ItemOk K H0 B H o t) (x : Stp B H B2 H2) : ItemOk K H0 B2 H2 o t := by
  cases t with
  | no => trivial
  | dat d => obtain ⟨v, e, q⟩ := h; exact ⟨v, e, Dp.up x.eb q⟩
  | lst ds => obtain ⟨l, xs, e, a, b, c, q⟩ := h; exact ⟨l, xs, e, a, x.fr l b (by rw [c]; exact fun z => nomatch z), x.eh _ _ c, DpAll.up x.eb q⟩
  | dk kvs => obtain ⟨l, ks, e, a, b, c, q⟩ := h; exact ⟨l, ks, e, a, x.fr l b (by rw [c]; exact fun z => nomatch z), x.eh _ _ c, KD.up x.eb q⟩
  | dt kvs => obtain ⟨l, e, a, b, c⟩ := h; exact ⟨l, e, a, x.fr l b (by rw [c]; exact fun z => nomatch z), x.eh _ _ c⟩
  | bt kvs => exact h
  | raw v => exact h
structure Sit (K : PySem.W.Frag) (H0 B H : Hp) (σ : L2.St) (Γ : List Item) : Prop where
  ob : Same B H
  oh : Same H0 H
  len : σ.length = Γ.length
  at_ : ∀ (i : Nat) (t : Item), Γ[i]? = some t → ∃ o, σ[i]? = some o ∧ ItemOk K H0 B H o t
  sep : ∀ (i j : Nat) (s t : Item) (l : Addr), Γ[i]? = some s → Γ[j]? = some t → s.own = true → t.own = true → σ[i]? = some (some (.ref l)) → σ[j]? = some (some (.ref l)) → i = j
section
variable {K : PySem.W.Frag} {H0 B H B2 H2 : Hp} {σ : L2.St} {Γ : List Item} {i : Nat} {v : V} {d : PyData}
theorem Sit.step (E : Sit K H0 B H σ Γ) (x : Stp B H B2 H2) : Sit K H0 B2 H2 σ Γ :=
  ⟨x.ob, E.oh.trans x.eh, E.len, fun i t e => by obtain ⟨o, a, b⟩ := E.at_ i t e; exact ⟨o, a, b.step x⟩, E.sep⟩
theorem Sit.dat (E : Sit K H0 B H σ Γ) (h : Γ[i]? = some (.dat d)) : ∃ v, σ[i]? = some (some v) ∧ Dp K B v d := by
  obtain ⟨o, a, v, e, q⟩ := E.at_ i _ h
  subst e
  exact ⟨v, a, q⟩
theorem set_get {α : Type} {l : List α} {i j : Nat} {x t : α} (h : (l.set i x)[j]? = some t) : (j = i ∧ t = x ∧ i < l.length) ∨ (j ≠ i ∧ l[j]? = some t) := by
  rw [List.getElem?_set] at h
  by_cases e : i = j
  · rw [if_pos e] at h
    by_cases q : i < l.length
    · rw [if_pos q] at h; exact .inl ⟨e.symm, (Option.some.inj h).symm, q⟩
    · rw [if_neg q] at h; cases h
  · rw [if_neg e] at h; exact .inr ⟨fun z => e z.symm, h⟩
theorem set_at {α : Type} {l : List α} {i : Nat} {x : α} (h : i < l.length) : (l.set i x)[i]? = some x := by rw [List.getElem?_set, if_pos rfl, if_pos h]
theorem set_off {α : Type} {l : List α} {i j : Nat} {x : α} (h : j ≠ i) : (l.set i x)[j]? = l[j]? := by rw [List.getElem?_set, if_neg (fun e => h e.symm)]
/-- a slot gets a value -/
theorem Sit.set_any (E : Sit K H0 B H σ Γ) {t : Item} {o : Option V} (h : ItemOk K H0 B H o t)
    (hs : t.own = true → ∀ l, o = some (.ref l) → ∀ (j : Nat) (s : Item), j ≠ i → Γ[j]? = some s → s.own = true → σ[j]? ≠ some (some (.ref l))) : Sit K H0 B H (σ.set i o) (Γ.set i t) := by
  refine ⟨E.ob, E.oh, by rw [List.length_set, List.length_set]; exact E.len, fun j s e => ?_, fun j k s t' l e1 e2 o1 o2 q1 q2 => ?_⟩
  · rcases set_get e with ⟨rfl, rfl, hl⟩ | ⟨ne, e⟩
    · exact ⟨o, set_at (by rw [E.len]; exact hl), h⟩
    · obtain ⟨o', a, b⟩ := E.at_ j s e
      exact ⟨o', by rw [set_off ne]; exact a, b⟩
  · rcases set_get e1 with ⟨rfl, rfl, hl⟩ | ⟨ne, f1⟩
    · rcases set_get e2 with ⟨rfl, rfl, hl⟩ | ⟨ne2, f2⟩
      · rfl
      · rw [set_at (by rw [E.len]; exact hl)] at q1
        rw [set_off ne2] at q2
        exact absurd q2 (hs o1 l (Option.some.inj q1) k _ ne2 f2 o2)
    · rcases set_get e2 with ⟨rfl, rfl, hl⟩ | ⟨ne2, f2⟩
      · rw [set_at (by rw [E.len]; exact hl)] at q2
        rw [set_off ne] at q1
        exact absurd q1 (hs o2 l (Option.some.inj q2) j _ ne f1 o1)
      · rw [set_off ne] at q1
        rw [set_off ne2] at q2
        exact E.sep j k s t' l f1 f2 o1 o2 q1 q2
theorem Sit.set_dat (E : Sit K H0 B H σ Γ) (h : Dp K B v d) : Sit K H0 B H (σ.set i (some v)) (Γ.set i (.dat d)) := E.set_any ⟨v, rfl, h⟩ (fun z => nomatch z)
theorem Sit.set_no (E : Sit K H0 B H σ Γ) {o : Option V} : Sit K H0 B H (σ.set i o) (Γ.set i .no) := E.set_any trivial (fun z => nomatch z)
/-- what is owned is tracked, and not by B -/
theorem Sit.owned (E : Sit K H0 B H σ Γ) {j : Nat} {s : Item} {l : Addr} (h : Γ[j]? = some s) (ho : s.own = true) (q : σ[j]? = some (some (.ref l))) : H0 l = none ∧ B l = none ∧ H l ≠ none := by
  obtain ⟨o, a, b⟩ := E.at_ j s h
  rw [q] at a
  cases a
  cases s with
  | lst ds => obtain ⟨l', xs, e, a, b, c, _⟩ := b; cases e; exact ⟨a, b, by rw [c]; exact fun z => nomatch z⟩
  | dk ds => obtain ⟨l', xs, e, a, b, c, _⟩ := b; cases e; exact ⟨a, b, by rw [c]; exact fun z => nomatch z⟩
  | dt ds => obtain ⟨l', e, a, b, c⟩ := b; cases e; exact ⟨a, b, by rw [c]; exact fun z => nomatch z⟩
  | no => cases ho
  | dat _ => cases ho
  | bt _ => cases ho
  | raw _ => cases ho
/-- a new object of one's own -/
theorem Sit.set_new (E : Sit K H0 B H σ Γ) {l : Addr} {o : HO} {t : Item} (hl : H l = none) (h : ItemOk K H0 B (upd H l o) (some (.ref l)) t) : Sit K H0 B (upd H l o) (σ.set i (some (.ref l))) (Γ.set i t) := by
  have E1 : Sit K H0 B (upd H l o) σ Γ := E.step (Stp.side E.ob (same_new hl))
  refine E1.set_any h fun _ l' e j s ne hj ho q => ?_
  cases e
  exact (E.owned hj ho q).2.2 hl
/-- an object of one's own is changed -/
theorem Sit.mut (E : Sit K H0 B H σ Γ) {l : Addr} {o : HO} {s t : Item} (hi : Γ[i]? = some s) (hs : s.own = true) (hl : σ[i]? = some (some (.ref l))) (ht : t.own = true) (h : ItemOk K H0 B (upd H l o) (some (.ref l)) t) : Sit K H0 B (upd H l o) σ (Γ.set i t) := by
  obtain ⟨z0, zb, zh⟩ := E.owned hi hs hl
  have hlt : i < Γ.length := (List.getElem?_eq_some_iff.mp hi).1
  refine ⟨same_mut E.ob zb, same_mut E.oh z0, by rw [List.length_set]; exact E.len, fun j u e => ?_, fun j k u w l' e1 e2 o1 o2 q1 q2 => ?_⟩
  · rcases set_get e with ⟨rfl, rfl, _⟩ | ⟨ne, e⟩
    · exact ⟨_, hl, h⟩
    · obtain ⟨o', a, b⟩ := E.at_ j u e
      refine ⟨o', a, ?_⟩
      cases u with
      | no => trivial
      | dat d => exact b
      | lst ds => obtain ⟨l1, xs, e', a1, b1, c1, q⟩ := b; subst e'; exact ⟨l1, xs, rfl, a1, b1, by rw [upd_ne (fun z => ne (E.sep j i _ _ l e hi rfl hs (by rw [a, z]) hl))]; exact c1, q⟩
      | dk kvs => obtain ⟨l1, xs, e', a1, b1, c1, q⟩ := b; subst e'; exact ⟨l1, xs, rfl, a1, b1, by rw [upd_ne (fun z => ne (E.sep j i _ _ l e hi rfl hs (by rw [a, z]) hl))]; exact c1, q⟩
      | dt kvs => obtain ⟨l1, e', a1, b1, c1⟩ := b; subst e'; exact ⟨l1, rfl, a1, b1, by rw [upd_ne (fun z => ne (E.sep j i _ _ l e hi rfl hs (by rw [a, z]) hl))]; exact c1⟩
      | bt kvs => exact b
      | raw v => exact b
  · have f : ∀ {j : Nat} {u : Item}, (Γ.set i t)[j]? = some u → u.own = true → ∃ u', Γ[j]? = some u' ∧ u'.own = true := fun {j u} e o => by
      rcases set_get e with ⟨rfl, rfl, _⟩ | ⟨ne, e⟩
      · exact ⟨s, hi, hs⟩
      · exact ⟨u, e, o⟩
    obtain ⟨u', e1, o1⟩ := f e1 o1
    obtain ⟨w', e2, o2⟩ := f e2 o2
    exact E.sep j k u' w' l' e1 e2 o1 o2 q1 q2
/-- what is known of a slot is let go -/
theorem Sit.forget (E : Sit K H0 B H σ Γ) : Sit K H0 B H σ (Γ.set i .no) := by
  by_cases h : i < Γ.length
  · obtain ⟨o, a, _⟩ := E.at_ i _ (List.getElem?_eq_getElem h)
    have e : σ.set i o = σ := by
      apply List.ext_getElem?
      intro j
      rw [List.getElem?_set]
      by_cases q : i = j
      · subst q
        rw [if_pos rfl, if_pos (by rw [E.len]; exact h), a]
      · rw [if_neg q]
    have := E.set_no (i := i) (o := o)
    rw [e] at this
    exact this
  · rw [List.set_eq_of_length_le (by omega)]
    exact E
end
/-- reached from B within a call that began at H0 -/
structure Rch (H0 B B' : Hp) : Prop where
  eb : Same B B'
  fr : ∀ a, B a = none → H0 a ≠ none → B' a = none
theorem Rch.refl {H0 B : Hp} : Rch H0 B B := ⟨Same.refl _, fun _ h _ => h⟩
theorem Rch.trans {H0 B B1 B2 : Hp} (x : Rch H0 B B1) (y : Rch H0 B1 B2) : Rch H0 B B2 := ⟨x.eb.trans y.eb, fun a h1 h2 => y.fr a (x.fr a h1 h2) h2⟩
theorem Stp.rch {H0 B H B2 H2 : Hp} (x : Stp B H B2 H2) (o : Same H0 H) : Rch H0 B B2 := ⟨x.eb, fun a h1 h2 => x.fr a h1 (same_some o h2)⟩
section
variable {K : PySem.W.Frag} {H0 B H : Hp} {σ : L2.St} {Γ : List Item} {i : Nat}
/-- an owned list becomes data -/
theorem Sit.freeze (E : Sit K H0 B H σ Γ) {ds : List PyData} (h : Γ[i]? = some (.lst ds)) : ∃ B', Rch H0 B B' ∧ Sit K H0 B' H σ (Γ.set i (.dat (.list ds))) := by
  obtain ⟨o, a, l, xs, e, z0, zb, zh, q⟩ := E.at_ i _ h
  subst e
  have eb : Same B (upd B l (.lst xs)) := same_new zb
  have hb : Same (upd B l (.lst xs)) H := fun c u e => by
    by_cases w : c = l
    · subst w; rw [upd_same] at e; rw [← e]; exact zh
    · rw [upd_ne w] at e; exact E.ob c u e
  refine ⟨upd B l (.lst xs), ⟨eb, fun c h1 h2 => by rw [upd_ne (fun w => h2 (by rw [w]; exact z0))]; exact h1⟩, hb, E.oh, by rw [List.length_set]; exact E.len, fun j u e => ?_, fun j k u w l' e1 e2 o1 o2 q1 q2 => ?_⟩
  · rcases set_get e with ⟨rfl, rfl, _⟩ | ⟨ne, e⟩
    · exact ⟨_, a, _, rfl, .lst (.inl (.inl upd_same)) (DpAll.up eb q)⟩
    · obtain ⟨o', a', b⟩ := E.at_ j u e
      refine ⟨o', a', ?_⟩
      cases u with
      | no => trivial
      | dat d => obtain ⟨v, e', b⟩ := b; exact ⟨v, e', Dp.up eb b⟩
      | lst es => obtain ⟨l1, ys, e', a1, b1, c1, q1⟩ := b; subst e'; exact ⟨l1, ys, rfl, a1, by rw [upd_ne (fun z => ne (E.sep j i _ _ l e h rfl rfl (by rw [a', z]) a))]; exact b1, c1, DpAll.up eb q1⟩
      | dk kvs => obtain ⟨l1, ys, e', a1, b1, c1, q1⟩ := b; subst e'; exact ⟨l1, ys, rfl, a1, by rw [upd_ne (fun z => ne (E.sep j i _ _ l e h rfl rfl (by rw [a', z]) a))]; exact b1, c1, KD.up eb q1⟩
      | dt kvs => obtain ⟨l1, e', a1, b1, c1⟩ := b; subst e'; exact ⟨l1, rfl, a1, by rw [upd_ne (fun z => ne (E.sep j i _ _ l e h rfl rfl (by rw [a', z]) a))]; exact b1, c1⟩
      | bt kvs => exact b
      | raw v => exact b
  · rcases set_get e1 with ⟨_, rfl, _⟩ | ⟨_, e1⟩
    · cases o1
    · rcases set_get e2 with ⟨_, rfl, _⟩ | ⟨_, e2⟩
      · cases o2
      · exact E.sep j k u w l' e1 e2 o1 o2 q1 q2
end
end K58
set_option Elab.async false
set_option linter.all false
set_option maxRecDepth 100000
set_option maxHeartbeats 1000000
namespace K58
open PySem PySem.Spec PyProof.Rows L2

/-! ### judgements -/
section
variable (K : PySem.W.Frag) (H0 : Hp)
/-- te gives data of which P holds -/
def EvP (te : TE) (Γ : List Item) (P : PyData → Prop) : Prop :=
  ∀ (B H : Hp) (σ : L2.St), Sit K H0 B H σ Γ → ∀ Q : VK, (∀ v d B2 H2, P d → Stp B H B2 H2 → Dp K B2 v d → Q v H2) → te σ H Q
abbrev Ev (te : TE) (Γ : List Item) (d : PyData) : Prop := EvP K H0 te Γ (fun e => e = d)
/-- te gives a tracked list (a new one of the data; one's own) -/
def EvN (te : TE) (Γ : List Item) (ds : List PyData) : Prop :=
  ∀ (B H : Hp) (σ : L2.St), Sit K H0 B H σ Γ → ∀ Q : VK, (∀ p xs B2 H2, Stp B H B2 H2 → B2 p = some (.lst xs) → DpAll K B2 xs ds → Q (.ref p) H2) → te σ H Q
def EvH (te : TE) (Γ : List Item) (ds : List PyData) : Prop :=
  ∀ (B H : Hp) (σ : L2.St), Sit K H0 B H σ Γ → ∀ Q : VK, (∀ p xs B2 H2, Stp B H B2 H2 → H2 p = some (.lst xs) → DpAll K B2 xs ds → Q (.ref p) H2) → te σ H Q
def EvT (tt : TT) (Γ : List Item) (b : Bool) : Prop :=
  ∀ (B H : Hp) (σ : L2.St), Sit K H0 B H σ Γ → ∀ Q : Bool → Hp → Prop, (∀ B2 H2, Stp B H B2 H2 → Q b H2) → tt σ H Q
def ArgOk (B H : Hp) (v : V) : Item → Prop
  | .dat d => Dp K B v d
  | .bt kvs => ∃ l, v = .ref l ∧ H l = some (.dT kvs)
  | .raw u => v = u
  | _ => False
def EvA (ta : TA) (Γ : List Item) (P : List Item → Prop) : Prop :=
  ∀ (B H : Hp) (σ : L2.St), Sit K H0 B H σ Γ → ∀ Q : List V → Hp → Prop, (∀ vs ts B2 H2, P ts → Stp B H B2 H2 → Paired (ArgOk K B2 H2) vs ts → Q vs H2) → ta σ H Q
def EvO (to : TO) (Γ : List Item) (o : Option Int) : Prop :=
  ∀ (B H : Hp) (σ : L2.St), Sit K H0 B H σ Γ → ∀ Q : Option Int → Hp → Prop, (∀ B2 H2, Stp B H B2 H2 → Q o H2) → to σ H Q
/-- an operation on values -/
def RvP (r : R2) (dx dy : PyData) (P : PyData → Prop) : Prop :=
  ∀ (B H : Hp) (x y : V), Same B H → Dp K B x dx → Dp K B y dy → ∀ Q : VK, (∀ v d B2 H2, P d → Stp B H B2 H2 → Dp K B2 v d → Q v H2) → r x y H Q
abbrev Rv (r : R2) (dx dy d : PyData) : Prop := RvP K r dx dy (fun e => e = d)
/-- a call of a value by values -/
def RcP (r : List V → Hp → VK → Prop) (ts : List Item) (P : PyData → Prop) : Prop :=
  ∀ (B H : Hp) (vs : List V), Same B H → Paired (ArgOk K B H) vs ts → ∀ Q : VK, (∀ v d B2 H2, P d → Stp B H B2 H2 → Dp K B2 v d → Q v H2) → r vs H Q
end
theorem ArgOk.step {K : PySem.W.Frag} {B H B2 H2 : Hp} {v : V} {t : Item} (h : ArgOk K B H v t) (x : Stp B H B2 H2) : ArgOk K B2 H2 v t := by
  cases t with
  | dat d => exact Dp.up x.eb h
  | bt kvs => obtain ⟨l, e, q⟩ := h; exact ⟨l, e, x.eh _ _ q⟩
  | raw u => exact h
  | no => exact h
  | lst _ => exact h
  | dk _ => exact h
  | dt _ => exact h
theorem args_step {K : PySem.W.Frag} {B H B2 H2 : Hp} {vs : List V} {ts : List Item} (h : Paired (ArgOk K B H) vs ts) (x : Stp B H B2 H2) : Paired (ArgOk K B2 H2) vs ts := Paired.mapP h fun _ _ q => q.step x

section
variable {K : PySem.W.Frag} {H0 : Hp} {Γ : List Item} {ta tb tc te : TE} {t u : TT} {r r' : R2} {P R S : PyData → Prop} {d dx dy dz : PyData} {ds es : List PyData} {i j : Nat}
theorem EvP.imp (h : EvP K H0 te Γ P) (w : ∀ d, P d → R d) : EvP K H0 te Γ R := fun B H σ E Q q => h B H σ E Q fun v d B2 H2 p => q v d B2 H2 (w d p)
theorem Ev.is (h : Ev K H0 te Γ d) (w : d = dx) : Ev K H0 te Γ dx := w ▸ h
theorem ev_var (h : Γ[i]? = some (.dat d)) : Ev K H0 (tVar i) Γ d := fun B H σ E Q q => by
  obtain ⟨v, e, p⟩ := E.dat h
  exact ⟨v, e, q v d B H rfl (Stp.refl E.ob) p⟩
theorem ev_c {v : V} (h : ∀ B, Dp K B v d) : Ev K H0 (tC v) Γ d := fun B H σ E Q q => q v d B H rfl (Stp.refl E.ob) (h B)
theorem ev_int {n : Int} : Ev K H0 (tC (.int n)) Γ (.int n) := ev_c fun _ => .int n
theorem ev_bool {b : Bool} : Ev K H0 (tC (.bl b)) Γ (.bool b) := ev_c fun _ => .bl b
theorem ev_non : Ev K H0 (tC .non) Γ .none := ev_c fun _ => .non
theorem ev_str {x : Str} : Ev K H0 (tC (.str x)) Γ (.str x) := ev_c fun _ => .str x
theorem ev_bin (ha : EvP K H0 ta Γ P) (hb : EvP K H0 tb Γ R) (hr : ∀ dx dy, P dx → R dy → RvP K r dx dy S) : EvP K H0 (tOp r ta tb) Γ S := fun B H σ E Q q =>
  ha B H σ E _ fun x dx B1 H1 px s1 x1 => hb B1 H1 σ (E.step s1) _ fun y dy B2 H2 py s2 y2 =>
    hr dx dy px py B2 H2 x y s2.ob (Dp.up s2.eb x1) y2 Q fun v d B3 H3 p s3 => q v d B3 H3 p ((s1.trans s2).trans s3)
theorem ev_op (ha : Ev K H0 ta Γ dx) (hb : Ev K H0 tb Γ dy) (hr : RvP K r dx dy S) : EvP K H0 (tOp r ta tb) Γ S := ev_bin ha hb fun _ _ e f => by rw [e, f]; exact hr

/-! ### operations -/
theorem rv_II {g : Int → Int → Int} {m n : Int} : Rv K (rI0 fun i j => .int (g i j)) (.int m) (.int n) (.int (g m n)) := fun B H x y o hx hy Q q => by
  rw [dp_int hx, dp_int hy]
  exact ⟨m, n, rfl, rfl, q _ _ B H rfl (Stp.refl o) (.int _)⟩
theorem rv_IB {g : Int → Int → Bool} {m n : Int} : Rv K (rI0 fun i j => .bl (g i j)) (.int m) (.int n) (.bool (g m n)) := fun B H x y o hx hy Q q => by
  rw [dp_int hx, dp_int hy]
  exact ⟨m, n, rfl, rfl, q _ _ B H rfl (Stp.refl o) (.bl _)⟩
theorem rv_CI {C : Int → Int → Prop} {g : Int → Int → Int} {m n : Int} (c : C m n) : Rv K (rI C fun i j => .int (g i j)) (.int m) (.int n) (.int (g m n)) := fun B H x y o hx hy Q q => by
  rw [dp_int hx, dp_int hy]
  exact ⟨m, n, rfl, rfl, c, q _ _ B H rfl (Stp.refl o) (.int _)⟩
theorem dec_V {m n : Int} : decide (V.int m = V.int n) = decide (m = n) := by
  by_cases h : m = n
  · rw [h, decide_eq_true rfl, decide_eq_true rfl]
  · rw [decide_eq_false h, decide_eq_false (fun e => h (V.int.inj e))]
theorem dec_VS {m n : Str} : decide (V.str m = V.str n) = decide (m = n) := by
  by_cases h : m = n
  · rw [h, decide_eq_true rfl, decide_eq_true rfl]
  · rw [decide_eq_false h, decide_eq_false (fun e => h (V.str.inj e))]
theorem rv_eqI {m n : Int} : Rv K rEq (.int m) (.int n) (.bool (decide (m = n))) := fun B H x y o hx hy Q q => by
  rw [dp_int hx, dp_int hy]
  exact ⟨rfl, q _ _ B H rfl (Stp.refl o) (by rw [dec_V]; exact .bl _)⟩
theorem rv_neI {m n : Int} : Rv K rNe (.int m) (.int n) (.bool (!decide (m = n))) := fun B H x y o hx hy Q q => by
  rw [dp_int hx, dp_int hy]
  exact ⟨rfl, q _ _ B H rfl (Stp.refl o) (by rw [dec_V]; exact .bl _)⟩
theorem rv_neS {m n : Str} : Rv K rNe (.str m) (.str n) (.bool (!decide (m = n))) := fun B H x y o hx hy Q q => by
  rw [dp_str hx, dp_str hy]
  exact ⟨rfl, q _ _ B H rfl (Stp.refl o) (by rw [dec_VS]; exact .bl _)⟩
theorem rv_eqD (sx : SeqAt.shaped dx = true) (sy : SeqAt.shaped dy = true) : Rv K (rEqD K) dx dy (.bool (PyData.eqv dx dy)) := fun B H x y o hx hy Q q =>
  ⟨dx, dy, Dp.up o hx, Dp.up o hy, sx, sy, q _ _ B H rfl (Stp.refl o) (.bl _)⟩
theorem rv_neD (sx : SeqAt.shaped dx = true) (sy : SeqAt.shaped dy = true) : Rv K (rNeD K) dx dy (.bool (!PyData.eqv dx dy)) := fun B H x y o hx hy Q q =>
  ⟨dx, dy, Dp.up o hx, Dp.up o hy, sx, sy, q _ _ B H rfl (Stp.refl o) (.bl _)⟩
theorem rv_isN {b : Bool} (h : ∀ B x, Dp K B x dx → decide (x = V.non) = b) : Rv K (fun x y H Q => y = .non ∧ Q (.bl (decide (x = .non))) H) dx .none (.bool b) := fun B H x y o hx hy Q q =>
  ⟨dp_non hy, q _ _ B H rfl (Stp.refl o) (by rw [h B x hx]; exact .bl _)⟩
theorem rv_isNot {b : Bool} (h : ∀ B x, Dp K B x dx → decide (x = V.non) = b) : Rv K (fun x y H Q => y = .non ∧ Q (.bl (!decide (x = .non))) H) dx .none (.bool (!b)) := fun B H x y o hx hy Q q =>
  ⟨dp_non hy, q _ _ B H rfl (Stp.refl o) (by rw [h B x hx]; exact .bl _)⟩
theorem non_non {B : Hp} {x : V} (h : Dp K B x .none) : decide (x = V.non) = true := by rw [dp_non h] <;> rfl
theorem non_int {n : Int} {B : Hp} {x : V} (h : Dp K B x (.int n)) : decide (x = V.non) = false := by rw [dp_int h] <;> rfl
theorem non_tup {B : Hp} {x : V} (h : Dp K B x (.tuple ds)) : decide (x = V.non) = false := by obtain ⟨a, xs, rfl, _⟩ := dp_tup h; rfl
theorem dpa_atI {B : Hp} {vs : List V} (h : DpAll K B vs ds) {n : Int} (e : atI ds n = some d) : ∃ v, atI vs n = some v ∧ Dp K B v d := by
  unfold atI at e ⊢
  rw [dpa_len h]
  cases q : ixN ds.length n with
  | none => rw [q] at e; cases e
  | some k =>
    rw [q] at e
    exact dpa_get h e
theorem rv_ixL {n : Int} (e : atI ds n = some d) : Rv K (rIxL K) (.list ds) (.int n) d := fun B H x y o hx hy Q q => by
  obtain ⟨a, xs, rfl, s, h⟩ := dp_lst hx
  rw [dp_int hy]
  obtain ⟨v, ev, hv⟩ := dpa_atI h e
  exact ⟨a, xs, n, v, rfl, rfl, sqL_up o s, ev, q _ _ B H rfl (Stp.refl o) hv⟩
theorem rv_ixT {n : Int} (e : atI ds n = some d) : Rv K (rIxT K) (.tuple ds) (.int n) d := fun B H x y o hx hy Q q => by
  obtain ⟨a, xs, rfl, s, h⟩ := dp_tup hx
  rw [dp_int hy]
  obtain ⟨v, ev, hv⟩ := dpa_atI h e
  exact ⟨a, xs, n, v, rfl, rfl, sqT_up o s, ev, q _ _ B H rfl (Stp.refl o) hv⟩
theorem rv_ixLP {n : Int} (h0 : 0 ≤ n) (hn : n < ds.length) (hp : ∀ d ∈ ds, P d) : RvP K (rIxL K) (.list ds) (.int n) P := fun B H x y o hx hy Q q => by
  obtain ⟨k, rfl⟩ : ∃ k : Nat, n = (k : Int) := ⟨n.toNat, by omega⟩
  have hk : k < ds.length := by omega
  have e : atI ds (k : Int) = some ds[k] := atI_nat (List.getElem?_eq_getElem hk)
  exact rv_ixL e B H x y o hx hy Q fun v d B2 H2 e2 => q v d B2 H2 (by rw [e2]; exact hp _ (List.getElem_mem hk))
theorem inV_ints {m : Int} : ∀ ns : List Int, inV (.int m) (ns.map V.int) = decide (m ∈ ns)
  | [] => by simp [inV]
  | n :: ns => by
    have ih := inV_ints (m := m) ns
    unfold inV at ih ⊢
    rw [List.map_cons, List.any_cons, ih]
    show ((n == m) || _) = _
    by_cases h : n = m
    · subst h; simp
    · have h' : ¬ m = n := fun e => h e.symm
      simp [h, h']
theorem flat_ints : ∀ ns : List Int, (ns.map V.int).all flatV = true
  | [] => rfl
  | n :: ns => by rw [List.map_cons, List.all_cons, flat_ints ns]; rfl
theorem rv_inI {m : Int} {ns : List Int} {neg : Bool} : Rv K (rIn K neg) (.int m) (.list (ns.map .int)) (.bool (if neg then !decide (m ∈ ns) else decide (m ∈ ns))) := fun B H x y o hx hy Q q => by
  obtain ⟨a, xs, rfl, s, h⟩ := dp_lst hy
  have e := dpa_ints h
  subst e
  rw [dp_int hx]
  exact ⟨a, _, rfl, .inl (sqL_up o s), rfl, flat_ints ns, q _ _ B H rfl (Stp.refl o) (by rw [inV_ints]; exact .bl _)⟩
theorem rv_inIn {m : Int} {ns : List Int} : Rv K (rIn K false) (.int m) (.list (ns.map .int)) (.bool (decide (m ∈ ns))) := rv_inI
theorem rv_notIn {m : Int} {ns : List Int} : Rv K (rIn K true) (.int m) (.list (ns.map .int)) (.bool (!decide (m ∈ ns))) := rv_inI

/-! ### arguments, displays -/
theorem ea_nil : EvA K H0 tNil Γ (fun ts => ts = []) := fun B H σ E Q q => q [] [] B H rfl (Stp.refl E.ob) .nil
theorem ea_consP {tr : TA} {A : List Item → Prop} (h : EvP K H0 te Γ P) (hr : EvA K H0 tr Γ A) : EvA K H0 (tCons te tr) Γ (fun ts => ∃ d rs, ts = .dat d :: rs ∧ P d ∧ A rs) := fun B H σ E Q q =>
  h B H σ E _ fun v d B1 H1 p s1 hv => hr B1 H1 σ (E.step s1) _ fun vs rs B2 H2 a s2 hs => q _ _ B2 H2 ⟨d, rs, rfl, p, a⟩ (s1.trans s2) (.cons (Dp.up s2.eb hv) hs)
theorem EvA.imp {ta : TA} {A A' : List Item → Prop} (h : EvA K H0 ta Γ A) (w : ∀ ts, A ts → A' ts) : EvA K H0 ta Γ A' := fun B H σ E Q q => h B H σ E Q fun vs ts B2 H2 a => q vs ts B2 H2 (w ts a)
theorem ea_cons {tr : TA} {rs : List Item} (h : Ev K H0 te Γ d) (hr : EvA K H0 tr Γ (fun ts => ts = rs)) : EvA K H0 (tCons te tr) Γ (fun ts => ts = .dat d :: rs) :=
  (ea_consP h hr).imp fun ts ⟨d', rs', e, p, a⟩ => by rw [e, p, a]
/-- a dict of tuple keys handed on -/
theorem ea_consD {tr : TA} {rs : List Item} {kvs : List (List Key × V)} (h : Γ[i]? = some (.dt kvs) ∨ Γ[i]? = some (.bt kvs)) (hr : EvA K H0 tr Γ (fun ts => ts = rs)) : EvA K H0 (tCons (tVar i) tr) Γ (fun ts => ts = .bt kvs :: rs) := fun B H σ E Q q => by
  have z : ∃ l, σ[i]? = some (some (.ref l)) ∧ H l = some (.dT kvs) := by
    rcases h with h | h
    · obtain ⟨o, a, l, e, _, _, c⟩ := E.at_ i _ h; subst e; exact ⟨l, a, c⟩
    · obtain ⟨o, a, l, e, c⟩ := E.at_ i _ h; subst e; exact ⟨l, a, E.oh _ _ c⟩
  obtain ⟨l, a, c⟩ := z
  refine ⟨_, a, hr B H σ E _ fun vs ts B2 H2 e s hs => ?_⟩
  subst e
  exact q _ (.bt kvs :: ts) B2 H2 rfl s (.cons (show ArgOk K B2 H2 (.ref l) (.bt kvs) from ⟨l, rfl, s.eh _ _ c⟩) hs)
theorem args_data {B H : Hp} : ∀ {vs : List V} {ds : List PyData}, Paired (ArgOk K B H) vs (ds.map .dat) → DpAll K B vs ds
  | _, [], .nil => .nil
  | _, d :: ds, .cons h t => .cons h (args_data t)
theorem ev_tup {ta : TA} (h : EvA K H0 ta Γ (fun ts => ts = ds.map .dat)) (hl : ds.length ≤ 100000) : Ev K H0 (tTup ta) Γ (.tuple ds) := fun B H σ E Q q =>
  h B H σ E _ fun vs ts B1 H1 e s hs => by
    subst e
    have hd := args_data hs
    refine ⟨Nat.le_trans (by rw [dpa_len hd]; exact hl) (by decide), fun p hp => ?_⟩
    have x := Stp.new (o := .tup vs) s.ob hp
    exact q _ _ _ _ rfl (s.trans x) (.tup (.inl (.inl upd_same)) (DpAll.up x.eb hd))
theorem en_lst {ta : TA} (h : EvA K H0 ta Γ (fun ts => ts = ds.map .dat)) (hl : ds.length ≤ 100000) : EvN K H0 (tLst ta) Γ ds := fun B H σ E Q q =>
  h B H σ E _ fun vs ts B1 H1 e s hs => by
    subst e
    have hd := args_data hs
    refine ⟨Nat.le_trans (by rw [dpa_len hd]; exact hl) (by decide), fun p hp => ?_⟩
    have x := Stp.new (o := .lst vs) s.ob hp
    exact q _ _ _ _ (s.trans x) upd_same (DpAll.up x.eb hd)
theorem EvN.ev (h : EvN K H0 te Γ ds) : Ev K H0 te Γ (.list ds) := fun B H σ E Q q => h B H σ E Q fun p xs B2 H2 s e hd => q _ _ B2 H2 rfl s (.lst (.inl (.inl e)) hd)
theorem EvN.h (h : EvN K H0 te Γ ds) : EvH K H0 te Γ ds := fun B H σ E Q q => h B H σ E Q fun p xs B2 H2 s e hd => q _ _ B2 H2 s (s.ob _ _ e) hd
theorem EvN.is (h : EvN K H0 te Γ ds) (w : ds = es) : EvN K H0 te Γ es := w ▸ h
theorem ev_lst {ta : TA} (h : EvA K H0 ta Γ (fun ts => ts = ds.map .dat)) (hl : ds.length ≤ 100000) : Ev K H0 (tLst ta) Γ (.list ds) := (en_lst h hl).ev
theorem eh_own (h : Γ[i]? = some (.lst ds)) : EvH K H0 (tVar i) Γ ds := fun B H σ E Q q => by
  obtain ⟨o, a, l, xs, e, _, _, c, hd⟩ := E.at_ i _ h
  subst e
  exact ⟨_, a, q l xs B H (Stp.refl E.ob) c hd⟩
theorem en_cat (ha : EvH K H0 ta Γ ds) (hb : EvH K H0 tb Γ es) (hl : ds.length + es.length ≤ 100000) : EvN K H0 (tOp rCat ta tb) Γ (ds ++ es) := fun B H σ E Q q =>
  ha B H σ E _ fun p xs B1 H1 s1 e1 d1 => hb B1 H1 σ (E.step s1) _ fun p2 ys B2 H2 s2 e2 d2 => by
    have d1' := DpAll.up s2.eb d1
    refine ⟨p, p2, xs, ys, rfl, rfl, s2.eh _ _ e1, e2, Nat.le_trans (by rw [dpa_len d1, dpa_len d2]; exact hl) (by decide), fun a ha => ?_⟩
    have x := Stp.new (o := .lst (xs ++ ys)) s2.ob ha
    exact q a _ _ _ ((s1.trans s2).trans x) upd_same (DpAll.up x.eb (dpa_app d1' d2))

/-! ### slices -/
def cutG {α : Type} (xs : List α) (lo hi : Option Int) : List α := (xs.drop (HT.sIx xs.length 0 lo)).take (HT.sIx xs.length xs.length hi - HT.sIx xs.length 0 lo)
theorem cut_map {α β : Type} (f : α → β) (xs : List α) (lo hi : Option Int) : cutG (xs.map f) lo hi = (cutG xs lo hi).map f := by
  unfold cutG
  rw [List.length_map, List.map_take, List.map_drop]
theorem eo_none : EvO K H0 tNoPart Γ none := fun B H σ E Q q => q B H (Stp.refl E.ob)
theorem eo_some {n : Int} (h : Ev K H0 te Γ (.int n)) : EvO K H0 (tPart te) Γ (some n) := fun B H σ E Q q => h B H σ E _ fun v d B2 H2 e s hv => by
  subst e
  exact ⟨n, dp_int hv, q B2 H2 s⟩
theorem dpa_cut {B : Hp} {xs : List V} (h : DpAll K B xs ds) (lo hi : Option Int) : DpAll K B (cutV xs lo hi) (cutG ds lo hi) := by
  unfold cutV cutG
  rw [dpa_len h]
  exact dpa_take _ (dpa_drop _ h)
theorem en_slice {tl th : TO} {lo hi : Option Int} (h : Ev K H0 te Γ (.list ds)) (h1 : EvO K H0 tl Γ lo) (h2 : EvO K H0 th Γ hi) : EvN K H0 (tSl (rSlL K) te tl th) Γ (cutG ds lo hi) := fun B H σ E Q q =>
  h B H σ E _ fun v d B1 H1 e s1 hv => h1 B1 H1 σ (E.step s1) _ fun B2 H2 s2 => h2 B2 H2 σ (E.step (s1.trans s2)) _ fun B3 H3 s3 => by
    subst e
    obtain ⟨a, xs, rfl, sq, hd⟩ := dp_lst hv
    have e3 : Same B1 B3 := s2.eb.trans s3.eb
    refine ⟨a, xs, rfl, sqL_up (e3.trans s3.ob) sq, fun p hp => ?_⟩
    have x := Stp.new (o := .lst (cutV xs lo hi)) s3.ob hp
    exact q p _ _ _ (((s1.trans s2).trans s3).trans x) upd_same (DpAll.up x.eb (dpa_cut (DpAll.up e3 hd) lo hi))
theorem ev_sliceT {tl th : TO} {lo hi : Option Int} (h : Ev K H0 te Γ (.tuple ds)) (h1 : EvO K H0 tl Γ lo) (h2 : EvO K H0 th Γ hi) (hw : ¬ (HT.sIx ds.length 0 lo = 0 ∧ HT.sIx ds.length ds.length hi = ds.length)) : Ev K H0 (tSl (rSlT K) te tl th) Γ (.tuple (cutG ds lo hi)) := fun B H σ E Q q =>
  h B H σ E _ fun v d B1 H1 e s1 hv => h1 B1 H1 σ (E.step s1) _ fun B2 H2 s2 => h2 B2 H2 σ (E.step (s1.trans s2)) _ fun B3 H3 s3 => by
    subst e
    obtain ⟨a, xs, rfl, sq, hd⟩ := dp_tup hv
    have e3 : Same B1 B3 := s2.eb.trans s3.eb
    refine ⟨a, xs, rfl, sqT_up (e3.trans s3.ob) sq, by rw [dpa_len hd]; exact hw, fun p hp => ?_⟩
    have x := Stp.new (o := .tup (cutV xs lo hi)) s3.ob hp
    exact q _ _ _ _ rfl (((s1.trans s2).trans s3).trans x) (.tup (.inl (.inl upd_same)) (DpAll.up x.eb (dpa_cut (DpAll.up e3 hd) lo hi)))

/-! ### tests -/
theorem et_test {b : Bool} (h : Ev K H0 te Γ (.bool b)) : EvT K H0 (tTest te) Γ b := fun B H σ E Q q => h B H σ E _ fun v d B2 H2 e s hv => by
  subst e
  exact ⟨b, dp_bl hv, q B2 H2 s⟩
theorem et_B {b : Bool} (h : Ev K H0 te Γ (.bool b)) : EvT K H0 (tB te) Γ b := fun B H σ E Q q => h B H σ E _ fun v d B2 H2 e s hv => by
  subst e
  exact ⟨b, dp_bl hv, q B2 H2 s⟩
theorem et_testP {b : Bool} (h : EvP K H0 te Γ P) (w : ∀ d, P d → d = .bool b) : EvT K H0 (tTest te) Γ b := et_test (h.imp w)
theorem EvT.is {a b : Bool} (h : EvT K H0 t Γ a) (e : a = b) : EvT K H0 t Γ b := e ▸ h
theorem et_and {a b : Bool} (h1 : EvT K H0 t Γ a) (h2 : a = true → EvT K H0 u Γ b) : EvT K H0 (tAnd t u) Γ (a && b) := fun B H σ E Q q => h1 B H σ E _ fun B1 H1 s1 => by
  cases a with
  | true =>
    show u σ H1 Q
    exact h2 rfl B1 H1 σ (E.step s1) Q fun B2 H2 s2 => q B2 H2 (s1.trans s2)
  | false =>
    show Q false H1
    exact q B1 H1 s1
theorem et_or {a b : Bool} (h1 : EvT K H0 t Γ a) (h2 : a = false → EvT K H0 u Γ b) : EvT K H0 (tOr t u) Γ (a || b) := fun B H σ E Q q => h1 B H σ E _ fun B1 H1 s1 => by
  cases a with
  | true =>
    show Q true H1
    exact q B1 H1 s1
  | false =>
    show u σ H1 Q
    exact h2 rfl B1 H1 σ (E.step s1) Q fun B2 H2 s2 => q B2 H2 (s1.trans s2)
theorem et_not {a : Bool} (h1 : EvT K H0 t Γ a) : EvT K H0 (tNot t) Γ (!a) := fun B H σ E Q q => h1 B H σ E _ fun B1 H1 s1 => q B1 H1 s1
theorem ev_andV {a b : Bool} (h1 : Ev K H0 ta Γ (.bool a)) (h2 : a = true → Ev K H0 tb Γ (.bool b)) : Ev K H0 (tAndV ta tb) Γ (.bool (a && b)) := fun B H σ E Q q => h1 B H σ E _ fun v d B1 H1 e s1 hv => by
  subst e
  refine ⟨a, dp_bl hv, ?_⟩
  cases a with
  | true =>
    show tb σ H1 Q
    exact h2 rfl B1 H1 σ (E.step s1) Q fun v d B2 H2 e s2 hv => q v d B2 H2 e (s1.trans s2) hv
  | false =>
    show Q (.bl false) H1
    exact q _ _ B1 H1 rfl s1 (.bl _)
theorem ev_notV {a : Bool} (h1 : Ev K H0 ta Γ (.bool a)) : Ev K H0 (tNotV ta) Γ (.bool (!a)) := fun B H σ E Q q => h1 B H σ E _ fun v d B1 H1 e s1 hv => by
  subst e
  exact ⟨a, dp_bl hv, q _ _ B1 H1 rfl s1 (.bl _)⟩
theorem ev_chain {a b : Bool} (hx : Ev K H0 ta Γ dx) (hy : Ev K H0 tb Γ dy) (h1 : Rv K r dx dy (.bool a)) (hz : a = true → Ev K H0 tc Γ dz) (h2 : a = true → Rv K r' dy dz (.bool b)) : Ev K H0 (tChain r r' ta tb tc) Γ (.bool (a && b)) := fun B H σ E Q q =>
  hx B H σ E _ fun x d1 B1 H1 e1 s1 x1 => hy B1 H1 σ (E.step s1) _ fun y d2 B2 H2 e2 s2 y2 => by
    subst e1 e2
    refine h1 B2 H2 x y s2.ob (Dp.up s2.eb x1) y2 _ fun z d3 B3 H3 e3 s3 z3 => ?_
    subst e3
    refine ⟨a, dp_bl z3, ?_⟩
    have s123 := (s1.trans s2).trans s3
    cases a with
    | true =>
      show tc σ H3 _
      exact hz rfl B3 H3 σ (E.step s123) _ fun w d4 B4 H4 e4 s4 w4 => by
        subst e4
        exact h2 rfl B4 H4 y w s4.ob (Dp.up (s3.eb.trans s4.eb) y2) w4 Q fun v d B5 H5 e s5 hv => q v d B5 H5 e (s123.trans s4 |>.trans s5) hv
    | false =>
      show Q (.bl false) H3
      exact q _ _ B3 H3 rfl s123 (.bl _)

/-! ### calls -/
/-- a promise over data: what is asked of the arguments, what may come -/
def spX (K : PySem.W.Frag) (pre : List Item → Prop) (post : List Item → PyData → Prop) : Sp := fun vs H Q _ =>
  ∃ B ts, Same B H ∧ Paired (ArgOk K B H) vs ts ∧ pre ts ∧ ∀ v d B2 H2, post ts d → Stp B H B2 H2 → Dp K B2 v d → Q v H2
theorem ev_cb {rc : List V → Hp → VK → Prop} {ta : TA} {A : List Item → Prop} (h : EvA K H0 ta Γ A) (hr : ∀ ts, A ts → RcP K rc ts P) : EvP K H0 (tCB rc ta) Γ P := fun B H σ E Q q =>
  h B H σ E _ fun vs ts B1 H1 a s1 hs => hr ts a B1 H1 vs s1.ob hs Q fun v d B2 H2 p s2 => q v d B2 H2 p (s1.trans s2)
theorem ev_call {pre : List Item → Prop} {post : List Item → PyData → Prop} {X : XK} {ta : TA} {A : List Item → Prop} (h : EvA K H0 ta Γ A) (hr : ∀ ts, A ts → pre ts ∧ ∀ d, post ts d → P d) : EvP K H0 (tCall (spX K pre post) [] X ta) Γ P := fun B H σ E Q q =>
  h B H σ E _ fun vs ts B1 H1 a s1 hs => by
    rw [List.append_nil]
    exact ⟨B1, ts, s1.ob, hs, (hr ts a).1, fun v d B2 H2 p s2 => q v d B2 H2 ((hr ts a).2 d p) (s1.trans s2)⟩
theorem ev_call1 {pre : List Item → Prop} {post : List Item → PyData → Prop} {X : XK} {ta : TA} {ts : List Item} (h : EvA K H0 ta Γ (fun t => t = ts)) (hp : pre ts) (hr : ∀ e, post ts e → P e) : EvP K H0 (tCall (spX K pre post) [] X ta) Γ P :=
  ev_call h fun _ e => by rw [e]; exact ⟨hp, hr⟩
/-- built-in calls -/
theorem ev_lenL (h : Ev K H0 ta Γ (.list ds)) : Ev K H0 (tCB (fun xs H Q => ∃ p ys, xs = [.ref p] ∧ (SqL K H p ys ∨ SqT K H p ys) ∧ Q (.int ys.length) H) (tCons ta tNil)) Γ (.int (ds.length : Nat)) :=
  ev_cb (ea_cons h ea_nil) fun ts e B H vs o hs Q q => by
    subst e
    cases hs with
    | cons h1 t =>
      cases t
      obtain ⟨a, xs, rfl, s, hd⟩ := dp_lst h1
      exact ⟨a, xs, rfl, .inl (sqL_up o s), q _ _ B H rfl (Stp.refl o) (by rw [dpa_len hd]; exact .int _)⟩
theorem ev_lenT (h : Ev K H0 ta Γ (.tuple ds)) : Ev K H0 (tCB (fun xs H Q => ∃ p ys, xs = [.ref p] ∧ (SqL K H p ys ∨ SqT K H p ys) ∧ Q (.int ys.length) H) (tCons ta tNil)) Γ (.int (ds.length : Nat)) :=
  ev_cb (ea_cons h ea_nil) fun ts e B H vs o hs Q q => by
    subst e
    cases hs with
    | cons h1 t =>
      cases t
      obtain ⟨a, xs, rfl, s, hd⟩ := dp_tup h1
      exact ⟨a, xs, rfl, .inr (sqT_up o s), q _ _ B H rfl (Stp.refl o) (by rw [dpa_len hd]; exact .int _)⟩
theorem ev_sum {ns : List Int} (h : Ev K H0 ta Γ (.list (ns.map .int))) : Ev K H0 (tCB (rSum K) (tCons ta tNil)) Γ (.int ns.sum) :=
  ev_cb (ea_cons h ea_nil) fun ts e B H vs o hs Q q => by
    subst e
    cases hs with
    | cons h1 t =>
      cases t
      obtain ⟨a, xs, rfl, s, hd⟩ := dp_lst h1
      have e := dpa_ints hd
      subst e
      exact ⟨a, ns, rfl, sqL_up o s, q _ _ B H rfl (Stp.refl o) (.int _)⟩
theorem en_list (h : Ev K H0 ta Γ (.list ds)) : EvN K H0 (tCB (fun xs H Q => ∃ p ys, xs = [.ref p] ∧ (SqL K H p ys ∨ SqT K H p ys) ∧ ∀ l, H l = none → Q (.ref l) (upd H l (.lst ys))) (tCons ta tNil)) Γ ds := fun B H σ E Q q =>
  ea_cons h ea_nil B H σ E _ fun vs ts B1 H1 e s1 hs => by
    subst e
    cases hs with
    | cons h1 t =>
      cases t
      obtain ⟨a, xs, rfl, s, hd⟩ := dp_lst h1
      refine ⟨a, xs, rfl, .inl (sqL_up s1.ob s), fun l hl => ?_⟩
      have x := Stp.new (o := .lst xs) s1.ob hl
      exact q l _ _ _ (s1.trans x) upd_same (DpAll.up x.eb hd)
theorem ev_intB {b : Bool} (h : Ev K H0 ta Γ (.bool b)) : Ev K H0 (tCB (fun xs H Q => (∃ i, xs = [.int i] ∧ Q (.int i) H) ∨ ∃ k, xs = [.bl k] ∧ Q (.int (if k then 1 else 0)) H) (tCons ta tNil)) Γ (.int (if b then 1 else 0)) :=
  ev_cb (ea_cons h ea_nil) fun ts e B H vs o hs Q q => by
    subst e
    cases hs with
    | cons h1 t =>
      cases t
      have e := dp_bl h1
      subst e
      exact .inr ⟨b, rfl, q _ _ B H rfl (Stp.refl o) (.int _)⟩
end
end K58
set_option Elab.async false
set_option linter.all false
set_option maxRecDepth 100000
set_option maxHeartbeats 1000000
namespace K58
open PySem PySem.Spec PyProof.Rows L2

/-! ### statements -/
structure Po where
  nx : List Item → Prop := fun _ => False
  rt : V → Hp → Hp → Prop := fun _ _ _ => False
  bk : List Item → Prop := fun _ => False
  ct : List Item → Prop := fun _ => False
structure Hold (K : PySem.W.Frag) (H0 B : Hp) (φ : Po) (D : Ends) : Prop where
  nx : ∀ Γ σ B' H', φ.nx Γ → Rch H0 B B' → Sit K H0 B' H' σ Γ → D.nx σ H'
  rt : ∀ v B' H', φ.rt v B' H' → Rch H0 B B' → Same B' H' → Same H0 H' → D.rt v H'
  bk : ∀ Γ σ B' H', φ.bk Γ → Rch H0 B B' → Sit K H0 B' H' σ Γ → D.bk σ H'
  ct : ∀ Γ σ B' H', φ.ct Γ → Rch H0 B B' → Sit K H0 B' H' σ Γ → D.ct σ H'
def Sx (K : PySem.W.Frag) (H0 : Hp) (t : TS) (Γ : List Item) (φ : Po) : Prop :=
  ∀ (B H : Hp) (σ : L2.St) (D : Ends), Sit K H0 B H σ Γ → Hold K H0 B φ D → t D σ H
/-- data come back -/
abbrev rtP (K : PySem.W.Frag) (P : PyData → Prop) : V → Hp → Hp → Prop := fun v B _ => ∃ d, P d ∧ Dp K B v d
section
variable {K : PySem.W.Frag} {H0 : Hp}
theorem Hold.up {B B1 : Hp} {φ : Po} {D : Ends} (h : Hold K H0 B φ D) (r : Rch H0 B B1) : Hold K H0 B1 φ D :=
  ⟨fun Γ σ B' H' p x => h.nx Γ σ B' H' p (r.trans x), fun v B' H' p x => h.rt v B' H' p (r.trans x), fun Γ σ B' H' p x => h.bk Γ σ B' H' p (r.trans x), fun Γ σ B' H' p x => h.ct Γ σ B' H' p (r.trans x)⟩
theorem Hold.imp {B : Hp} {φ ψ : Po} {D : Ends} (h : Hold K H0 B ψ D) (a : ∀ Γ, φ.nx Γ → ψ.nx Γ) (b : ∀ v B H, φ.rt v B H → ψ.rt v B H) (c : ∀ Γ, φ.bk Γ → ψ.bk Γ) (d : ∀ Γ, φ.ct Γ → ψ.ct Γ) : Hold K H0 B φ D :=
  ⟨fun Γ σ B' H' p => h.nx Γ σ B' H' (a Γ p), fun v B' H' p => h.rt v B' H' (b v B' H' p), fun Γ σ B' H' p => h.bk Γ σ B' H' (c Γ p), fun Γ σ B' H' p => h.ct Γ σ B' H' (d Γ p)⟩
variable {Γ Γ' : List Item} {φ ψ : Po} {t u : TS} {te : TE} {tt : TT} {i : Nat} {P : PyData → Prop} {d : PyData} {ds : List PyData}
theorem Sx.imp (h : Sx K H0 t Γ φ) (a : ∀ Γ, φ.nx Γ → ψ.nx Γ) (b : ∀ v B H, φ.rt v B H → ψ.rt v B H) (c : ∀ Γ, φ.bk Γ → ψ.bk Γ) (d : ∀ Γ, φ.ct Γ → ψ.ct Γ) : Sx K H0 t Γ ψ := fun B H σ D E hd => h B H σ D E (hd.imp a b c d)
theorem sx_seq (h : Sx K H0 t Γ { φ with nx := fun Γ1 => Sx K H0 u Γ1 φ }) : Sx K H0 (tSeq t u) Γ φ := fun B H σ D E hd =>
  h B H σ { D with nx := u D } E ⟨fun Γ1 σ1 B1 H1 p r E1 => p B1 H1 σ1 D E1 (hd.up r), hd.rt, hd.bk, hd.ct⟩
/-- a slot let go -/
theorem sx_forget (i : Nat) (h : Sx K H0 t (Γ.set i .no) φ) : Sx K H0 t Γ φ := fun B H σ D E hd => h B H σ D E.forget hd
/-- an owned list becomes data -/
theorem sx_freeze (e : Γ[i]? = some (.lst ds)) (h : Sx K H0 t (Γ.set i (.dat (.list ds))) φ) : Sx K H0 t Γ φ := fun B H σ D E hd => by
  obtain ⟨B', r, E'⟩ := E.freeze e
  exact h B' H σ D E' (hd.up r)
theorem sx_next (h : φ.nx Γ) : Sx K H0 tNext Γ φ := fun B H σ D E hd => hd.nx Γ σ B H h Rch.refl E
theorem sx_asgP (h : EvP K H0 te Γ P) (k : ∀ d, P d → φ.nx (Γ.set i (.dat d))) : Sx K H0 (tAsg te (gName i)) Γ φ := fun B H σ D E hd =>
  h B H σ E _ fun v d B2 H2 p s hv => hd.nx _ _ B2 H2 (k d p) (s.rch E.oh) ((E.step s).set_dat hv)
theorem sx_asg (h : Ev K H0 te Γ d) (k : φ.nx (Γ.set i (.dat d))) : Sx K H0 (tAsg te (gName i)) Γ φ := sx_asgP h fun _ e => by rw [e]; exact k
/-- x = []: a list of one's own -/
theorem sx_newL (k : φ.nx (Γ.set i (.lst []))) : Sx K H0 (tAsg (tLst tNil) (gName i)) Γ φ := fun B H σ D E hd =>
  ⟨by decide, fun p hp => hd.nx _ _ B _ k Rch.refl (E.set_new hp ⟨p, [], rfl, E.oh.free hp, E.ob.free hp, upd_same, .nil⟩)⟩
theorem sx_newK (k : φ.nx (Γ.set i (.dk []))) : Sx K H0 (tAsg tDNewK (gName i)) Γ φ := fun B H σ D E hd =>
  fun p hp => hd.nx _ _ B _ k Rch.refl (E.set_new hp ⟨p, [], rfl, E.oh.free hp, E.ob.free hp, upd_same, .nil⟩)
theorem sx_newT (k : φ.nx (Γ.set i (.dt []))) : Sx K H0 (tAsg tDNewT (gName i)) Γ φ := fun B H σ D E hd =>
  fun p hp => hd.nx _ _ B _ k Rch.refl (E.set_new hp ⟨p, rfl, E.oh.free hp, E.ob.free hp, upd_same⟩)
/-- xs.append(e), xs one's own -/
theorem sx_app (h : Γ[i]? = some (.lst ds)) (he : EvP K H0 te Γ P) (hl : ds.length < 100000) (k : ∀ d, P d → φ.nx (Γ.set i (.lst (ds ++ [d])))) : Sx K H0 (tDrop (tBM K "list" rAppend (tVar i) (tCons te tNil))) Γ φ := fun B H σ D E hd => by
  obtain ⟨o, a, l, xs, e, z0, zb, zh, q⟩ := E.at_ i _ h
  subst e
  refine ⟨_, a, .inl ⟨rfl, xs, .inl (.inl zh)⟩, he B H σ E _ fun v d B2 H2 p s hv => ?_⟩
  have E2 := E.step s
  obtain ⟨z0', zb', zh'⟩ := E2.owned h rfl a
  have q' := DpAll.up s.eb q
  refine ⟨l, xs, v, rfl, rfl, s.eh _ _ zh, Nat.lt_of_lt_of_le (by rw [dpa_len q]; exact hl) (by decide), ?_⟩
  exact hd.nx _ _ B2 _ (k d p) (s.rch E.oh) (E2.mut h rfl a rfl ⟨l, _, rfl, z0', zb', upd_same, dpa_app q' (dpa_one hv)⟩)
theorem sx_if {b : Bool} (h : EvT K H0 tt Γ b) (h1 : b = true → Sx K H0 t Γ φ) (h2 : b = false → Sx K H0 u Γ φ) : Sx K H0 (tIfS tt t u) Γ φ := fun B H σ D E hd =>
  h B H σ E _ fun B2 H2 s => by
    cases b with
    | true =>
      show t D σ H2
      exact h1 rfl B2 H2 σ D (E.step s) (hd.up (s.rch E.oh))
    | false =>
      show u D σ H2
      exact h2 rfl B2 H2 σ D (E.step s) (hd.up (s.rch E.oh))
theorem sx_ret (h : EvP K H0 te Γ P) (k : ∀ v B H d, P d → Dp K B v d → φ.rt v B H) : Sx K H0 (tRet te) Γ φ := fun B H σ D E hd =>
  h B H σ E _ fun v d B2 H2 p s hv => hd.rt v B2 H2 (k v B2 H2 d p hv) (s.rch E.oh) s.ob (E.oh.trans s.eh)
theorem sx_retP {R : PyData → Prop} (h : EvP K H0 te Γ P) (k : ∀ d, P d → R d) (w : φ.rt = rtP K R) : Sx K H0 (tRet te) Γ φ := sx_ret h fun v B H d p q => by rw [w]; exact ⟨d, k d p, q⟩
/-- the list of one's own goes back -/
theorem sx_retL (e : Γ[i]? = some (.lst ds)) (k : ∀ v B H, Dp K B v (.list ds) → φ.rt v B H) : Sx K H0 (tRet (tVar i)) Γ φ := by
  have hi : i < Γ.length := (List.getElem?_eq_some_iff.mp e).1
  exact sx_freeze e (sx_ret (ev_var (set_at hi)) fun v B H d p q => k v B H (by rw [← p]; exact q))
theorem sx_drop (h : EvP K H0 te Γ P) (k : φ.nx Γ) : Sx K H0 (tDrop te) Γ φ := fun B H σ D E hd =>
  h B H σ E _ fun v d B2 H2 p s hv => hd.nx Γ σ B2 H2 k (s.rch E.oh) (E.step s)

/-! ### targets -/
/-- the target g takes d: the slots js may change -/
def Tg (K : PySem.W.Frag) (H0 : Hp) (g : TG) (js : List Nat) (d : PyData) (Γ Γ' : List Item) : Prop :=
  ∀ (B H : Hp) (σ : L2.St) (v : V), Sit K H0 B H σ Γ → Dp K B v d → ∀ Q : L2.St → Hp → Prop, (∀ σ' : L2.St, σ'.length = σ.length → (∀ j : Nat, j ∉ js → σ'[j]? = σ[j]?) → Sit K H0 B H σ' Γ' → Q σ' H) → g v σ H Q
def TgS (K : PySem.W.Frag) (H0 : Hp) (g : TGs) (js : List Nat) (ds : List PyData) (Γ Γ' : List Item) : Prop :=
  ∀ (B H : Hp) (σ : L2.St) (vs : List V), Sit K H0 B H σ Γ → DpAll K B vs ds → ∀ Q : L2.St → Hp → Prop, (∀ σ' : L2.St, σ'.length = σ.length → (∀ j : Nat, j ∉ js → σ'[j]? = σ[j]?) → Sit K H0 B H σ' Γ' → Q σ' H) → g vs σ H Q
theorem tg_name : Tg K H0 (gName i) [i] d Γ (Γ.set i (.dat d)) := fun B H σ v E hv Q q => q _ (List.length_set ..) (fun j hj => set_off (fun e => hj (by rw [e]; exact List.mem_singleton_self _))) (E.set_dat hv)
theorem tgs_nil : TgS K H0 gNil [] [] Γ Γ := fun B H σ vs E hv Q q => by
  cases hv
  exact ⟨rfl, q σ rfl (fun _ _ => rfl) E⟩
theorem tgs_cons {g : TG} {gs : TGs} {js ks : List Nat} {Γ1 Γ2 : List Item} (h : Tg K H0 g js d Γ Γ1) (hs : TgS K H0 gs ks ds Γ1 Γ2) : TgS K H0 (gCons g gs) (js ++ ks) (d :: ds) Γ Γ2 := fun B H σ vs E hv Q q => by
  cases hv with
  | cons h1 t =>
    exact ⟨_, _, rfl, h B H σ _ E h1 _ fun σ1 l1 e1 E1 => hs B H σ1 _ E1 t _ fun σ2 l2 e2 E2 => q σ2 (l2.trans l1) (fun j hj => (e2 j fun z => hj (List.mem_append_right _ z)).trans (e1 j fun z => hj (List.mem_append_left _ z))) E2⟩
theorem tg_tup {gs : TGs} {js : List Nat} {n : Nat} (h : TgS K H0 gs js ds Γ Γ') (hn : ds.length = n) : Tg K H0 (gTup K n gs) js (.tuple ds) Γ Γ' := fun B H σ v E hv Q q => by
  obtain ⟨a, xs, rfl, s, hd⟩ := dp_tup hv
  exact ⟨a, xs, rfl, sqT_up E.ob s, by rw [dpa_len hd]; exact hn, h B H σ xs E hd Q q⟩
/-- a, b = e -/
theorem sx_asgG {g : TG} {js : List Nat} (h : Ev K H0 te Γ d) (hg : Tg K H0 g js d Γ Γ') (k : φ.nx Γ') : Sx K H0 (tAsg te g) Γ φ := fun B H σ D E hd =>
  h B H σ E _ fun v d' B2 H2 p s hv => by
    subst p
    exact hg B2 H2 σ v (E.step s) hv _ fun σ' _ _ E' => hd.nx Γ' σ' B2 H2 k (s.rch E.oh) E'

/-! ### what is walked -/
def Wk (K : PySem.W.Frag) (H0 : Hp) (wi : TI) (Γ : List Item) (ds : List PyData) : Prop :=
  ∀ (B H : Hp) (σ : L2.St), Sit K H0 B H σ Γ → ∀ R : L2.It → Hp → Prop, (∀ (J : L2.It) (B2 H2 : Hp) (xs : List V), Stp B H B2 H2 → DpAll K B2 xs ds →
    (∀ H3, Same B2 H3 → ∀ i : Nat, (i < ds.length → J.go i H3) ∧ (ds.length ≤ i → J.stop i H3) ∧ ∀ x H4, i < ds.length → J.yld i H3 x H4 → H4 = H3 ∧ xs[i]? = some x) → R J H2) → wi σ H R
theorem wk_list {tl : TE} (h : Ev K H0 tl Γ (.list ds)) : Wk K H0 (iList K tl) Γ ds := fun B H σ E R q =>
  h B H σ E _ fun v d B2 H2 p s hv => by
    subst p
    obtain ⟨a, xs, rfl, sq, hd⟩ := dp_lst hv
    refine ⟨a, rfl, ⟨xs, sqL_up s.ob sq⟩, q _ B2 H2 xs s hd fun H3 e3 i => ⟨fun hi => ?_, fun hi => ?_, fun x H4 hi y => ?_⟩⟩
    · have hi' : i < xs.length := by rw [dpa_len hd]; exact hi
      exact ⟨xs, xs[i], sqL_up e3 sq, List.getElem?_eq_getElem hi'⟩
    · exact ⟨xs, sqL_up e3 sq, by rw [dpa_len hd]; exact hi⟩
    · exact ⟨y.1, y.2 xs (sqL_up e3 sq)⟩
theorem rng_get {lo : Int} {n i : Nat} (h : i < n) : ((List.range n).map fun k : Nat => V.int (lo + k))[i]? = some (V.int (lo + i)) := by
  rw [List.getElem?_map, List.getElem?_range h] <;> rfl
theorem rng_dpa {B : Hp} {lo : Int} (f : Nat → PyData) (hf : ∀ k : Nat, f k = .int (lo + k)) : ∀ l : List Nat, DpAll K B (l.map fun k : Nat => V.int (lo + k)) (l.map f)
  | [] => .nil
  | k :: l => .cons (by rw [hf]; exact .int _) (rng_dpa f hf l)
theorem wk_rng1 {ta : TE} {n : Int} (h : Ev K H0 ta Γ (.int n)) (h1 : n ≤ 100000) (h0 : -100000 ≤ n) : Wk K H0 (iRng1 (tCons ta tNil)) Γ ((List.range n.toNat).map fun k : Nat => .int k) := fun B H σ E R q =>
  h B H σ E _ fun v d B2 H2 p s hv => by
    subst p
    have e := dp_int hv
    subst e
    refine ⟨n, rfl, by omega, by omega, q _ B2 H2 ((List.range n.toNat).map fun k : Nat => V.int ((0 : Int) + k)) s (rng_dpa _ (fun k => by rw [Int.zero_add]) _) fun H3 e3 i => ?_⟩
    rw [List.length_map, List.length_range]
    exact ⟨fun hi => hi, fun hi => hi, fun x H4 hi y => ⟨y.1, by rw [y.2]; exact rng_get hi⟩⟩
theorem wk_rng2 {ta tb : TE} {m n : Int} (ha : Ev K H0 ta Γ (.int m)) (hb : Ev K H0 tb Γ (.int n)) (h1 : n ≤ 100000) (h0 : -100000 ≤ n) (h2 : m ≤ 100000) (h3 : -100000 ≤ m) :
    Wk K H0 (iRng2 (tCons ta (tCons tb tNil))) Γ ((List.range (n - m).toNat).map fun k : Nat => .int (m + k)) := fun B H σ E R q =>
  ha B H σ E _ fun v d B1 H1 p s1 hv => hb B1 H1 σ (E.step s1) _ fun v' d' B2 H2 p' s hv' => by
    subst p p'
    have e := dp_int hv
    subst e
    have e := dp_int hv'
    subst e
    refine ⟨m, n, rfl, ⟨by omega, by omega, by omega, by omega⟩, q _ B2 H2 ((List.range (n - m).toNat).map fun k : Nat => V.int (m + k)) (s1.trans s) (rng_dpa _ (fun k => rfl) _) fun H3 e3 i => ?_⟩
    rw [List.length_map, List.length_range]
    exact ⟨fun hi => hi, fun hi => hi, fun x H4 hi y => ⟨y.1, by rw [y.2]; exact rng_get hi⟩⟩

/-! ### for -/
theorem sx_for {α : Type} {wi : TI} {g : TG} {enc : α → PyData} (xs : List α) (hw : Wk K H0 wi Γ (xs.map enc)) (I : List α → List Item → Prop) (h0 : I [] Γ)
    (hs : ∀ pre x post Γ1, xs = pre ++ x :: post → I pre Γ1 → ∃ js Γ2, Tg K H0 g js (enc x) Γ1 Γ2 ∧ Sx K H0 t Γ2 { nx := I (pre ++ [x]), rt := φ.rt, bk := φ.nx, ct := I (pre ++ [x]) })
    (hd : ∀ Γ1, I xs Γ1 → φ.nx Γ1) : Sx K H0 (tFor wi g t) Γ φ := fun B H σ D E hD =>
  hw B H σ E _ fun J B2 H2 vs s dv hJ => by
    have r2 := s.rch E.oh
    have ln : (xs.map enc).length = xs.length := List.length_map _
    refine ⟨fun i m σ' H' => m = xs.length - i ∧ i ≤ xs.length ∧ ∃ B' Γ1, I (xs.take i) Γ1 ∧ Rch H0 B2 B' ∧ Sit K H0 B' H' σ' Γ1, ⟨_, rfl, Nat.zero_le _, B2, Γ, h0, Rch.refl, E.step s⟩, ?_⟩
    rintro i m σ' H' ⟨rfl, hi, B', Γ1, hI, r, E'⟩
    obtain ⟨j1, j2, j3⟩ := hJ H' (r.eb.trans E'.ob) i
    rw [ln] at j1 j2 j3
    by_cases hlt : i < xs.length
    · obtain ⟨js, Γ2, tg, sx⟩ := hs (xs.take i) xs[i] (xs.drop (i + 1)) Γ1 (by rw [← List.drop_eq_getElem_cons hlt, List.take_append_drop]) hI
      have et : xs.take i ++ [xs[i]] = xs.take (i + 1) := by rw [List.take_succ_eq_append_getElem hlt]
      rw [et] at sx
      refine .inr ⟨j1 hlt, fun σ3 H3 => ∃ B3 Γ3, I (xs.take (i + 1)) Γ3 ∧ Rch H0 B2 B3 ∧ Sit K H0 B3 H3 σ3 Γ3, fun σ3 H3 ⟨B3, Γ3, a, b, c⟩ => ⟨xs.length - (i + 1), by omega, rfl, hlt, B3, Γ3, a, b, c⟩, fun x H4 y => ?_⟩
      obtain ⟨e4, ex⟩ := j3 x H4 hlt y
      subst e4
      obtain ⟨d', hd1, hd2⟩ := dpa_getV dv ex
      have ed : d' = enc xs[i] := by
        rw [List.getElem?_map, List.getElem?_eq_getElem hlt] at hd1
        exact (Option.some.inj hd1).symm
      subst ed
      refine tg B' H4 σ' x E' (Dp.up r.eb hd2) _ fun σ2 _ _ E2 => sx B' H4 σ2 _ E2 ⟨fun Γ3 σ3 B3 H3 p r3 E3 => ⟨B3, Γ3, p, r.trans r3, E3⟩, fun v B3 H3 p r3 => hD.rt v B3 H3 p ((r2.trans r).trans r3), fun Γ3 σ3 B3 H3 p r3 E3 => hD.nx Γ3 σ3 B3 H3 p ((r2.trans r).trans r3) E3, fun Γ3 σ3 B3 H3 p r3 E3 => ⟨B3, Γ3, p, r.trans r3, E3⟩⟩
    · have e : i = xs.length := by omega
      subst e
      rw [List.take_length] at hI
      exact .inl ⟨j2 (Nat.le_refl _), hD.nx Γ1 σ' B' H' (hd Γ1 hI) (r2.trans r) E'⟩

/-! ### while -/
theorem sx_while (I : Nat → List Item → Prop) (m0 : Nat) (h0 : I m0 Γ)
    (hs : ∀ m Γ1, I m Γ1 → ∃ b, EvT K H0 tt Γ1 b ∧ (b = true → Sx K H0 t Γ1 { nx := fun Γ2 => ∃ m', m' < m ∧ I m' Γ2, rt := φ.rt, bk := φ.nx, ct := fun Γ2 => ∃ m', m' < m ∧ I m' Γ2 }) ∧ (b = false → φ.nx Γ1)) : Sx K H0 (tWhile tt t) Γ φ := fun B H σ D E hD => by
  refine ⟨fun m σ' H' => ∃ B' Γ1, I m Γ1 ∧ Rch H0 B B' ∧ Sit K H0 B' H' σ' Γ1, ⟨m0, B, Γ, h0, Rch.refl, E⟩, ?_⟩
  rintro m σ' H' ⟨B', Γ1, hI, r, E'⟩
  obtain ⟨b, hb, h1, h2⟩ := hs m Γ1 hI
  refine hb B' H' σ' E' _ fun B2 H2 s => ?_
  have r2 := r.trans (s.rch E'.oh)
  cases b with
  | true =>
    refine ⟨fun σ3 H3 => ∃ m', m' < m ∧ ∃ B3 Γ3, I m' Γ3 ∧ Rch H0 B B3 ∧ Sit K H0 B3 H3 σ3 Γ3, fun σ3 H3 ⟨m', a, b⟩ => ⟨m', a, b⟩, ?_⟩
    exact h1 rfl B2 H2 σ' _ (E'.step s) ⟨fun Γ3 σ3 B3 H3 ⟨m', a, p⟩ r3 E3 => ⟨m', a, B3, Γ3, p, r2.trans r3, E3⟩, fun v B3 H3 p r3 => hD.rt v B3 H3 p (r2.trans r3), fun Γ3 σ3 B3 H3 p r3 E3 => hD.nx Γ3 σ3 B3 H3 p (r2.trans r3) E3,
      fun Γ3 σ3 B3 H3 ⟨m', a, p⟩ r3 E3 => ⟨m', a, B3, Γ3, p, r2.trans r3, E3⟩⟩
  | false => exact hD.nx Γ1 σ' B2 H2 (h2 rfl) r2 (E'.step s)

/-! ### comprehensions -/
def wipeI (Γ : List Item) : List Nat → List Item
  | [] => Γ
  | v :: vs => (wipeI Γ vs).set v .no
theorem Sit.wiped {B H : Hp} {σ : L2.St} (E : Sit K H0 B H σ Γ) : ∀ vs : List Nat, Sit K H0 B H (wipe σ vs) (wipeI Γ vs)
  | [] => E
  | v :: vs => (Sit.wiped E vs).set_no
theorem wipe_in {σ : L2.St} {j : Nat} : ∀ {vs : List Nat}, j ∈ vs → j < σ.length → (wipe σ vs)[j]? = some none
  | [], h, _ => nomatch h
  | v :: vs, h, hl => by
    show ((wipe σ vs).set v none)[j]? = some none
    by_cases e : j = v
    · subst e; exact set_at (by rw [wipe_length]; exact hl)
    · rw [set_off e]
      exact wipe_in ((List.mem_cons.mp h).resolve_left e) hl
theorem wipe_eq {σ σ' : L2.St} {vs : List Nat} (hl : σ.length = σ'.length) (h : ∀ j, j ∉ vs → σ'[j]? = (wipe σ vs)[j]?) : wipe σ' vs = wipe σ vs := by
  apply List.ext_getElem?
  intro j
  by_cases e : j ∈ vs
  · by_cases q : j < σ.length
    · rw [wipe_in e q, wipe_in e (by rw [← hl]; exact q)]
    · rw [List.getElem?_eq_none (by rw [wipe_length]; omega), List.getElem?_eq_none (by rw [wipe_length]; omega)]
  · rw [wipe_out e, h j e]
/-- a new list -/
def EvF (K : PySem.W.Frag) (H0 : Hp) (te : TE) (Γ : List Item) (ds : List PyData) : Prop :=
  ∀ (B H : Hp) (σ : L2.St), Sit K H0 B H σ Γ → ∀ Q : VK, (∀ p xs B2 H2, Stp B H B2 H2 → H p = none → B2 p = some (.lst xs) → DpAll K B2 xs ds → Q (.ref p) H2) → te σ H Q
theorem EvF.n {te : TE} {Γ : List Item} {ds : List PyData} (h : EvF K H0 te Γ ds) : EvN K H0 te Γ ds := fun B H σ E Q q => h B H σ E Q fun p xs B2 H2 s _ e hd => q p xs B2 H2 s e hd
theorem ef_lcN {α : Type} {wi : TI} {g : TG} {vs : List Nat} {enc out : α → PyData} {keep : α → Bool} (good : List α → Prop)
    (hw : ∀ (B H : Hp) (σ : L2.St), Sit K H0 B H σ Γ → ∀ R : L2.It → Hp → Prop, (∀ (xs : List α) (J : L2.It) (B2 H2 : Hp) (us : List V), good xs → Stp B H B2 H2 → DpAll K B2 us (xs.map enc) →
      (∀ H3, Same B2 H3 → ∀ i : Nat, (i < (xs.map enc).length → J.go i H3) ∧ ((xs.map enc).length ≤ i → J.stop i H3) ∧ ∀ x H4, i < (xs.map enc).length → J.yld i H3 x H4 → H4 = H3 ∧ us[i]? = some x) → R J H2) → wi σ H R)
    (hl : ∀ xs, good xs → xs.length < 100000)
    (hs : ∀ xs, good xs → ∀ x ∈ xs, ∃ js Γ2, Tg K H0 g js (enc x) (wipeI Γ vs) Γ2 ∧ (∀ j ∈ js, j ∈ vs) ∧ EvT K H0 tt Γ2 (keep x) ∧ (keep x = true → Ev K H0 te Γ2 (out x)))
    (B H : Hp) (σ : L2.St) (E : Sit K H0 B H σ Γ) (Q : VK) (q : ∀ (xs : List α) p us B2 H2, good xs → Stp B H B2 H2 → H p = none → B2 p = some (.lst us) → DpAll K B2 us ((xs.filter keep).map out) → Q (.ref p) H2) : tLc wi g tt te vs σ H Q :=
  hw B H σ E _ fun xs J B2 H2 us gx s dv hJ => by
    have hl := hl xs gx
    have hs := hs xs gx
    have ln : (xs.map enc).length = xs.length := List.length_map _
    have E2 := E.step s
    intro D hD
    -- the new list is one's own, beside the frame
    refine ⟨fun i m H' => m = xs.length - i ∧ i ≤ xs.length ∧ ∃ B' acc, Stp B2 H2 B' (fun b => if b = D then none else H' b) ∧ B' D = none ∧ H' D = some (.lst acc) ∧ DpAll K B' acc (((xs.take i).filter keep).map out), ⟨_, rfl, Nat.zero_le _, B2, [], ?_, E2.ob.free hD, upd_same, .nil⟩, ?_⟩
    · refine ⟨Same.refl _, fun b u e => ?_, fun b u e => ?_, fun _ h _ => h⟩
      · have ne := ne_of_none e hD
        show (if b = D then none else upd H2 D (.lst []) b) = some u
        rw [if_neg ne, upd_ne ne]; exact e
      · have ne := ne_of_none (E2.ob _ _ e) hD
        show (if b = D then none else upd H2 D (.lst []) b) = some u
        rw [if_neg ne, upd_ne ne]; exact E2.ob _ _ e
    rintro i m H' ⟨rfl, hi, B', acc, st, bD, hDl, ha⟩
    have ob' : Same B' H' := fun b u e => by
      have z := st.ob b u e
      have z : (if b = D then none else H' b) = some u := z
      by_cases w : b = D
      · rw [if_pos w] at z; cases z
      · rw [if_neg w] at z; exact z
    have oh' : Same H2 H' := fun b u e => by
      have z := st.eh b u e
      have z : (if b = D then none else H' b) = some u := z
      by_cases w : b = D
      · rw [if_pos w] at z; cases z
      · rw [if_neg w] at z; exact z
    have fr' : ∀ b, B2 b = none → H2 b ≠ none → B' b = none := st.fr
    have sE : Stp B2 H2 B' H' := ⟨st.eb, oh', ob', fr'⟩
    obtain ⟨j1, j2, j3⟩ := hJ H' (st.eb.trans ob') i
    rw [ln] at j1 j2 j3
    by_cases hlt : i < xs.length
    · have et : xs.take (i + 1) = xs.take i ++ [xs[i]] := List.take_succ_eq_append_getElem hlt
      obtain ⟨js, Γ2, tg, hj, ht, he⟩ := hs xs[i] (List.getElem_mem hlt)
      refine .inr ⟨j1 hlt, fun H3 => ∃ B3 acc3, Stp B2 H2 B3 (fun b => if b = D then none else H3 b) ∧ B3 D = none ∧ H3 D = some (.lst acc3) ∧ DpAll K B3 acc3 (((xs.take (i + 1)).filter keep).map out), fun H3 w => ⟨xs.length - (i + 1), by omega, rfl, hlt, w⟩, fun x H4 y => ?_⟩
      obtain ⟨e4, ex⟩ := j3 x H4 hlt y
      subst e4
      obtain ⟨d', hd1, hd2⟩ := dpa_getV dv ex
      have ed : d' = enc xs[i] := by
        rw [List.getElem?_map, List.getElem?_eq_getElem hlt] at hd1
        exact (Option.some.inj hd1).symm
      subst ed
      refine tg B' H4 (wipe σ vs) x ((E2.step sE).wiped vs) (Dp.up st.eb hd2) _ fun σ2 l2 w2 S2 => ⟨wipe_eq (by rw [l2, wipe_length]) fun j hjn => w2 j fun z => hjn (hj j z), ?_⟩
      refine ht B' H4 σ2 S2 _ fun B5 H5 s5 => ?_
      have D5 : H5 D = some (.lst acc) := s5.eh _ _ hDl
      have bD5 : B5 D = none := s5.fr D bD (by rw [hDl]; exact fun z => nomatch z)
      -- B5 leaves D out
      have mk : ∀ {B6 H6 : Hp} {o : HO}, Stp B' H4 B6 H6 → B6 D = none → Stp B2 H2 B6 (fun b => if b = D then none else upd H6 D o b) := fun {B6 H6 o} s6 b6 => by
        refine ⟨st.eb.trans s6.eb, fun b u e => ?_, fun b u e => ?_, fun b h1 h2 => s6.fr b (fr' b h1 h2) (same_some oh' h2)⟩
        · have ne := ne_of_none e hD
          show (if b = D then none else upd H6 D o b) = some u
          rw [if_neg ne, upd_ne ne]; exact s6.eh _ _ (oh' _ _ e)
        · have ne : b ≠ D := fun w => by rw [w, b6] at e; cases e
          show (if b = D then none else upd H6 D o b) = some u
          rw [if_neg ne, upd_ne ne]; exact s6.ob _ _ e
      cases hk : keep xs[i] with
      | true =>
        show te σ2 H5 _
        refine he hk B5 H5 σ2 (S2.step s5) _ fun v d6 B6 H6 e6 s6 hv => ?_
        subst e6
        have s56 := s5.trans s6
        have D6 : H6 D = some (.lst acc) := s6.eh _ _ D5
        have bD6 : B6 D = none := s6.fr D bD5 (by rw [D5]; exact fun z => nomatch z)
        refine ⟨acc, D6, ?_, B6, acc ++ [v], mk s56 bD6, bD6, upd_same, ?_⟩
        · refine Nat.lt_of_lt_of_le (m := 100000) ?_ (by decide)
          rw [dpa_len ha, List.length_map]
          exact Nat.lt_of_le_of_lt (Nat.le_trans (List.length_filter_le _ _) (by rw [List.length_take]; omega)) hl
        · rw [et, List.filter_append, List.map_append, List.filter_cons, if_pos hk]
          exact dpa_app (DpAll.up s56.eb ha) (dpa_one hv)
      | false =>
        show ∃ B3 acc3, _
        have e5 : (fun b => if b = D then none else H5 b) = fun b => if b = D then none else upd H5 D (.lst acc) b := by
          funext b
          by_cases w : b = D
          · rw [if_pos w, if_pos w]
          · rw [if_neg w, if_neg w, upd_ne w]
        refine ⟨B5, acc, by rw [e5]; exact mk s5 bD5, bD5, D5, ?_⟩
        rw [et, List.filter_append, List.map_append, List.filter_cons, if_neg (by rw [hk]; decide)]
        show DpAll K B5 acc (_ ++ [])
        rw [List.append_nil]
        exact DpAll.up s5.eb ha
    · have e : i = xs.length := by omega
      subst e
      rw [List.take_length] at ha
      refine .inl ⟨j2 (Nat.le_refl _), ?_⟩
      -- the list becomes data
      have eb : Same B' (upd B' D (.lst acc)) := same_new bD
      have hb : Same (upd B' D (.lst acc)) H' := fun b u e => by
        by_cases w : b = D
        · subst w; rw [upd_same] at e; rw [← e]; exact hDl
        · rw [upd_ne w] at e; exact ob' b u e
      exact q xs D acc (upd B' D (.lst acc)) H' gx (s.trans ⟨st.eb.trans eb, oh', hb, fun b h1 h2 => by rw [upd_ne (fun w => h2 (by rw [w]; exact hD))]; exact fr' b h1 h2⟩) (s.eh.free hD) upd_same (DpAll.up eb ha)
theorem ef_lc {α : Type} {wi : TI} {g : TG} {vs : List Nat} {enc out : α → PyData} {keep : α → Bool} (xs : List α) (hw : Wk K H0 wi Γ (xs.map enc)) (hl : xs.length < 100000)
    (hs : ∀ x ∈ xs, ∃ js Γ2, Tg K H0 g js (enc x) (wipeI Γ vs) Γ2 ∧ (∀ j ∈ js, j ∈ vs) ∧ EvT K H0 tt Γ2 (keep x) ∧ (keep x = true → Ev K H0 te Γ2 (out x))) :
    EvF K H0 (tLc wi g tt te vs) Γ ((xs.filter keep).map out) := fun B H σ E Q q =>
  ef_lcN (fun ys => ys = xs) (fun B H σ E R k => hw B H σ E R fun J B2 H2 us s d h => k xs J B2 H2 us rfl s d h) (fun ys e => by rw [e]; exact hl) (fun ys e => by rw [e]; exact hs) B H σ E Q fun ys p us B2 H2 e s n bp hd => by
    subst e
    exact q p us B2 H2 s n bp hd
/-- over a list that is known in part -/
theorem ev_lcP {α : Type} {tl : TE} {g : TG} {vs : List Nat} {enc out : α → PyData} {keep : α → Bool} (good : List α → Prop) (h : EvP K H0 tl Γ (fun d => ∃ xs, good xs ∧ d = .list (xs.map enc))) (hl : ∀ xs, good xs → xs.length < 100000)
    (hs : ∀ xs, good xs → ∀ x ∈ xs, ∃ js Γ2, Tg K H0 g js (enc x) (wipeI Γ vs) Γ2 ∧ (∀ j ∈ js, j ∈ vs) ∧ EvT K H0 tt Γ2 (keep x) ∧ (keep x = true → Ev K H0 te Γ2 (out x))) :
    EvP K H0 (tLc (iList K tl) g tt te vs) Γ (fun d => ∃ xs, good xs ∧ d = .list ((xs.filter keep).map out)) := fun B H σ E Q q =>
  ef_lcN (wi := iList K tl) good (fun B H σ E R k => h B H σ E _ fun v d B2 H2 p s hv => by
    obtain ⟨xs, gx, rfl⟩ := p
    obtain ⟨a, us, rfl, sq, hd⟩ := dp_lst hv
    refine ⟨a, rfl, ⟨us, sqL_up s.ob sq⟩, k xs _ B2 H2 us gx s hd fun H3 e3 i => ⟨fun hi => ?_, fun hi => ?_, fun x H4 hi y => ?_⟩⟩
    · have hi' : i < us.length := by rw [dpa_len hd]; exact hi
      exact ⟨us, us[i], sqL_up e3 sq, List.getElem?_eq_getElem hi'⟩
    · exact ⟨us, sqL_up e3 sq, by rw [dpa_len hd]; exact hi⟩
    · exact ⟨y.1, y.2 us (sqL_up e3 sq)⟩) hl hs B H σ E Q fun xs p us B2 H2 gx s n bp hd => q _ _ B2 H2 ⟨xs, gx, rfl⟩ s (.lst (.inl (.inl bp)) hd)
theorem en_lc {α : Type} {wi : TI} {g : TG} {vs : List Nat} {enc out : α → PyData} {keep : α → Bool} (xs : List α) (hw : Wk K H0 wi Γ (xs.map enc)) (hl : xs.length < 100000)
    (hs : ∀ x ∈ xs, ∃ js Γ2, Tg K H0 g js (enc x) (wipeI Γ vs) Γ2 ∧ (∀ j ∈ js, j ∈ vs) ∧ EvT K H0 tt Γ2 (keep x) ∧ (keep x = true → Ev K H0 te Γ2 (out x))) :
    EvN K H0 (tLc wi g tt te vs) Γ ((xs.filter keep).map out) := (ef_lc xs hw hl hs).n
/-- a list comprehension over what one knows, its items new lists of ints: all new objects -/
theorem lc_fresh {wi : TI} {j : Nat} {te : TE} {vs : List Nat} {σ : L2.St} {H : Hp} {Q : VK} (n : Nat) (row : Nat → List Int) (val : Nat → V) (hj : j ∈ vs) (hn : n < 100000)
    (hw : ∀ R : L2.It → Hp → Prop, (∀ J H1, Same H H1 → (∀ H3, Same H1 H3 → ∀ i : Nat, (i < n → J.go i H3) ∧ (n ≤ i → J.stop i H3) ∧ ∀ x H4, i < n → J.yld i H3 x H4 → H4 = H3 ∧ x = val i) → R J H1) → wi σ H R)
    (turn : ∀ i, i < n → ∀ H', Same H H' → ∀ Q : VK, (∀ p H2, Same H' H2 → H' p = none → H2 p = some (.lst ((row i).map V.int)) → Q (.ref p) H2) → te ((wipe σ vs).set j (some (val i))) H' Q)
    (k : ∀ D (rs : List Addr) H2, Same H H2 → H D = none → H2 D = some (.lst (rs.map V.ref)) → rs.length = n → (∀ (i : Nat) x, rs[i]? = some x → H x = none ∧ x ≠ D ∧ H2 x = some (.lst ((row i).map V.int))) → Q (.ref D) H2) : tLc wi (gName j) tYes te vs σ H Q := by
  refine hw _ fun J H1 s1 hJ D hD => ?_
  have noD : H D = none := s1.free hD
  refine ⟨fun i m H' => m = n - i ∧ i ≤ n ∧ Same H1 (fun b => if b = D then none else H' b) ∧ ∃ rs : List Addr, H' D = some (.lst (rs.map V.ref)) ∧ rs.length = i ∧ ∀ (i : Nat) x, rs[i]? = some x → H x = none ∧ x ≠ D ∧ H' x = some (.lst ((row i).map V.int)), ⟨_, rfl, Nat.zero_le _, fun b u e => ?_, [], upd_same, rfl, fun i x e => by simp at e⟩, ?_⟩
  · have ne := ne_of_none e hD
    show (if b = D then none else upd H1 D (.lst []) b) = some u
    rw [if_neg ne, upd_ne ne]; exact e
  rintro i m H' ⟨rfl, hi, st, rs, hDl, hlen, hrs⟩
  have o' : Same H1 H' := fun b u e => by
    have z : (if b = D then none else H' b) = some u := st b u e
    by_cases w : b = D
    · rw [if_pos w] at z; cases z
    · rw [if_neg w] at z; exact z
  obtain ⟨j1, j2, j3⟩ := hJ H' o' i
  by_cases hlt : i < n
  · refine .inr ⟨j1 hlt, fun H3 => Same H1 (fun b => if b = D then none else H3 b) ∧ ∃ rs : List Addr, H3 D = some (.lst (rs.map V.ref)) ∧ rs.length = i + 1 ∧ ∀ (i : Nat) x, rs[i]? = some x → H x = none ∧ x ≠ D ∧ H3 x = some (.lst ((row i).map V.int)), fun H3 ⟨a, b⟩ => ⟨n - (i + 1), by omega, rfl, hlt, a, b⟩, fun x H4 y => ?_⟩
    obtain ⟨e4, ex⟩ := j3 x H4 hlt y
    subst e4 ex
    refine ⟨?_, ?_⟩
    · exact wipe_eq (by rw [List.length_set, wipe_length]) fun q hq => set_off fun e => hq (by rw [e]; exact hj)
    show te ((wipe σ vs).set j (some (val i))) H4 _
    refine turn i hlt H4 (s1.trans o') _ fun p H5 s5 hp h5 => ?_
    have D5 := s5 _ _ hDl
    have pD : p ≠ D := fun e => by rw [e, hDl] at hp; cases hp
    refine ⟨rs.map V.ref, D5, ?_, fun b u e => ?_, rs ++ [p], ?_, by rw [List.length_append, hlen]; rfl, fun q z hz => ?_⟩
    · rw [List.length_map, hlen]; exact Nat.lt_of_lt_of_le (Nat.lt_trans hlt hn) (by decide)
    · have ne := ne_of_none e hD
      show (if b = D then none else upd H5 D _ b) = some u
      rw [if_neg ne, upd_ne ne]; exact s5 _ _ (o' _ _ e)
    · rw [upd_same, List.map_append]; rfl
    · by_cases hq : q < rs.length
      · rw [List.getElem?_append_left hq] at hz
        obtain ⟨a, b, c⟩ := hrs q z hz
        exact ⟨a, b, by rw [upd_ne b]; exact s5 _ _ c⟩
      · rw [List.getElem?_append_right (by omega)] at hz
        have eq : q = i := by
          have := (List.getElem?_eq_some_iff.mp hz).1
          simp at this
          omega
        subst eq
        have ez : z = p := by
          rw [hlen, Nat.sub_self] at hz
          exact (Option.some.inj hz).symm
        subst ez
        exact ⟨(s1.trans o').free hp, pD, by rw [upd_ne pD]; exact h5⟩
  · have e : i = n := by omega
    exact .inl ⟨j2 (by omega), k D rs H' (s1.trans o') noD hDl (by rw [hlen, e]) hrs⟩
end
end K58
set_option Elab.async false
set_option linter.all false
set_option maxRecDepth 100000
set_option maxHeartbeats 1000000
namespace K58
open PySem PySem.Spec PyProof.Rows L2

/-! ### rules of the layer that were lacking -/
section
variable {X : Cx}
/-- xs[a::2], a list of ints: some ints, no more of them -/
def tStepL (K : PySem.W.Frag) (te : TE) (tl : TO) : TE := fun σ H Q => te σ H fun x H1 => tl σ H1 fun o H2 => ∃ (a : Addr) (ns : List Int), x = .ref a ∧ SqL K H2 a (ns.map V.int) ∧
  ∀ (ms : List Int) (p : Addr), ms.length ≤ ns.length → H2 p = none → Q (.ref p) (upd H2 p (.lst (ms.map V.int)))
theorem pick_ints {us : List Value} {ns : List Int} (h : IntsAre us ns) (ys : List Value) (hy : ∀ v ∈ ys, v ∈ us) : IntsAre ys (ys.map SrtO.iv) := SrtO.ints_iv fun v hv => SrtO.ints_mem h v (hy v hv)
theorem pick_mem (items : Array Value) (lo hi st : Option Int) : ∀ v ∈ (slicePick items lo hi st).toList, v ∈ items.toList := by
  intro v hv
  unfold slicePick at hv
  simp only [List.mem_filterMap] at hv
  obtain ⟨i, _, e⟩ := hv
  rw [← Array.getElem?_toList] at e
  exact List.mem_of_getElem? e
theorem pe_stepL {e : Expr} {lo : Option Expr} {te : TE} {tl : TO} {k : Nat} {p1 p3 pos : Pos} (he : PE X e te) (hl : PO X lo tl) : PE X (.Subscript e (.Slice lo none (some (.Constant (.int 2) k p1)) p3) pos) (tStepL X.K te tl) := by
  refine ⟨fun pins s σ H Q I h => ?_⟩
  refine Subscript_ (thn (he.run pins s σ H _ I h) fun v s1 ⟨x, H1, I1, r1, q1⟩ => ?_)
  have hst : PO X (some (.Constant (.int 2) k p1)) (tPart (tC (.int 2))) := po_some pe_int
  refine wpAny_Slice (thn (hl.run pins s1 σ H1 _ I1 q1) fun vl s2 ⟨l, H2, I2, pl, q2⟩ => ?_)
  obtain ⟨a, ns, ex, hx, q⟩ := q2
  subst ex
  cases r1
  refine thn (po_none.run pins s2 σ H2 (fun o H3 => o = none ∧ H3 = H2) I2 ⟨rfl, rfl⟩) fun vu s3 ⟨u, H3, I3, pu, eu, e3⟩ => ?_
  subst eu e3
  refine thn (hst.run pins s3 σ H3 (fun o H4 => o = some 2 ∧ H4 = H3) I3 ⟨2, rfl, rfl, rfl⟩) fun vs s4 ⟨o, H4, I4, ps, eo, e4⟩ => ?_
  subst eo e4
  have I5 : Inv X pins σ H4 { s4 with heap := s4.heap.push { cls := .type "slice", data := .fields #[vl, vu, vs] } } := I4.kept (t' := s4.toks) fun b ob q => Heap.get?_push_of_some _ q
  obtain ⟨its, r, ht, hz⟩ := I5.list hx
  have hlen := r.length
  show wpAny (model X.prog X.w) X.A (subscriptTail e (.Slice lo none (some (.Constant (.int 2) k p1)) p3) (.ref a) (.ref s4.heap.objs.size)) (EP X pins σ Q) X.xe { s4 with heap := s4.heap.push { cls := .type "slice", data := .fields #[vl, vu, vs] } }
  refine tail_any (ops := [.ref a, .ref s4.heap.objs.size]) ht.isList.typeIs (PySem.slot_list_getitem.lookup) ?_ (by with_unfolding_all rfl)
  refine wpAny_getItem_list_slice ht.isList (Heap.IsSliceOf.new _ vl vu vs) pl pu ps (by decide) ?_ (by rw [List.size_toArray]; omega)
  have hi := pick_ints r.ints _ (pick_mem its.toArray l none (some 2))
  have hle := slicePick_size_le its.toArray l none (some 2)
  have hl2 : ((slicePick its.toArray l none (some 2)).toList.map SrtO.iv).length ≤ ns.length := by
    rw [List.length_map] at hlen
    rw [List.length_map, Array.length_toList, hlen]
    rw [List.size_toArray] at hle
    exact hle
  refine ⟨.ref _, _, I5.laid (t' := s4.toks) (o := .lst (((slicePick its.toArray l none (some 2)).toList.map SrtO.iv).map V.int)) (fun b ob q => Heap.get?_push_of_some _ q) (Nat.le_refl _) ?_, rfl, q _ _ hl2 (I5.hok.fresh (Nat.le_refl _))⟩
  refine ⟨?_, _, 0, vals_of_ints hi, Heap.get?_push_size _ rfl⟩
  rw [List.length_map] at hz ⊢
  exact Nat.le_trans hl2 hz
/-- len(set(xs)), xs a list of ints -/
def tLenSetG (K : PySem.W.Frag) (ta : TE) : TE := fun σ H Q => ta σ H fun x H1 => ∃ (l : Addr) (ns : List Int), x = .ref l ∧ SqL K H1 l (ns.map V.int) ∧ ns.length ≤ 4000 ∧ Q (.int ((PyProof.Rows.firstMet (fun i => ns.getD i 0) ns.length).length : Nat)) H1
theorem pe_lenSetG {a : Expr} {ta : TE} {p p2 q pos : Pos} (hg : Gl X "len") (hm : X.mg "len" = none) (hg2 : Gl X "set") (hm2 : X.mg "set" = none) (ha : PE X a ta) (hc : X.calm = true := by rfl)
    (na : starEach [a] X.env = (false, eval a X.env) :: starEach [] X.env := by rfl) : PE X (.Call (.Name "len" p) [.Call (.Name "set" p2) [a] [] q] [] pos) (tLenSetG X.K ta) := by
  refine ⟨fun pins s σ H Q I h => ?_⟩
  refine Call_ (ld_blt I hg hm boot_len ?_)
  refine PyProof.Rows.callWith_builtin1 (PyProof.Rows.args_cons ?_ rfl) rfl rfl
  refine Call_ (ld_blt I hg2 hm2 boot_set ?_)
  refine PyProof.Rows.callWith_type1 (PyProof.Rows.args_cons (thn (ha.run pins s σ H _ I h) fun v s1 ⟨x, H1, I1, r1, q1⟩ => PyProof.Rows.args_nil ?_) na) na rfl
  obtain ⟨l, ns, rfl, hq, hl, q1⟩ := q1
  cases r1
  obtain ⟨its, r, pl, hz⟩ := I1.list hq
  have hlen : its.toArray.size = ns.length := by rw [List.size_toArray, ← r.length, List.length_map]
  refine call_set_list (I1.ok.hd hc) pl.isList (by simpa using RZ.intsAre_vals r) (by rw [hlen]; unfold scanBound; omega) fun h' tk hS hk => ?_
  refine PyProof.Rows.args_nil ?_
  rw [hlen] at hS
  have hle := PyProof.Rows.firstMet_length_le (fun i => ns.getD i 0) ns.length
  obtain ⟨o, es, ep, t, ho, hex, hd, _, _, _, hf, hn⟩ := hS
  have I2 : Inv X pins σ H1 { s1 with heap := h', toks := tk } := I1.kept fun b o e => hk b o (Heap.lt_size e) e
  exact call_len_set ho hex hd hf (by rw [hn] <;> omega) ⟨.int _, H1, I2.tok _, ⟨_, by rw [hn]⟩, q1⟩
/-- min(xs), xs a list of alike data -/
def rMinD (K : PySem.W.Frag) : List V → Hp → VK → Prop := fun vs H Q => ∃ (B : Hp) (a : Addr) (xs : List V) (x : PyData) (ds : List PyData), vs = [.ref a] ∧ Same B H ∧ SqL K H a xs ∧ DpAll K B xs (x :: ds) ∧ PySem.W.AlikeAll (x :: ds) ∧ PyData.depthAll (x :: ds) ≤ 60 ∧
  ∀ v, Dp K B v (PySem.W.minD x ds) → Q v H
theorem cr_minD (hc : X.calm = true) (hu : X.A.units + 64 < cLine) : CallR X (.builtin "min") (rMinD X.K) := by
  intro pins s σ H vs us Q I r h
  obtain ⟨B, a, xs, x, ds, rfl, ob, hs, hd, hal, hdep, q⟩ := h
  obtain ⟨its, rv, hl, _⟩ := I.list hs
  rw [Vals.ref1 r]
  obtain ⟨as, hr⟩ := Dp.readsAll I (x :: ds) xs its (DpAll.up ob hd) rv
  have hr' : ReadsAll s.heap its.toArray.toList (x :: ds) as := by simpa using hr
  have hn : its.toArray.size = ds.length + 1 := PySem.W.readsAll_len hr'
  refine call_min_walkH (PySem.W.iter_listW (A := X.A.in1) (I.ok.hd hc) hl.isList fun s₂ e W st hfp hw hk => ?_)
  refine ⟨_, _, _, _, _, _, _, s.heap, _, rfl, W, st, hfp, by omega, hw, hk, PySem.W.cmpIn_lt (A := X.A.in1) hr' hal (by show X.A.units + 1 + _ < _; omega), fun v s' hP m => ?_⟩
  obtain ⟨h', tk, rfl, hk'⟩ := PySem.W.moved_old e rfl m
  have e1 : its.toArray.size - 1 = ds.length := by omega
  have e2 := (PySem.W.argBest_fold PySem.W.dataLt PyData.none x ds ds.length (Nat.le_refl _))
  rw [List.take_length] at e2
  rw [e1] at hP
  obtain ⟨y, hy, ry⟩ : ∃ y, xs[argBest (fun i j => PySem.W.dataLt ((x :: ds).getD i .none) ((x :: ds).getD j .none)) ds.length]? = some y ∧ RelV y v := by
    have hP' : its[argBest (fun i j => PySem.W.dataLt ((x :: ds).getD i .none) ((x :: ds).getD j .none)) ds.length]? = some v := by simpa using hP
    cases z : xs[argBest (fun i j => PySem.W.dataLt ((x :: ds).getD i .none) ((x :: ds).getD j .none)) ds.length]? with
    | none =>
      have := rv.none_of z
      rw [this] at hP'
      cases hP'
    | some y =>
      obtain ⟨u, hu', ru⟩ := rv.get z
      rw [hu'] at hP'
      cases hP'
      exact ⟨y, rfl, ru⟩
  obtain ⟨d, h1, h2⟩ := dpa_getV hd hy
  have ed : d = PySem.W.minD x ds := by
    have e3 := e2.2
    rw [List.getD_eq_getElem?_getD, h1] at e3
    exact e3
  subst ed
  exact ⟨y, H, I.kept hk', ry, q y h2⟩
/-- sorted(xs), xs a list of pairs of ints -/
abbrev encP (p : Int × Int) : PyData := .tuple [.int p.1, .int p.2]
def rSortedD (K : PySem.W.Frag) : List V → Hp → VK → Prop := fun vs H Q => ∃ (B : Hp) (a : Addr) (xs : List V) (ps : List (Int × Int)), vs = [.ref a] ∧ Same B H ∧ SqL K H a xs ∧ DpAll K B xs (ps.map encP) ∧
  ∀ (ys : List V) (p : Addr), DpAll K B ys ((ps.mergeSort (PySem.W.dataLe false encP)).map encP) → H p = none → Q (.ref p) (upd H p (.lst ys))
theorem each_of {K : PySem.W.Frag} {H : Hp} : ∀ {xs : List V} {us : List Value} {ps : List (Int × Int)}, Vals xs us → DpAll K H xs (ps.map encP) → PySem.W.EachIs (fun v p => ∃ x, RelV x v ∧ Dp K H x (encP p)) us ps
  | _, _, [], .nil, .nil => .nil
  | _, _, p :: ps, .cons r rs, .cons h t => .cons ⟨_, r, h⟩ (each_of rs t)
theorem each_back {K : PySem.W.Frag} {H : Hp} : ∀ {us : List Value} {ps : List (Int × Int)}, PySem.W.EachIs (fun v p => ∃ x, RelV x v ∧ Dp K H x (encP p)) us ps → ∃ xs, Vals xs us ∧ DpAll K H xs (ps.map encP)
  | _, [], .nil => ⟨[], .nil, .nil⟩
  | _, p :: ps, .cons ⟨x, r, h⟩ t => by
    obtain ⟨xs, rs, hs⟩ := each_back t
    exact ⟨x :: xs, .cons r rs, .cons h hs⟩
theorem cr_sortedD (hu : X.A.units + 64 < cLine) : CallR X (.builtin "sorted") (rSortedD X.K) := by
  intro pins s σ H vs us Q I r h
  obtain ⟨B, a, xs, ps, rfl, ob, hs, hd, q⟩ := h
  obtain ⟨its, rv, hl, hz⟩ := I.list hs
  rw [Vals.ref1 r]
  have hlen : ps.length = xs.length := by rw [dpa_len hd, List.length_map]
  have e := each_of rv hd
  have er : PySem.W.EachIs (fun v p => ∃ as, Reads s.heap v (encP p) as) its ps := e.mono fun v p ⟨x, rx, hx⟩ => Dp.reads I (encP p) x v (Dp.up ob hx) rx
  refine PySem.W.sorted_data hl.isList e er (PySem.W.AllAlike.of fun b b' => by simp [encP, PySem.W.alike, PySem.W.alikeAll]) (PySem.W.Sortable.tuples fun b => ⟨_, _, rfl⟩) (by rw [hlen]; exact hz) (fun b _ => by
    have : (encP b).depth ≤ 60 := by simp [encP, PyData.depth, PyData.depthAll]
    omega) fun out ho eo => ?_
  obtain ⟨ys, ry, hy⟩ := each_back eo
  obtain ⟨ep, he'⟩ := PyProof.Rows.sortedAll_at s.heap its out.toArray
  have hl2 : ys.length ≤ sizeLine := by rw [ry.length, ho, hlen]; exact hz
  exact ⟨.ref _, upd H (s.heap.objs.size + 1) (.lst ys), I.laid (t' := s.toks) (fun _ _ => PyProof.Rows.sortedAll_old) (Nat.le_succ _) ⟨hl2, out, ep, ry, he'⟩, rfl, q _ _ hy (I.hok.fresh (Nat.le_succ _))⟩
end
end K58
set_option Elab.async false
set_option linter.all false
set_option maxRecDepth 100000
set_option maxHeartbeats 1000000
namespace K58
open PySem PySem.Spec PyProof.Rows L2

/-! ### dicts by data -/
def lookI (kvs : List (Int × PyData)) (k : Int) : Option PyData := (kvs.find? fun kv => decide (kv.1 = k)).map (·.2)
def putI (kvs : List (Int × PyData)) (k : Int) (d : PyData) : List (Int × PyData) :=
  if (kvs.any fun kv => decide (kv.1 = k)) = true then kvs.map (fun kv => if kv.1 = k then (kv.1, d) else kv) else kvs ++ [(k, d)]
def mergeI (kvs more : List (Int × PyData)) : List (Int × PyData) := more.foldl (fun acc kv => putI acc kv.1 kv.2) kvs
section
variable {K : PySem.W.Frag} {B : Hp}
theorem inl_dec {a b : Int} : decide ((Sum.inl a : Key) = .inl b) = decide (a = b) := by rw [key_ll]; by_cases h : a = b <;> simp [h]
theorem KD.look (k : Int) : ∀ {ks : List (Key × V)} {kvs : List (Int × PyData)}, KD K B ks kvs → (∀ d, lookI kvs k = some d → ∃ v, valV ks (.inl k) = some v ∧ Dp K B v d) ∧ (lookI kvs k = none → valV ks (.inl k) = none)
  | _, _, .nil => ⟨fun d e => by simp [lookI] at e, fun _ => rfl⟩
  | p :: ks, q :: kvs, .cons ⟨h1, h2⟩ t => by
    have ih := KD.look k t
    by_cases e : q.1 = k
    · have e1 : lookI (q :: kvs) k = some q.2 := by unfold lookI; rw [List.find?_cons, decide_eq_true e]; rfl
      have e2 : valV (p :: ks) (.inl k) = some p.2 := valV_pos (by rw [h1, e])
      exact ⟨fun d z => ⟨p.2, e2, by rw [e1] at z; cases z; exact h2⟩, fun z => by rw [e1] at z; cases z⟩
    · have e1 : lookI (q :: kvs) k = lookI kvs k := by unfold lookI; rw [List.find?_cons, decide_eq_false e]
      have e2 : valV (p :: ks) (.inl k) = valV ks (.inl k) := valV_neg (by rw [h1]; exact fun z => e (Sum.inl.inj z))
      rw [e1, e2]
      exact ih
theorem KD.any (k : Int) : ∀ {ks : List (Key × V)} {kvs : List (Int × PyData)}, KD K B ks kvs → (ks.any fun kv => decide (kv.1 = .inl k)) = (kvs.any fun kv => decide (kv.1 = k))
  | _, _, .nil => rfl
  | p :: ks, q :: kvs, .cons ⟨h1, h2⟩ t => by rw [List.any_cons, List.any_cons, KD.any k t, h1, inl_dec]
theorem KD.repl {k : Int} {v : V} {d : PyData} (hv : Dp K B v d) : ∀ {ks : List (Key × V)} {kvs : List (Int × PyData)}, KD K B ks kvs → KD K B (ks.map fun kv => if kv.1 = .inl k then (kv.1, v) else kv) (kvs.map fun kv => if kv.1 = k then (kv.1, d) else kv)
  | _, _, .nil => .nil
  | p :: ks, q :: kvs, .cons ⟨h1, h2⟩ t => by
    rw [List.map_cons, List.map_cons]
    refine .cons ?_ (KD.repl hv t)
    by_cases e : q.1 = k
    · rw [if_pos e, if_pos (by rw [h1, e])]; exact ⟨h1, hv⟩
    · rw [if_neg e, if_neg (by rw [h1]; exact fun z => e (Sum.inl.inj z))]; exact ⟨h1, h2⟩
theorem paired_app {α β : Type} {F : α → β → Prop} : ∀ {l : List α} {m : List β} {l' : List α} {m' : List β}, Paired F l m → Paired F l' m' → Paired F (l ++ l') (m ++ m')
  | _, _, _, _, .nil, h => h
  | _, _, _, _, .cons r t, h => .cons r (paired_app t h)
theorem KD.put {k : Int} {v : V} {d : PyData} (hv : Dp K B v d) {ks : List (Key × V)} {kvs : List (Int × PyData)} (h : KD K B ks kvs) : KD K B (putK ks (.inl k) v) (putI kvs k d) := by
  unfold putK putI
  rw [KD.any k h]
  split
  · exact KD.repl hv h
  · exact paired_app h (.cons ⟨rfl, hv⟩ .nil)
theorem KD.len {ks : List (Key × V)} {kvs : List (Int × PyData)} (h : KD K B ks kvs) : ks.length = kvs.length := Paired.length h
theorem KD.keys : ∀ {ks : List (Key × V)} {kvs : List (Int × PyData)}, KD K B ks kvs → ks.map (·.1) = (kvs.map (·.1)).map Sum.inl
  | _, _, .nil => rfl
  | p :: ks, q :: kvs, .cons ⟨h1, h2⟩ t => by rw [List.map_cons, KD.keys t, h1]; rfl
theorem KD.merge : ∀ {ms : List (Key × V)} {more : List (Int × PyData)} {ks : List (Key × V)} {kvs : List (Int × PyData)}, KD K B ms more → KD K B ks kvs → KD K B (mergeK ks ms) (mergeI kvs more)
  | _, _, _, _, .nil, h => h
  | p :: ms, q :: more, ks, kvs, .cons ⟨h1, h2⟩ t, h => by
    show KD K B (mergeK (putK ks p.1 p.2) ms) (mergeI (putI kvs q.1 q.2) more)
    rw [h1]
    exact KD.merge t (KD.put h2 h)
end
section
variable {K : PySem.W.Frag} {H0 : Hp} {Γ : List Item} {ta tb tc te ty : TE} {P : PyData → Prop} {d : PyData} {ds : List PyData} {i : Nat} {φ : Po} {kvs : List (Int × PyData)} {kts : List (List Key × V)}
/-- a new tuple -/
def EvU (K : PySem.W.Frag) (H0 : Hp) (te : TE) (Γ : List Item) (ds : List PyData) : Prop :=
  ∀ (B H : Hp) (σ : L2.St), Sit K H0 B H σ Γ → ∀ Q : VK, (∀ p xs B2 H2, Stp B H B2 H2 → H2 p = some (.tup xs) → DpAll K B2 xs ds → Q (.ref p) H2) → te σ H Q
theorem eu_tup {ta : TA} (h : EvA K H0 ta Γ (fun ts => ts = ds.map .dat)) (hl : ds.length ≤ 100000) : EvU K H0 (tTup ta) Γ ds := fun B H σ E Q q =>
  h B H σ E _ fun vs ts B1 H1 e s hs => by
    subst e
    have hd := args_data hs
    refine ⟨Nat.le_trans (by rw [dpa_len hd]; exact hl) (by decide), fun p hp => ?_⟩
    have x := Stp.new (o := .tup vs) s.ob hp
    exact q _ _ _ _ (s.trans x) upd_same (DpAll.up x.eb hd)
theorem Sit.dk {B H : Hp} {σ : L2.St} (E : Sit K H0 B H σ Γ) (h : Γ[i]? = some (.dk kvs)) : ∃ l ks, σ[i]? = some (some (.ref l)) ∧ H l = some (.dK ks) ∧ KD K B ks kvs := by
  obtain ⟨o, a, l, ks, e, _, _, c, q⟩ := E.at_ i _ h
  subst e
  exact ⟨l, ks, a, c, q⟩
theorem Sit.dT {B H : Hp} {σ : L2.St} (E : Sit K H0 B H σ Γ) (h : Γ[i]? = some (.dt kts) ∨ Γ[i]? = some (.bt kts)) : ∃ l, σ[i]? = some (some (.ref l)) ∧ H l = some (.dT kts) := by
  rcases h with h | h
  · obtain ⟨o, a, l, e, _, _, c⟩ := E.at_ i _ h; subst e; exact ⟨l, a, c⟩
  · obtain ⟨o, a, l, e, c⟩ := E.at_ i _ h; subst e; exact ⟨l, a, E.oh _ _ c⟩
theorem ev_dgetK (h : Γ[i]? = some (.dk kvs)) {k : Int} (hk : Ev K H0 ty Γ (.int k)) (hl : lookI kvs k = some d) : Ev K H0 (tDGet (tVar i) ty) Γ d := fun B H σ E Q q => by
  obtain ⟨l, ks, a, c, kd⟩ := E.dk h
  refine ⟨_, a, hk B H σ E _ fun y d' B2 H2 e s hy => ?_⟩
  subst e
  rw [dp_int hy]
  obtain ⟨v, e1, e2⟩ := (KD.look k kd).1 d hl
  exact ⟨l, v, rfl, by rw [← e1]; exact DGet.k (k := .inl k) (s.eh _ _ c), q v d B2 H2 rfl s (Dp.up s.eb e2)⟩
theorem ev_dgetT (h : Γ[i]? = some (.dt kts) ∨ Γ[i]? = some (.bt kts)) {m n z : Int} (hk : EvU K H0 ty Γ [.int m, .int n]) (hl : valV kts [.inl m, .inl n] = some (.int z)) : Ev K H0 (tDGet (tVar i) ty) Γ (.int z) := fun B H σ E Q q => by
  obtain ⟨l, a, c⟩ := E.dT h
  refine ⟨_, a, hk B H σ E _ fun p xs B2 H2 s hp hx => ?_⟩
  have e : xs = ([.inl m, .inl n] : List Key).map kV := dpa_ints (ns := [m, n]) hx
  subst e
  exact ⟨l, _, rfl, by rw [← hl]; exact DGet.t (s.eh _ _ c) hp, q _ _ B2 H2 rfl s (.int z)⟩
theorem et_inK (h : Γ[i]? = some (.dk kvs)) {k : Int} (hk : Ev K H0 ty Γ (.int k)) : EvT K H0 (tB (tDIn ty (tVar i))) Γ (lookI kvs k).isSome := fun B H σ E Q q => by
  refine hk B H σ E _ fun y d' B2 H2 e s hy => ?_
  subst e
  obtain ⟨l, ks, a, c, kd⟩ := (E.step s).dk h
  rw [dp_int hy]
  have hl := KD.look k kd
  refine ⟨_, a, l, _, rfl, DGet.k (k := .inl k) c, _, rfl, ?_⟩
  have e : (valV ks (.inl k)).isSome = (lookI kvs k).isSome := by
    cases z : lookI kvs k with
    | none => rw [hl.2 z]; rfl
    | some d => obtain ⟨v, e1, _⟩ := hl.1 d z; rw [e1]; rfl
  rw [e]
  exact q B2 H2 s
theorem ev_lenK (h : Γ[i]? = some (.dk kvs)) : Ev K H0 (tCB (fun xs H Q => ∃ a kvs, xs = [V.ref a] ∧ H a = some (.dK kvs) ∧ Q (.int kvs.length) H) (tCons (tVar i) tNil)) Γ (.int (kvs.length : Nat)) := fun B H σ E Q q => by
  obtain ⟨l, ks, a, c, kd⟩ := E.dk h
  exact ⟨_, a, l, ks, rfl, c, q _ _ B H rfl (Stp.refl E.ob) (by rw [kd.len]; exact .int _)⟩
theorem ev_sortedK (h : Γ[i]? = some (.dk kvs)) (hn : kvs.length < 64) : EvP K H0 (tCB (fun xs H Q => ∃ (a : Addr) (kvs : List (Key × V)) (ks : List Int), xs = [.ref a] ∧ Rd H a (.dK kvs) ∧ kvs.map (·.1) = ks.map Sum.inl ∧ ks.length < 64 ∧
    ∀ (ys : List Int) (p : Addr), ys.Perm ks → ys.Pairwise (· ≤ ·) → H p = none → Q (.ref p) (upd H p (.lst (ys.map V.int)))) (tCons (tVar i) tNil)) Γ (fun d => ∃ ys : List Int, d = .list (ys.map .int) ∧ ys.Perm (kvs.map (·.1)) ∧ ys.Pairwise (· ≤ ·)) := fun B H σ E Q q => by
  obtain ⟨l, ks, a, c, kd⟩ := E.dk h
  refine ⟨_, a, l, ks, kvs.map (·.1), rfl, .inl c, kd.keys, by rw [List.length_map]; exact hn, fun ys p hp hs hf => ?_⟩
  have x := Stp.new (o := .lst (ys.map V.int)) E.ob hf
  exact q _ _ _ _ ⟨ys, rfl, hp, hs⟩ x (.lst (.inl (.inl upd_same)) (ints_dpa ys))
/-- d[k] = e, d one's own -/
theorem sx_putK (h : Γ[i]? = some (.dk kvs)) (hv : Ev K H0 te Γ d) {k : Int} (hk : Ev K H0 ty Γ (.int k)) (hl : kvs.length < 100000) (z : φ.nx (Γ.set i (.dk (putI kvs k d)))) : Sx K H0 (sDPut (tVar i) ty te) Γ φ := fun B H σ D E hd =>
  hv B H σ E _ fun v d1 B1 H1 e1 s1 v1 => by
    subst e1
    have E1 := E.step s1
    obtain ⟨l, ks, a, _, _⟩ := E1.dk h
    refine ⟨_, a, hk B1 H1 σ E1 _ fun y d2 B2 H2 e2 s2 y2 => ?_⟩
    subst e2
    rw [dp_int y2]
    have E2 := E1.step s2
    obtain ⟨l', ks', a', c, kd⟩ := E2.dk h
    rw [a] at a'
    cases a'
    obtain ⟨z0, zb, _⟩ := E2.owned h rfl a
    refine ⟨l, _, rfl, DPut.k (k := .inl k) c (Nat.lt_of_lt_of_le (by rw [kd.len]; exact hl) (by decide)), ?_⟩
    exact hd.nx _ _ B2 _ z ((s1.trans s2).rch E.oh) (E2.mut h rfl a rfl ⟨l, _, rfl, z0, zb, upd_same, kd.put (Dp.up s2.eb v1)⟩)
theorem sx_putT (h : Γ[i]? = some (.dt kts)) {z m n : Int} (hv : Ev K H0 te Γ (.int z)) (hk : EvU K H0 ty Γ [.int m, .int n]) (hl : kts.length < 100000) (w : φ.nx (Γ.set i (.dt (putK kts [.inl m, .inl n] (.int z))))) : Sx K H0 (sDPut (tVar i) ty te) Γ φ := fun B H σ D E hd =>
  hv B H σ E _ fun v d1 B1 H1 e1 s1 v1 => by
    subst e1
    have E1 := E.step s1
    obtain ⟨l, a, _⟩ := E1.dT (.inl h)
    refine ⟨_, a, hk B1 H1 σ E1 _ fun p xs B2 H2 s2 hp hx => ?_⟩
    have e : xs = ([.inl m, .inl n] : List Key).map kV := dpa_ints (ns := [m, n]) hx
    subst e
    rw [dp_int v1]
    have E2 := E1.step s2
    obtain ⟨l', a', c⟩ := E2.dT (.inl h)
    rw [a] at a'
    cases a'
    obtain ⟨z0, zb, _⟩ := E2.owned h rfl a
    refine ⟨l, _, rfl, DPut.t c hp (Nat.lt_of_lt_of_le hl (by decide)), ?_⟩
    exact hd.nx _ _ B2 _ w ((s1.trans s2).rch E.oh) (E2.mut h rfl a rfl ⟨l, rfl, z0, zb, upd_same⟩)
/-- dict(xs) of pairs -/
theorem pairs_dpa {B H : Hp} (o : Same B H) : ∀ {S : List (Int × Int)} {xs : List V}, DpAll K B xs (S.map encP) → ∃ (ps : List Addr) (ks : List (Key × V)), xs = ps.map V.ref ∧ Paired (fun p kv => SqT K H p [kV kv.1, kv.2]) ps ks ∧ KD K B ks (S.map fun p => (p.1, .int p.2))
  | [], _, .nil => ⟨[], [], rfl, .nil, .nil⟩
  | p :: S, _, .cons h t => by
    obtain ⟨a, ys, rfl, s, hd⟩ := dp_tup h
    have e : ys = [V.int p.1, V.int p.2] := dpa_ints (ns := [p.1, p.2]) hd
    subst e
    obtain ⟨ps, ks, rfl, h1, h2⟩ := pairs_dpa o t
    exact ⟨a :: ps, (.inl p.1, .int p.2) :: ks, rfl, .cons (sqT_up o s) h1, .cons ⟨rfl, .int p.2⟩ h2⟩
theorem sx_dictP {S : List (Int × Int)} (h : Ev K H0 te Γ (.list (S.map encP))) (k : φ.nx (Γ.set i (.dk (mergeI [] (S.map fun p => (p.1, .int p.2)))))) :
    Sx K H0 (tAsg (tCB (fun xs H Q => ∃ (a : Addr) (ps : List Addr) (kvs : List (Key × V)), xs = [.ref a] ∧ SqL K H a (ps.map V.ref) ∧ Paired (fun p kv => SqT K H p [kV kv.1, kv.2]) ps kvs ∧ ∀ p, H p = none → Q (.ref p) (upd H p (.dK (mergeK [] kvs)))) (tCons te tNil)) (gName i)) Γ φ := fun B H σ D E hd =>
  h B H σ E _ fun v d B2 H2 e s hv => by
    subst e
    obtain ⟨a, xs, rfl, sq, hx⟩ := dp_lst hv
    obtain ⟨ps, ks, rfl, h1, h2⟩ := pairs_dpa s.ob hx
    have E2 := E.step s
    refine ⟨a, ps, ks, rfl, sqL_up s.ob sq, h1, fun p hp => ?_⟩
    exact hd.nx _ _ B2 _ k (s.rch E.oh) (E2.set_new hp ⟨p, _, rfl, E2.oh.free hp, E2.ob.free hp, upd_same, KD.merge h2 .nil⟩)

/-! ### isinstance; min; sorted; len(set) -/
/-- the type of data -/
theorem ty_data {B H : Hp} {v : V} (o : Same B H) (h : Dp K B v d) : ∃ t, TyX K H v (.type t) ∧ t = match d with
    | .none => "NoneType" | .bool _ => "bool" | .int _ => "int" | .str _ => "str" | .list _ => "list" | .tuple _ => "tuple" | .dict _ => "dict" := by
  cases h with
  | non => exact ⟨_, .base .non, rfl⟩
  | bl b => exact ⟨_, .base (.bl b), rfl⟩
  | int n => exact ⟨_, .base (.int n), rfl⟩
  | str x => exact ⟨_, .base (.str x), rfl⟩
  | lst s _ =>
    refine ⟨_, ?_, rfl⟩
    rcases sqL_up o s with (s | ⟨ob, s⟩) | ⟨ob, its, n, k, c, _⟩
    · exact .base (.lst s)
    · exact .base (.frz s)
    · exact .kList k c
  | tup s _ =>
    refine ⟨_, ?_, rfl⟩
    rcases sqT_up o s with (s | ⟨ob, s⟩) | ⟨ob, its, n, k, c, _⟩
    · exact .base (.tup s)
    · exact .fTuple s
    · exact .kTuple k c
def tyName : PyData → String
  | .none => "NoneType" | .bool _ => "bool" | .int _ => "int" | .str _ => "str" | .list _ => "list" | .tuple _ => "tuple" | .dict _ => "dict"
theorem ev_isi {T : String} {b : Bool} (h : Ev K H0 te Γ d) (hb : kitB (tyName d) T = some b) : Ev K H0 (tCB (rIsi K) (tCons te (tCons (tC (.ty T)) tNil))) Γ (.bool b) := fun B H σ E Q q =>
  h B H σ E _ fun v d' B2 H2 e s hv => by
    subst e
    obtain ⟨t, ht, et⟩ := ty_data s.ob hv
    have et' : t = tyName d' := by rw [et]; cases d' <;> rfl
    subst et'
    exact ⟨v, .ty T, _, .type T, b, rfl, .ty T, ht, kit_ty hb, q _ _ B2 H2 rfl s (.bl b)⟩
theorem ev_min {x : PyData} (h : Ev K H0 te Γ (.list (x :: ds))) (ha : PySem.W.AlikeAll (x :: ds)) (hd : PyData.depthAll (x :: ds) ≤ 60) : Ev K H0 (tCB (rMinD K) (tCons te tNil)) Γ (PySem.W.minD x ds) := fun B H σ E Q q =>
  h B H σ E _ fun v d' B2 H2 e s hv => by
    subst e
    obtain ⟨a, xs, rfl, sq, hx⟩ := dp_lst hv
    exact ⟨B2, a, xs, x, ds, rfl, s.ob, sqL_up s.ob sq, hx, ha, hd, fun v hv2 => q v _ B2 H2 rfl s hv2⟩
theorem ev_sortedD {ps : List (Int × Int)} (h : Ev K H0 te Γ (.list (ps.map encP))) : Ev K H0 (tCB (rSortedD K) (tCons te tNil)) Γ (.list ((ps.mergeSort (PySem.W.dataLe false encP)).map encP)) := fun B H σ E Q q =>
  h B H σ E _ fun v d' B2 H2 e s hv => by
    subst e
    obtain ⟨a, xs, rfl, sq, hx⟩ := dp_lst hv
    refine ⟨B2, a, xs, ps, rfl, s.ob, sqL_up s.ob sq, hx, fun ys p hy hp => ?_⟩
    have x := Stp.new (o := .lst ys) s.ob hp
    exact q _ _ _ _ rfl (s.trans x) (.lst (.inl (.inl upd_same)) (DpAll.up x.eb hy))
theorem ev_lenSet {ns : List Int} (h : Ev K H0 te Γ (.list (ns.map .int))) (hl : ns.length ≤ 4000) : Ev K H0 (tLenSetG K te) Γ (.int ((PyProof.Rows.firstMet (fun i => ns.getD i 0) ns.length).length : Nat)) := fun B H σ E Q q =>
  h B H σ E _ fun v d' B2 H2 e s hv => by
    subst e
    obtain ⟨a, xs, rfl, sq, hx⟩ := dp_lst hv
    have e := dpa_ints hx
    subst e
    exact ⟨a, ns, rfl, sqL_up s.ob sq, hl, q _ _ B2 H2 rfl s (.int _)⟩
theorem ev_stepL {tl : TO} {ns : List Int} {o : Option Int} (h : Ev K H0 te Γ (.list (ns.map .int))) (h1 : EvO K H0 tl Γ o) : EvP K H0 (tStepL K te tl) Γ (fun d => ∃ ms : List Int, d = .list (ms.map .int) ∧ ms.length ≤ ns.length) := fun B H σ E Q q =>
  h B H σ E _ fun v d' B2 H2 e s hv => h1 B2 H2 σ (E.step s) _ fun B3 H3 s3 => by
    subst e
    obtain ⟨a, xs, rfl, sq, hx⟩ := dp_lst hv
    have e := dpa_ints hx
    subst e
    refine ⟨a, ns, rfl, sqL_up (s3.eb.trans s3.ob) sq, fun ms p hm hp => ?_⟩
    have x := Stp.new (o := .lst (ms.map V.int)) s3.ob hp
    exact q _ _ _ _ ⟨ms, rfl, hm⟩ ((s.trans s3).trans x) (.lst (.inl (.inl upd_same)) (ints_dpa ms))
end

/-! ### promises -/
/-- as spX; what may be raised by the classes in exc -/
def spR (K : PySem.W.Frag) (pre : List Item → Prop) (post : List Item → PyData → Prop) (exc : List Item → Addr → Prop) : Sp := fun vs H Q E =>
  ∃ B ts, Same B H ∧ Paired (ArgOk K B H) vs ts ∧ pre ts ∧ (∀ v d B2 H2, post ts d → Stp B H B2 H2 → Dp K B2 v d → Q v H2) ∧ ∀ C H2, exc ts C → Same H H2 → E (.ref C) none H2
/-- what comes back is told by a word over the heaps -/
def spG (K : PySem.W.Frag) (pre : List Item → Prop) (post : List Item → Hp → V → Hp → Hp → Prop) (exc : List Item → Addr → Prop) : Sp := fun vs H Q E =>
  ∃ B ts, Same B H ∧ Paired (ArgOk K B H) vs ts ∧ pre ts ∧ (∀ v B2 H2, post ts H v B2 H2 → Stp B H B2 H2 → Q v H2) ∧ ∀ C H2, exc ts C → Same H H2 → E (.ref C) none H2
section
variable {K : PySem.W.Frag} {H0 : Hp} {Γ : List Item} {P : PyData → Prop} {φ : Po} {i : Nat}
theorem ev_callR {pre : List Item → Prop} {post : List Item → PyData → Prop} {exc : List Item → Addr → Prop} {X : XK} {ta : TA} {ts : List Item} (h : EvA K H0 ta Γ (fun t => t = ts)) (hp : pre ts) (hr : ∀ d, post ts d → P d) (hx : ∀ C H2, exc ts C → Same H0 H2 → X (.ref C) none H2) : EvP K H0 (tCall (spR K pre post exc) [] X ta) Γ P := fun B H σ E Q q =>
  h B H σ E _ fun vs ts' B1 H1 a s1 hs => by
    subst a
    rw [List.append_nil]
    exact ⟨B1, ts', s1.ob, hs, hp, fun v d B2 H2 p s2 => q v d B2 H2 (hr d p) (s1.trans s2), fun C H2 c e => hx C H2 c ((E.oh.trans s1.eh).trans e)⟩
theorem sx_raise {C : Addr} {W : XK} (h : ∀ H2, Same H0 H2 → W (.ref C) none H2) : Sx K H0 (fun (_ : Ends) (_ : L2.St) (H : Hp) => W (.ref C) none H) Γ φ := fun B H σ D E hd => h H E.oh
theorem start_get {N : List Str} {vs : List V} {j : Nat} {o : Option V} (h : (L2.start N vs)[j]? = some o) : (∃ v, vs[j]? = some v ∧ o = some v) ∨ (vs.length ≤ j ∧ o = none) := by
  unfold L2.start at h
  by_cases q : j < vs.length
  · rw [List.getElem?_append_left (by rw [List.length_map]; exact q), List.getElem?_map, List.getElem?_eq_getElem q] at h
    exact .inl ⟨vs[j], List.getElem?_eq_getElem q, (Option.some.inj h).symm⟩
  · rw [List.getElem?_append_right (by rw [List.length_map]; omega)] at h
    have z := List.mem_of_getElem? h
    exact .inr ⟨by omega, (List.mem_replicate.mp z).2⟩
theorem paired_get {α β : Type} {F : α → β → Prop} : ∀ {l : List α} {m : List β} {j : Nat} {b : β}, Paired F l m → m[j]? = some b → ∃ a, l[j]? = some a ∧ F a b
  | _, _, _, _, .nil, h => by simp at h
  | _, _, 0, _, .cons r _, h => by simp at h; subst h; exact ⟨_, rfl, r⟩
  | _, _, j + 1, b, .cons _ t, h => by
    obtain ⟨a, h1, h2⟩ := paired_get (j := j) (b := b) t (by simpa using h)
    exact ⟨a, by simpa using h1, h2⟩
theorem sit_start {B H : Hp} {N : List Str} {vs : List V} {ts : List Item} (ob : Same B H) (hs : Paired (ArgOk K B H) vs ts) (hl : vs.length ≤ N.length) : Sit K H B H (L2.start N vs) (ts ++ List.replicate (N.length - ts.length) .no) := by
  have ln := Paired.length hs
  have get : ∀ (j : Nat) (t : Item), (ts ++ List.replicate (N.length - ts.length) Item.no)[j]? = some t → (∃ v, vs[j]? = some v ∧ ArgOk K B H v t) ∨ (ts.length ≤ j ∧ t = .no) := fun j t e => by
    by_cases q : j < ts.length
    · rw [List.getElem?_append_left q] at e
      exact .inl (paired_get hs e)
    · rw [List.getElem?_append_right (by omega)] at e
      exact .inr ⟨by omega, (List.mem_replicate.mp (List.mem_of_getElem? e)).2⟩
  have noown : ∀ {v : V} {t : Item}, ArgOk K B H v t → t.own = false := fun {v t} h => by
    cases t with
    | lst _ => exact h.elim
    | dk _ => exact h.elim
    | dt _ => exact h.elim
    | no => exact h.elim
    | dat _ => rfl
    | bt _ => rfl
    | raw _ => rfl
  refine ⟨ob, Same.refl _, ?_, fun j t e => ?_, fun j k s t l e1 e2 o1 o2 q1 q2 => ?_⟩
  · unfold L2.start
    rw [List.length_append, List.length_map, List.length_replicate, List.length_append, List.length_replicate, ln]
  · rcases get j t e with ⟨v, h1, h2⟩ | ⟨h1, rfl⟩
    · refine ⟨some v, ?_, ?_⟩
      · unfold L2.start
        have q : j < vs.length := (List.getElem?_eq_some_iff.mp h1).1
        rw [List.getElem?_append_left (by rw [List.length_map]; exact q), List.getElem?_map, h1] <;> rfl
      · cases t with
        | dat d => exact ⟨v, rfl, h2⟩
        | bt kvs => obtain ⟨l, rfl, q⟩ := h2; exact ⟨l, rfl, q⟩
        | raw u => exact congrArg some h2
        | no => trivial
        | lst _ => exact h2.elim
        | dk _ => exact h2.elim
        | dt _ => exact h2.elim
    · have hj := (List.getElem?_eq_some_iff.mp e).1
      rw [List.length_append, List.length_replicate] at hj
      refine ⟨none, ?_, trivial⟩
      unfold L2.start
      rw [List.getElem?_append_right (by rw [List.length_map]; omega), List.getElem?_replicate, if_pos (by rw [List.length_map]; omega)]
  · rcases get j s e1 with ⟨v, _, h2⟩ | ⟨_, rfl⟩
    · rw [noown h2] at o1; cases o1
    · cases o1
end
section
variable {P : Program} {w : World} {K : PySem.W.Frag} {mg : Str → Option Value} {base : Heap} {x qual : Str} {st : Stmt} {f : Addr} {fd : FuncData} {N ps : List Str} {k : Nat} {pre : List Item → Prop}
/-- a def that raises nothing -/
theorem okD {post : List Item → PyData → Prop} (F : Fun K x qual st f fd) (S : FnScope N ps (defScope st)) (hlen : ∀ ts, pre ts → ts.length = ps.length) (hN : ps.length ≤ N.length)
    (body : ∀ (cdv : Value) (A : Around) (outer : List PySem.Env) (s : Shared) (H : Hp) (E : XK), Room k (A.deeper (envOfC qual (defScope st) s.heap.objs.size f cdv)) →
      ∃ t, PSs (cxOf CX0 P w K mg base N qual (defScope st) f cdv A outer s H E).nox (defBody st) t ∧
        ∀ ts, pre ts → Sx K H t (ts ++ List.replicate (N.length - ts.length) .no) { nx := fun _ => post ts .none, rt := rtP K (post ts) }) : FnOk P w K mg base CX0 (k + 1) f fd ps (spX K pre post) := by
  refine F.ok S (fun vs H Q E ⟨B, ts, _, hs, hp, _⟩ => by rw [Paired.length hs, hlen ts hp]) fun cdv A outer s H vs Q E hr ⟨B, ts, ob, hs, hp, q⟩ => ?_
  obtain ⟨t, h1, h2⟩ := body cdv A outer s H E hr
  have ln := Paired.length hs
  have hl := hlen ts hp
  refine ⟨t, h1, h2 ts hp B H (L2.start N vs) _ (sit_start ob hs (by omega)) ⟨fun Γ σ B' H' p r S' => q .non .none B' H' p ⟨r.eb, S'.oh, S'.ob, r.fr⟩ .non, fun v B' H' ⟨d, p, hd⟩ r o1 o2 => q v d B' H' p ⟨r.eb, o2, o1, r.fr⟩ hd, fun _ _ _ _ z => z.elim, fun _ _ _ _ z => z.elim⟩⟩
/-- a def that may raise; its answer by a word over the heaps -/
theorem okG {post : List Item → Hp → V → Hp → Hp → Prop} {exc : List Item → Addr → Prop} (F : Fun K x qual st f fd) (S : FnScope N ps (defScope st)) (hlen : ∀ ts, pre ts → ts.length = ps.length) (hN : ps.length ≤ N.length)
    (body : ∀ (cdv : Value) (A : Around) (outer : List PySem.Env) (s : Shared) (H : Hp) (E : XK), Room k (A.deeper (envOfC qual (defScope st) s.heap.objs.size f cdv)) →
      ∃ t, PSs (cxOf (L2.CX P w) P w K mg base N qual (defScope st) f cdv A outer s H E) (defBody st) t ∧
        ∀ ts, pre ts → (∀ C H2, exc ts C → Same H H2 → E (.ref C) none H2) → Sx K H t (ts ++ List.replicate (N.length - ts.length) .no) { nx := fun _ => ∀ B' H', post ts H .non B' H', rt := post ts H }) : FnOk P w K mg base (L2.CX P w) (k + 1) f fd ps (spG K pre post exc) := by
  refine F.okX S (fun vs H Q E ⟨B, ts, _, hs, hp, _⟩ => by rw [Paired.length hs, hlen ts hp]) fun cdv A outer s H vs Q E hr ⟨B, ts, ob, hs, hp, q, hx⟩ => ?_
  obtain ⟨t, h1, h2⟩ := body cdv A outer s H E hr
  have ln := Paired.length hs
  have hl := hlen ts hp
  refine ⟨t, h1, h2 ts hp hx B H (L2.start N vs) _ (sit_start ob hs (by omega)) ⟨fun Γ σ B' H' p r S' => q .non B' H' (p B' H') ⟨r.eb, S'.oh, S'.ob, r.fr⟩, fun v B' H' p r o1 o2 => q v B' H' p ⟨r.eb, o2, o1, r.fr⟩, fun _ _ _ _ z => z.elim, fun _ _ _ _ z => z.elim⟩⟩
theorem spR_G {post : List Item → PyData → Prop} {exc : List Item → Addr → Prop} {vs : List V} {H : Hp} {Q : VK} {E : XK} (h : spR K pre post exc vs H Q E) : spG K pre (fun ts _ v B _ => ∃ d, post ts d ∧ Dp K B v d) exc vs H Q E := by
  obtain ⟨B, ts, ob, hs, hp, q, hx⟩ := h
  exact ⟨B, ts, ob, hs, hp, fun v B2 H2 ⟨d, p, hd⟩ s => q v d B2 H2 p s hd, hx⟩
/-- .. by data -/
theorem okR {post : List Item → PyData → Prop} {exc : List Item → Addr → Prop} (F : Fun K x qual st f fd) (S : FnScope N ps (defScope st)) (hlen : ∀ ts, pre ts → ts.length = ps.length) (hN : ps.length ≤ N.length)
    (body : ∀ (cdv : Value) (A : Around) (outer : List PySem.Env) (s : Shared) (H : Hp) (E : XK), Room k (A.deeper (envOfC qual (defScope st) s.heap.objs.size f cdv)) →
      ∃ t, PSs (cxOf (L2.CX P w) P w K mg base N qual (defScope st) f cdv A outer s H E) (defBody st) t ∧
        ∀ ts, pre ts → (∀ C H2, exc ts C → Same H H2 → E (.ref C) none H2) → Sx K H t (ts ++ List.replicate (N.length - ts.length) .no) { nx := fun _ => post ts .none, rt := rtP K (post ts) }) : FnOk P w K mg base (L2.CX P w) (k + 1) f fd ps (spR K pre post exc) := by
  refine FnOk.imp (okG F S hlen hN fun cdv A outer s H E hr => ?_) fun vs H Q E h => spR_G h
  obtain ⟨t, h1, h2⟩ := body cdv A outer s H E hr
  exact ⟨t, h1, fun ts hp hx => (h2 ts hp hx).imp (fun Γ p B' H' => ⟨.none, p, .non⟩) (fun v B H ⟨d, p, q⟩ => ⟨d, p, q⟩) (fun _ z => z) (fun _ z => z)⟩
end
end K58
set_option Elab.async false
set_option linter.all false
set_option maxRecDepth 100000
set_option maxHeartbeats 1000000
namespace K58
open PySem PySem.Spec PyProof.Rows L2

/-- the i-th statement of the top -/
def top (i : Nat) : Stmt := PySem.Challenge.pw_meshworks_k58_whole_least_work.main.body.getD i (.Pass ⟨0, 0, 0, 0⟩)
/-! ### short readings -/
abbrev rIsN : R2 := fun x y H Q => y = .non ∧ Q (.bl (decide (x = .non))) H
abbrev rNotN : R2 := fun x y H Q => y = .non ∧ Q (.bl (!decide (x = .non))) H
abbrev rLenQ (K : PySem.W.Frag) : List V → Hp → VK → Prop := fun xs H Q => ∃ p ys, xs = [.ref p] ∧ (SqL K H p ys ∨ SqT K H p ys) ∧ Q (.int ys.length) H
abbrev rLenD : List V → Hp → VK → Prop := fun xs H Q => ∃ a kvs, xs = [V.ref a] ∧ H a = some (.dK kvs) ∧ Q (.int kvs.length) H
abbrev rListQ (K : PySem.W.Frag) : List V → Hp → VK → Prop := fun xs H Q => ∃ p ys, xs = [.ref p] ∧ (SqL K H p ys ∨ SqT K H p ys) ∧ ∀ l, H l = none → Q (.ref l) (upd H l (.lst ys))
abbrev rInt1 : List V → Hp → VK → Prop := fun xs H Q => (∃ i, xs = [.int i] ∧ Q (.int i) H) ∨ ∃ k, xs = [.bl k] ∧ Q (.int (if k then 1 else 0)) H
abbrev rSortedK : List V → Hp → VK → Prop := fun xs H Q => ∃ (a : Addr) (kvs : List (Key × V)) (ks : List Int), xs = [.ref a] ∧ Rd H a (.dK kvs) ∧ kvs.map (·.1) = ks.map Sum.inl ∧ ks.length < 64 ∧
    ∀ (ys : List Int) (p : Addr), ys.Perm ks → ys.Pairwise (· ≤ ·) → H p = none → Q (.ref p) (upd H p (.lst (ys.map V.int)))
abbrev rDictQ (K : PySem.W.Frag) : List V → Hp → VK → Prop := fun xs H Q => ∃ (a : Addr) (ps : List Addr) (kvs : List (Key × V)), xs = [.ref a] ∧ SqL K H a (ps.map V.ref) ∧ Paired (fun p kv => SqT K H p [kV kv.1, kv.2]) ps kvs ∧ ∀ p, H p = none → Q (.ref p) (upd H p (.dK (mergeK [] kvs)))
/-- raise C('..') in a def that raises as E -/
abbrev tRz (C : Addr) (E : XK) : TS := fun _ _ H => E (.ref C) none H
/-- a def of the text that can be called -/
structure Cal (P : Program) (w : World) (K : PySem.W.Frag) (mg : Str → Option Value) (base : Heap) (CX : CXT) (k : Nat) (x : Str) (ps : List Str) (sp : Sp) : Prop where
  ex : ∃ f fd, FnOk P w K mg base CX k f fd ps sp ∧ mg x = some (.ref f) ∧ PySem.W.keepIn K (.ref f) = true ∧ Binds K fd ps []
theorem pe_callC {X : Cx} {CX : CXT} {j k : Nat} {x : Str} {ps : List Str} {sp : Sp} {E : XK} {p pos : Pos} {e : Expr} {es : List Expr} {t : TA} (c : Cal X.prog X.w X.K X.mg X.base CX j x ps sp) (hr : Room k X.A) (hx : Passes CX X E) (ha : PA X (e :: es) t) (hjk : j ≤ k := by first | decide | omega) (hg : Gl X x := by rfl)
    (hdb : (x == ("__debug__" : Str)) = false := by decide) (he : starEach (e :: es) X.env = (false, eval e X.env) :: starEach es X.env := by rfl) (hpl : (backTo pos (starEach es X.env)).any (·.1) = false := by rfl) :
    PE X (.Call (.Name x p) (e :: es) [] pos) (tCall sp [] E t) := by
  obtain ⟨f, fd, F, m, kp, b⟩ := c.ex
  exact pe_call F (hr.mono hjk) hg m kp b .nil hx ha hdb he hpl
theorem pe_const {X : Cx} {x : Str} {n : Int} {pos : Pos} (h : ∃ t, X.mg x = some (.int n t)) (hg : Gl X x := by rfl) (hd : (x == ("__debug__" : Str)) = false := by decide) : PE X (.Name x pos) (tC (.int n)) := by
  obtain ⟨t, h⟩ := h
  exact pe_glob hg h ⟨t, rfl⟩ hd
/-- the built-in names that the text leaves as they are; its constants -/
structure Txt (mg : Str → Option Value) : Prop where
  len : mg "len" = none
  range : mg "range" = none
  sum : mg "sum" = none
  min : mg "min" = none
  sorted : mg "sorted" = none
  set : mg "set" = none
  isinstance : mg "isinstance" = none
  list : mg "list" = none
  dict : mg "dict" = none
  int : mg "int" = none
  tuple : mg "tuple" = none
  bool : mg "bool" = none
  MOST_WISHES : ∃ t, mg "MOST_WISHES" = some (.int 20 t)
  MOST_STOCK : ∃ t, mg "MOST_STOCK" = some (.int 30 t)
  MOST_BIN : ∃ t, mg "MOST_BIN" = some (.int 5 t)
  GREATEST : ∃ t, mg "GREATEST" = some (.int 1000000000000000000000000000000000000000000000000000000000000 t)
/-- an own error class -/
structure ExcCls (K : PySem.W.Frag) (mg : Str → Option Value) (x : Str) (C : Addr) : Prop where
  gC : mg x = some (.ref C)
  q : PySem.W.excIn K C [.type "ValueError", .type "Exception", .type "BaseException", .type "object"] "ValueError.__new__" = true
  kC : PySem.W.keepIn K (.ref C) = true
  exC : PySem.W.subIn K (.ref C) (.type "BaseException") = some true
  tyC : PySem.W.typeIn K (.ref C) = some (.type "type")
/-- isinstance(e, c), e the exception that the suite holds, whatever its class -/
def rIsE2 (K : PySem.W.Frag) (a : Addr) (cls : Value) (d : Option Addr) : List V → Hp → VK → Prop := fun xs H Q => ∃ D, cls = .ref D ∧ d = none ∧ ExcC K D ∧ rIsE K D a xs H Q
theorem call_isE2 {X : Cx} {a : Addr} {cls : Value} {d : Option Addr} {oe : Obj} {pn : List (Addr × Obj)} (hz : Zc cls d oe) (hf : ∃ vs, oe.data = .fields vs) : CallR (X.suite a ((a, oe) :: pn)) (.builtin "isinstance") (rIsE2 X.K a cls d) := by
  intro pins s σ H xs us Q I r h
  obtain ⟨D, e1, e2, c, h⟩ := h
  subst e1 e2
  exact call_isE c hz hf pins s σ H xs us Q I r h
end K58
set_option Elab.async false
set_option linter.all false
set_option maxRecDepth 100000
set_option maxHeartbeats 4000000
namespace K58
open PySem PySem.Spec PyProof.Rows L2
def lcS (s : Stmt) : Scope := match s with
  | .Assign _ (.ListComp _ _ sc _) _ => sc
  | _ => { kind := .function, names := [], isGenerator := false, isCoroutine := false }

/-! in_bounds -/
abbrev s_in_bounds : Stmt := top 9
abbrev N_in_bounds : List Str := ["number"]
theorem sc_in_bounds : FnScope N_in_bounds ["number"] (defScope s_in_bounds) := ⟨rfl, rfl, rfl, by decide +kernel, rfl, by decide +kernel, by decide +kernel⟩
def t_in_bounds (K : PySem.W.Frag) : TS :=
  (tRet (tChain (rI0 fun i j => .bl (decide (i ≤ j))) (rI0 fun i j => .bl (decide (i ≤ j))) (tC (.int 1)) (tVar 0) (tC (.int 1000000000000000000000000000000000000000000000000000000000000))))
theorem ps_in_bounds {P : Program} {w : World} {K : PySem.W.Frag} {mg : Str → Option Value} {base : Heap} {f : Addr} {k : Nat} (T : Txt mg) (cdv : Value) (A : Around) (outer : List PySem.Env) (s : Shared) (H : Hp) (E : XK)
    (hr : Room k (A.deeper (envOfC "in_bounds" (defScope s_in_bounds) s.heap.objs.size f cdv))) : PSs (cxOf CX0 P w K mg base N_in_bounds "in_bounds" (defScope s_in_bounds) f cdv A outer s H E).nox (defBody s_in_bounds) (t_in_bounds K) := by
  have nd := sc_in_bounds.nd
  exact (pss_one (ps_ret (pe_chain op_le op_le pe_int (pv 0) (pe_const T.GREATEST))))
/-! check_wish -/
abbrev s_check_wish : Stmt := top 10
abbrev N_check_wish : List Str := ["wish", "last", "size", "many", "number"]
theorem sc_check_wish : FnScope N_check_wish ["wish"] (defScope s_check_wish) := ⟨rfl, rfl, rfl, by decide +kernel, rfl, by decide +kernel, by decide +kernel⟩
def t_check_wish (K : PySem.W.Frag) (sp_in_bounds : Sp) (CBadWish : Addr) (E : XK) : TS :=
  (tSeq (tIfS (tOr (tTest (tOp (rI0 fun i j => .bl (decide (i < j))) (tCB (rLenQ K) (tCons (tVar 0) tNil)) (tC (.int 1)))) (tTest (tOp (rI0 fun i j => .bl (decide (j < i))) (tCB (rLenQ K) (tCons (tVar 0) tNil)) (tC (.int 20))))) (tRz CBadWish E) tNext)
      (tSeq (tAsg (tC (.int 0)) (gName 1))
      (tFor (iList K (tVar 0)) (gTup K 3 (gCons (gName 2) (gCons (gName 3) (gCons (gName 4) gNil)))) (tSeq (tIfS (tOr (tNot (tB (tCall sp_in_bounds [] E0 (tCons (tVar 2) tNil)))) (tOr (tNot (tB (tCall sp_in_bounds [] E0 (tCons (tVar 3) tNil)))) (tOr (tTest (tOp (rI0 fun i j => .bl (decide (i ≤ j))) (tVar 2) (tVar 1))) (tOr (tTest (tOp (rI0 fun i j => .bl (decide (i < j))) (tVar 4) (tC (.int 0)))) (tTest (tOp (rI0 fun i j => .bl (decide (j < i))) (tVar 4) (tC (.int 5)))))))) (tRz CBadWish E) tNext)
      (tAsg (tVar 2) (gName 1))))))
theorem ps_check_wish {P : Program} {w : World} {K : PySem.W.Frag} {mg : Str → Option Value} {base : Heap} {f : Addr} {k : Nat} (T : Txt mg) {l_in_bounds : Nat} {sp_in_bounds : Sp} (c_in_bounds : Cal P w K mg base CX0 l_in_bounds "in_bounds" ["number"] sp_in_bounds) (h_in_bounds : l_in_bounds ≤ k) {CBadWish : Addr} (cBadWish : ExcCls K mg "BadWish" CBadWish) (cdv : Value) (A : Around) (outer : List PySem.Env) (s : Shared) (H : Hp) (E : XK)
    (hr : Room k (A.deeper (envOfC "check_wish" (defScope s_check_wish) s.heap.objs.size f cdv))) : PSs (cxOf (L2.CX P w) P w K mg base N_check_wish "check_wish" (defScope s_check_wish) f cdv A outer s H E) (defBody s_check_wish) (t_check_wish K sp_in_bounds CBadWish E) := by
  have nd := sc_check_wish.nd
  exact (pss_cons (ps_if (PW.pt (pw_or (pt_cmpR op_lt (pe_callB call_len_seq (by rfl) T.len PySem.boot_len (pa_cons (pv 0) pa_nil)) pe_int (nomark _)) (pw_or1 (pt_cmpR op_gt (pe_callB call_len_seq (by rfl) T.len PySem.boot_len (pa_cons (pv 0) pa_nil)) (pe_const T.MOST_WISHES) (nomark _))))) (pss_one (ps_raise rfl (takes_of rfl rfl rfl rfl) (pmk_own PySem.F.excBase_ValueError cBadWish.q cBadWish.gC cBadWish.kC (raises_own cBadWish.exC cBadWish.tyC) (by exact rfl)))) pss_nil)
      (pss_cons (ps_set (i := 1) nd rfl (by first | exact Or.inl rfl | exact Or.inr rfl) pe_int)
      (pss_one (ps_for (passes_of rfl) rfl (pi_list (pv 0)) (pg_tup rfl (pgs_cons (pg_name (i := 2) nd rfl (by first | exact Or.inl rfl | exact Or.inr rfl)) (pgs_cons (pg_name (i := 3) nd rfl (by first | exact Or.inl rfl | exact Or.inr rfl)) (pgs_cons (pg_name (i := 4) nd rfl (by first | exact Or.inl rfl | exact Or.inr rfl)) pgs_nil)))) (pss_cons (ps_if (PW.pt (pw_or (pt_not (pt_val (pe_callC c_in_bounds hr pass0 (pa_cons (pv 2) pa_nil)))) (pw_or (pt_not (pt_val (pe_callC c_in_bounds hr pass0 (pa_cons (pv 3) pa_nil)))) (pw_or (pt_cmpR op_le (pv 2) (pv 1) (nomark _)) (pw_or (pt_cmpR op_lt (pv 4) pe_int (nomark _)) (pw_or1 (pt_cmpR op_gt (pv 4) (pe_const T.MOST_BIN) (nomark _)))))))) (pss_one (ps_raise rfl (takes_of rfl rfl rfl rfl) (pmk_own PySem.F.excBase_ValueError cBadWish.q cBadWish.gC cBadWish.kC (raises_own cBadWish.exC cBadWish.tyC) (by exact rfl)))) pss_nil)
      (pss_one (ps_set (i := 1) nd rfl (by first | exact Or.inl rfl | exact Or.inr rfl) (pv 2))))))))
/-! check_stock -/
abbrev s_check_stock : Stmt := top 11
abbrev N_check_stock : List Str := ["stock", "last", "opening", "price"]
theorem sc_check_stock : FnScope N_check_stock ["stock"] (defScope s_check_stock) := ⟨rfl, rfl, rfl, by decide +kernel, rfl, by decide +kernel, by decide +kernel⟩
def t_check_stock (K : PySem.W.Frag) (sp_in_bounds : Sp) (CBadStock : Addr) (E : XK) : TS :=
  (tSeq (tIfS (tTest (tOp (rI0 fun i j => .bl (decide (j < i))) (tCB (rLenQ K) (tCons (tVar 0) tNil)) (tC (.int 30)))) (tRz CBadStock E) tNext)
      (tSeq (tAsg (tC (.int 0)) (gName 1))
      (tFor (iList K (tVar 0)) (gTup K 2 (gCons (gName 2) (gCons (gName 3) gNil))) (tSeq (tIfS (tOr (tNot (tB (tCall sp_in_bounds [] E0 (tCons (tVar 2) tNil)))) (tOr (tTest (tOp (rI0 fun i j => .bl (decide (i ≤ j))) (tVar 2) (tVar 1))) (tOr (tTest (tOp (rI0 fun i j => .bl (decide (i < j))) (tVar 3) (tC (.int 0)))) (tTest (tOp (rI0 fun i j => .bl (decide (j < i))) (tVar 3) (tC (.int 1000000000000000000000000000000000000000000000000000000000000))))))) (tRz CBadStock E) tNext)
      (tAsg (tVar 2) (gName 1))))))
theorem ps_check_stock {P : Program} {w : World} {K : PySem.W.Frag} {mg : Str → Option Value} {base : Heap} {f : Addr} {k : Nat} (T : Txt mg) {l_in_bounds : Nat} {sp_in_bounds : Sp} (c_in_bounds : Cal P w K mg base CX0 l_in_bounds "in_bounds" ["number"] sp_in_bounds) (h_in_bounds : l_in_bounds ≤ k) {CBadStock : Addr} (cBadStock : ExcCls K mg "BadStock" CBadStock) (cdv : Value) (A : Around) (outer : List PySem.Env) (s : Shared) (H : Hp) (E : XK)
    (hr : Room k (A.deeper (envOfC "check_stock" (defScope s_check_stock) s.heap.objs.size f cdv))) : PSs (cxOf (L2.CX P w) P w K mg base N_check_stock "check_stock" (defScope s_check_stock) f cdv A outer s H E) (defBody s_check_stock) (t_check_stock K sp_in_bounds CBadStock E) := by
  have nd := sc_check_stock.nd
  exact (pss_cons (ps_if (pt_cmpR op_gt (pe_callB call_len_seq (by rfl) T.len PySem.boot_len (pa_cons (pv 0) pa_nil)) (pe_const T.MOST_STOCK) (nomark _)) (pss_one (ps_raise rfl (takes_of rfl rfl rfl rfl) (pmk_own PySem.F.excBase_ValueError cBadStock.q cBadStock.gC cBadStock.kC (raises_own cBadStock.exC cBadStock.tyC) (by exact rfl)))) pss_nil)
      (pss_cons (ps_set (i := 1) nd rfl (by first | exact Or.inl rfl | exact Or.inr rfl) pe_int)
      (pss_one (ps_for (passes_of rfl) rfl (pi_list (pv 0)) (pg_tup rfl (pgs_cons (pg_name (i := 2) nd rfl (by first | exact Or.inl rfl | exact Or.inr rfl)) (pgs_cons (pg_name (i := 3) nd rfl (by first | exact Or.inl rfl | exact Or.inr rfl)) pgs_nil))) (pss_cons (ps_if (PW.pt (pw_or (pt_not (pt_val (pe_callC c_in_bounds hr pass0 (pa_cons (pv 2) pa_nil)))) (pw_or (pt_cmpR op_le (pv 2) (pv 1) (nomark _)) (pw_or (pt_cmpR op_lt (pv 3) pe_int (nomark _)) (pw_or1 (pt_cmpR op_gt (pv 3) (pe_const T.GREATEST) (nomark _))))))) (pss_one (ps_raise rfl (takes_of rfl rfl rfl rfl) (pmk_own PySem.F.excBase_ValueError cBadStock.q cBadStock.gC cBadStock.kC (raises_own cBadStock.exC cBadStock.tyC) (by exact rfl)))) pss_nil)
      (pss_one (ps_set (i := 1) nd rfl (by first | exact Or.inl rfl | exact Or.inr rfl) (pv 2))))))))
/-! between -/
abbrev s_between : Stmt := top 12
abbrev N_between : List Str := ["stock", "lesser", "greater", "pair"]
theorem sc_between : FnScope N_between ["stock", "lesser", "greater"] (defScope s_between) := ⟨rfl, rfl, rfl, by decide +kernel, rfl, by decide +kernel, by decide +kernel⟩
def t_between (K : PySem.W.Frag) : TS :=
  (tRet (tLc (iList K (tVar 0)) (gName 3) (tTest (tChain (rI0 fun i j => .bl (decide (i ≤ j))) (rI0 fun i j => .bl (decide (i < j))) (tVar 1) (tOp (rIxT K) (tVar 3) (tC (.int 0))) (tVar 2))) (tVar 3) [3]))
theorem ps_between {P : Program} {w : World} {K : PySem.W.Frag} {mg : Str → Option Value} {base : Heap} {f : Addr} {k : Nat} (T : Txt mg) (cdv : Value) (A : Around) (outer : List PySem.Env) (s : Shared) (H : Hp) (E : XK)
    (hr : Room k (A.deeper (envOfC "between" (defScope s_between) s.heap.objs.size f cdv))) : PSs (cxOf CX0 P w K mg base N_between "between" (defScope s_between) f cdv A outer s H E).nox (defBody s_between) (t_between K) := by
  have nd := sc_between.nd
  exact (pss_one (ps_ret (pe_lc (own := [("pair", 3)]) (g := (gName 3)) (tt := (tTest (tChain (rI0 fun i j => .bl (decide (i ≤ j))) (rI0 fun i j => .bl (decide (i < j))) (tVar 1) (tOp (rIxT K) (tVar 3) (tC (.int 0))) (tVar 2)))) (te := (tVar 3)) rfl nd (pi_list (pv 0)) (blkOk_by (own := [("pair", 3)]) (N := N_between) (sc := defScope s_between) (by decide +kernel)) (fun _ _ _ _ _ => (pg_name (i := 3) nd rfl (by first | exact Or.inl rfl | exact Or.inr rfl))) (fun _ _ _ _ _ => (pts_one (pt_chain op_le op_lt (pv 1) (pe_ix ix_tup (pv 3) pe_int (fun _ _ => rfl)) (pv 2)))) (fun _ _ _ _ _ => (pv 3)))))
/-! borders_of -/
abbrev s_borders_of : Stmt := top 13
abbrev N_borders_of : List Str := ["wish", "place"]
theorem sc_borders_of : FnScope N_borders_of ["wish"] (defScope s_borders_of) := ⟨rfl, rfl, rfl, by decide +kernel, rfl, by decide +kernel, by decide +kernel⟩
def t_borders_of (K : PySem.W.Frag) : TS :=
  (tRet (tLc (iRng1 (tCons (tOp (rI0 fun i j => .int (i - j)) (tCB (rLenQ K) (tCons (tVar 0) tNil)) (tC (.int 1))) tNil)) (gName 1) (tTest (tOp rNe (tOp (rIxT K) (tOp (rIxL K) (tVar 0) (tVar 1)) (tC (.int 2))) (tOp (rIxT K) (tOp (rIxL K) (tVar 0) (tOp (rI0 fun i j => .int (i + j)) (tVar 1) (tC (.int 1)))) (tC (.int 2))))) (tVar 1) [1]))
theorem ps_borders_of {P : Program} {w : World} {K : PySem.W.Frag} {mg : Str → Option Value} {base : Heap} {f : Addr} {k : Nat} (T : Txt mg) (cdv : Value) (A : Around) (outer : List PySem.Env) (s : Shared) (H : Hp) (E : XK)
    (hr : Room k (A.deeper (envOfC "borders_of" (defScope s_borders_of) s.heap.objs.size f cdv))) : PSs (cxOf CX0 P w K mg base N_borders_of "borders_of" (defScope s_borders_of) f cdv A outer s H E).nox (defBody s_borders_of) (t_borders_of K) := by
  have nd := sc_borders_of.nd
  exact (pss_one (ps_ret (pe_lc (own := [("place", 1)]) (g := (gName 1)) (tt := (tTest (tOp rNe (tOp (rIxT K) (tOp (rIxL K) (tVar 0) (tVar 1)) (tC (.int 2))) (tOp (rIxT K) (tOp (rIxL K) (tVar 0) (tOp (rI0 fun i j => .int (i + j)) (tVar 1) (tC (.int 1)))) (tC (.int 2)))))) (te := (tVar 1)) rfl nd (pi_range1 (by rfl) T.range (pa_cons (pe_op op_sub (pe_callB call_len_seq (by rfl) T.len PySem.boot_len (pa_cons (pv 0) pa_nil)) pe_int) pa_nil)) (blkOk_by (own := [("place", 1)]) (N := N_borders_of) (sc := defScope s_borders_of) (by decide +kernel)) (fun _ _ _ _ _ => (pg_name (i := 1) nd rfl (by first | exact Or.inl rfl | exact Or.inr rfl))) (fun _ _ _ _ _ => (pts_one (pt_cmpR op_ne (pe_ix ix_tup (pe_ix ix_list (pv 0) (pv 1) (fun _ _ => rfl)) pe_int (fun _ _ => rfl)) (pe_ix ix_tup (pe_ix ix_list (pv 0) (pe_op op_add (pv 1) pe_int) (fun _ _ => rfl)) pe_int (fun _ _ => rfl)) (nomark _)))) (fun _ _ _ _ _ => (pv 1)))))
/-! shut_border -/
abbrev s_shut_border : Stmt := top 14
abbrev N_shut_border : List Str := ["wish", "stock", "place"]
theorem sc_shut_border : FnScope N_shut_border ["wish", "stock"] (defScope s_shut_border) := ⟨rfl, rfl, rfl, by decide +kernel, rfl, by decide +kernel, by decide +kernel⟩
def t_shut_border (K : PySem.W.Frag) (sp_borders_of : Sp) (sp_between : Sp) : TS :=
  (tSeq (tFor (iList K (tCall sp_borders_of [] E0 (tCons (tVar 0) tNil))) (gName 2) (tIfS (tTest (tOp (rEqD K) (tCall sp_between [] E0 (tCons (tVar 1) (tCons (tOp (rIxT K) (tOp (rIxL K) (tVar 0) (tVar 2)) (tC (.int 0))) (tCons (tOp (rIxT K) (tOp (rIxL K) (tVar 0) (tOp (rI0 fun i j => .int (i + j)) (tVar 2) (tC (.int 1)))) (tC (.int 0))) tNil)))) (tLst tNil))) (tRet (tLst (tCons (tTup (tCons (tOp (rIxT K) (tOp (rIxL K) (tVar 0) (tVar 2)) (tC (.int 0))) (tCons (tOp (rIxT K) (tOp (rIxL K) (tVar 0) (tOp (rI0 fun i j => .int (i + j)) (tVar 2) (tC (.int 1)))) (tC (.int 0))) tNil))) tNil))) tNext))
      (tRet (tLst tNil)))
theorem ps_shut_border {P : Program} {w : World} {K : PySem.W.Frag} {mg : Str → Option Value} {base : Heap} {f : Addr} {k : Nat} (T : Txt mg) {l_borders_of : Nat} {sp_borders_of : Sp} (c_borders_of : Cal P w K mg base CX0 l_borders_of "borders_of" ["wish"] sp_borders_of) (h_borders_of : l_borders_of ≤ k) {l_between : Nat} {sp_between : Sp} (c_between : Cal P w K mg base CX0 l_between "between" ["stock", "lesser", "greater"] sp_between) (h_between : l_between ≤ k) (cdv : Value) (A : Around) (outer : List PySem.Env) (s : Shared) (H : Hp) (E : XK)
    (hr : Room k (A.deeper (envOfC "shut_border" (defScope s_shut_border) s.heap.objs.size f cdv))) : PSs (cxOf CX0 P w K mg base N_shut_border "shut_border" (defScope s_shut_border) f cdv A outer s H E).nox (defBody s_shut_border) (t_shut_border K sp_borders_of sp_between) := by
  have nd := sc_shut_border.nd
  exact (pss_cons (ps_for PassesOwn.never rfl (pi_list (pe_callC c_borders_of hr pass0 (pa_cons (pv 0) pa_nil))) (pg_name (i := 2) nd rfl (by first | exact Or.inl rfl | exact Or.inr rfl)) (pss_one (ps_if (pt_cmpR (op_eqD hr.units) (pe_callC c_between hr pass0 (pa_cons (pv 1) (pa_cons (pe_ix ix_tup (pe_ix ix_list (pv 0) (pv 2) (fun _ _ => rfl)) pe_int (fun _ _ => rfl)) (pa_cons (pe_ix ix_tup (pe_ix ix_list (pv 0) (pe_op op_add (pv 2) pe_int) (fun _ _ => rfl)) pe_int (fun _ _ => rfl)) pa_nil)))) (pe_lst pa_nil) (nomark _)) (pss_one (ps_ret (pe_lst (pa_cons (pe_tup (pa_cons (pe_ix ix_tup (pe_ix ix_list (pv 0) (pv 2) (fun _ _ => rfl)) pe_int (fun _ _ => rfl)) (pa_cons (pe_ix ix_tup (pe_ix ix_list (pv 0) (pe_op op_add (pv 2) pe_int) (fun _ _ => rfl)) pe_int (fun _ _ => rfl)) pa_nil))) pa_nil)))) pss_nil)))
      (pss_one (ps_ret (pe_lst pa_nil))))
/-! cheapest_cuts -/
abbrev s_cheapest_cuts : Stmt := top 16
abbrev N_cheapest_cuts : List Str := ["wish", "stock", "found", "place", "some", "opening", "price"]
theorem sc_cheapest_cuts : FnScope N_cheapest_cuts ["wish", "stock"] (defScope s_cheapest_cuts) := ⟨rfl, rfl, rfl, by decide +kernel, rfl, by decide +kernel, by decide +kernel⟩
def t_cheapest_cuts (K : PySem.W.Frag) (sp_between : Sp) : TS :=
  (tSeq (tAsg (tLst tNil) (gName 2))
      (tSeq (tFor (iRng1 (tCons (tOp (rI0 fun i j => .int (i - j)) (tCB (rLenQ K) (tCons (tVar 0) tNil)) (tC (.int 1))) tNil)) (gName 3) (tSeq (tAsg (tLc (iList K (tCall sp_between [] E0 (tCons (tVar 1) (tCons (tOp (rIxT K) (tOp (rIxL K) (tVar 0) (tVar 3)) (tC (.int 0))) (tCons (tOp (rIxT K) (tOp (rIxL K) (tVar 0) (tOp (rI0 fun i j => .int (i + j)) (tVar 3) (tC (.int 1)))) (tC (.int 0))) tNil))))) (gTup K 2 (gCons (gName 5) (gCons (gName 6) gNil))) tYes (tTup (tCons (tVar 6) (tCons (tVar 5) tNil))) [5, 6]) (gName 4))
      (tDrop (tBM K "list" rAppend (tVar 2) (tCons (tSl (rSlL K) (tCB (rSortedD K) (tCons (tVar 4) tNil)) tNoPart (tPart (tC (.int 1)))) tNil)))))
      (tRet (tVar 2))))
theorem ps_cheapest_cuts {P : Program} {w : World} {K : PySem.W.Frag} {mg : Str → Option Value} {base : Heap} {f : Addr} {k : Nat} (T : Txt mg) {l_between : Nat} {sp_between : Sp} (c_between : Cal P w K mg base CX0 l_between "between" ["stock", "lesser", "greater"] sp_between) (h_between : l_between ≤ k) (cdv : Value) (A : Around) (outer : List PySem.Env) (s : Shared) (H : Hp) (E : XK)
    (hr : Room k (A.deeper (envOfC "cheapest_cuts" (defScope s_cheapest_cuts) s.heap.objs.size f cdv))) : PSs (cxOf CX0 P w K mg base N_cheapest_cuts "cheapest_cuts" (defScope s_cheapest_cuts) f cdv A outer s H E).nox (defBody s_cheapest_cuts) (t_cheapest_cuts K sp_between) := by
  have nd := sc_cheapest_cuts.nd
  exact (pss_cons (ps_set (i := 2) nd rfl (by first | exact Or.inl rfl | exact Or.inr rfl) (pe_lst pa_nil))
      (pss_cons (ps_for PassesOwn.never rfl (pi_range1 (by rfl) T.range (pa_cons (pe_op op_sub (pe_callB call_len_seq (by rfl) T.len PySem.boot_len (pa_cons (pv 0) pa_nil)) pe_int) pa_nil)) (pg_name (i := 3) nd rfl (by first | exact Or.inl rfl | exact Or.inr rfl)) (pss_cons (ps_setLc (i := 4) (own := [("opening", 5), ("price", 6)]) (g := (gTup K 2 (gCons (gName 5) (gCons (gName 6) gNil)))) (tt := tYes) (te := (tTup (tCons (tVar 6) (tCons (tVar 5) tNil)))) rfl nd rfl rfl (sw_true rfl rfl rfl (by decide +kernel)) (pi_list (pe_callC c_between hr pass0 (pa_cons (pv 1) (pa_cons (pe_ix ix_tup (pe_ix ix_list (pv 0) (pv 3) (fun _ _ => rfl)) pe_int (fun _ _ => rfl)) (pa_cons (pe_ix ix_tup (pe_ix ix_list (pv 0) (pe_op op_add (pv 3) pe_int) (fun _ _ => rfl)) pe_int (fun _ _ => rfl)) pa_nil))))) (blkOk_by (own := [("opening", 5), ("price", 6)]) (N := N_cheapest_cuts) (sc := defScope s_cheapest_cuts) (by decide +kernel)) (fun _ _ _ _ _ => (pg_tup rfl (pgs_cons (pg_name (i := 5) nd rfl (by first | exact Or.inl rfl | exact Or.inr rfl)) (pgs_cons (pg_name (i := 6) nd rfl (by first | exact Or.inl rfl | exact Or.inr rfl)) pgs_nil)))) (fun _ _ _ _ _ => pts_nil) (fun _ _ _ _ _ => (pe_tup (pa_cons (pv 6) (pa_cons (pv 5) pa_nil)))))
      (pss_one (ps_expr (pe_bm PySem.F.plainAttrs_list PySem.F.slot_list_append PySem.F.type_list_append mt_append (pv 2) (pa_cons (pe_slice sl_list (pe_callB (cr_sortedD hr.units) (by rfl) T.sorted (by decide +kernel) (pa_cons (pv 4) pa_nil)) po_none (po_some pe_int)) pa_nil))))))
      (pss_one (ps_ret (pv 2)))))
/-! grains_from -/
abbrev s_grains_from : Stmt := top 17
abbrev N_grains_from : List Str := ["wish", "first", "last", "triple"]
theorem sc_grains_from : FnScope N_grains_from ["wish", "first", "last"] (defScope s_grains_from) := ⟨rfl, rfl, rfl, by decide +kernel, rfl, by decide +kernel, by decide +kernel⟩
def t_grains_from (K : PySem.W.Frag) : TS :=
  (tRet (tCB (rSum K) (tCons (tLc (iList K (tSl (rSlL K) (tVar 0) (tPart (tVar 1)) (tPart (tOp (rI0 fun i j => .int (i + j)) (tVar 2) (tC (.int 1)))))) (gName 3) tYes (tOp (rIxT K) (tVar 3) (tC (.int 1))) [3]) tNil)))
theorem ps_grains_from {P : Program} {w : World} {K : PySem.W.Frag} {mg : Str → Option Value} {base : Heap} {f : Addr} {k : Nat} (T : Txt mg) (cdv : Value) (A : Around) (outer : List PySem.Env) (s : Shared) (H : Hp) (E : XK)
    (hr : Room k (A.deeper (envOfC "grains_from" (defScope s_grains_from) s.heap.objs.size f cdv))) : PSs (cxOf CX0 P w K mg base N_grains_from "grains_from" (defScope s_grains_from) f cdv A outer s H E).nox (defBody s_grains_from) (t_grains_from K) := by
  have nd := sc_grains_from.nd
  exact (pss_one (ps_ret (pe_callB (cr_sum rfl) (by rfl) T.sum (by decide +kernel) (pa_cons (pe_lc (own := [("triple", 3)]) (g := (gName 3)) (tt := tYes) (te := (tOp (rIxT K) (tVar 3) (tC (.int 1)))) rfl nd (pi_list (pe_slice sl_list (pv 0) (po_some (pv 1)) (po_some (pe_op op_add (pv 2) pe_int)))) (blkOk_by (own := [("triple", 3)]) (N := N_grains_from) (sc := defScope s_grains_from) (by decide +kernel)) (fun _ _ _ _ _ => (pg_name (i := 3) nd rfl (by first | exact Or.inl rfl | exact Or.inr rfl))) (fun _ _ _ _ _ => pts_nil) (fun _ _ _ _ _ => (pe_ix ix_tup (pv 3) pe_int (fun _ _ => rfl)))) pa_nil))))
/-! has_one_bin -/
abbrev s_has_one_bin : Stmt := top 18
abbrev N_has_one_bin : List Str := ["wish", "first", "last", "triple"]
theorem sc_has_one_bin : FnScope N_has_one_bin ["wish", "first", "last"] (defScope s_has_one_bin) := ⟨rfl, rfl, rfl, by decide +kernel, rfl, by decide +kernel, by decide +kernel⟩
def t_has_one_bin (K : PySem.W.Frag) : TS :=
  (tRet (tOp rEq (tLenSetG K (tLc (iList K (tSl (rSlL K) (tVar 0) (tPart (tVar 1)) (tPart (tOp (rI0 fun i j => .int (i + j)) (tVar 2) (tC (.int 1)))))) (gName 3) tYes (tOp (rIxT K) (tVar 3) (tC (.int 2))) [3])) (tC (.int 1))))
theorem ps_has_one_bin {P : Program} {w : World} {K : PySem.W.Frag} {mg : Str → Option Value} {base : Heap} {f : Addr} {k : Nat} (T : Txt mg) (cdv : Value) (A : Around) (outer : List PySem.Env) (s : Shared) (H : Hp) (E : XK)
    (hr : Room k (A.deeper (envOfC "has_one_bin" (defScope s_has_one_bin) s.heap.objs.size f cdv))) : PSs (cxOf CX0 P w K mg base N_has_one_bin "has_one_bin" (defScope s_has_one_bin) f cdv A outer s H E).nox (defBody s_has_one_bin) (t_has_one_bin K) := by
  have nd := sc_has_one_bin.nd
  exact (pss_one (ps_ret (pe_cmpR op_eq (pe_lenSetG rfl T.len rfl T.set (pe_lc (own := [("triple", 3)]) (g := (gName 3)) (tt := tYes) (te := (tOp (rIxT K) (tVar 3) (tC (.int 2)))) rfl nd (pi_list (pe_slice sl_list (pv 0) (po_some (pv 1)) (po_some (pe_op op_add (pv 2) pe_int)))) (blkOk_by (own := [("triple", 3)]) (N := N_has_one_bin) (sc := defScope s_has_one_bin) (by decide +kernel)) (fun _ _ _ _ _ => (pg_name (i := 3) nd rfl (by first | exact Or.inl rfl | exact Or.inr rfl))) (fun _ _ _ _ _ => pts_nil) (fun _ _ _ _ _ => (pe_ix ix_tup (pv 3) pe_int (fun _ _ => rfl))))) pe_int (nomark _))))
/-! best_cut -/
abbrev s_best_cut : Stmt := top 19
abbrev N_best_cut : List Str := ["cuts", "table", "first", "last", "grains", "found", "place", "price", "opening", "both"]
theorem sc_best_cut : FnScope N_best_cut ["cuts", "table", "first", "last", "grains"] (defScope s_best_cut) := ⟨rfl, rfl, rfl, by decide +kernel, rfl, by decide +kernel, by decide +kernel⟩
def t_best_cut (K : PySem.W.Frag) : TS :=
  (tSeq (tAsg (tLst tNil) (gName 5))
      (tSeq (tFor (iRng2 (tCons (tVar 2) (tCons (tVar 3) tNil))) (gName 6) (tFor (iList K (tOp (rIxL K) (tVar 0) (tVar 6))) (gTup K 2 (gCons (gName 7) (gCons (gName 8) gNil))) (tSeq (tAsg (tOp (rI0 fun i j => .int (i + j)) (tDGet (tVar 1) (tTup (tCons (tVar 2) (tCons (tVar 6) tNil)))) (tDGet (tVar 1) (tTup (tCons (tOp (rI0 fun i j => .int (i + j)) (tVar 6) (tC (.int 1))) (tCons (tVar 3) tNil))))) (gName 9))
      (tDrop (tBM K "list" rAppend (tVar 5) (tCons (tTup (tCons (tOp (rI0 fun i j => .int (i + j)) (tOp (rI CMulW fun i j => .int (i * j)) (tVar 7) (tVar 4)) (tVar 9)) (tCons (tVar 6) tNil))) tNil))))))
      (tRet (tCB (rMinD K) (tCons (tVar 5) tNil)))))
theorem ps_best_cut {P : Program} {w : World} {K : PySem.W.Frag} {mg : Str → Option Value} {base : Heap} {f : Addr} {k : Nat} (T : Txt mg) (cdv : Value) (A : Around) (outer : List PySem.Env) (s : Shared) (H : Hp) (E : XK)
    (hr : Room k (A.deeper (envOfC "best_cut" (defScope s_best_cut) s.heap.objs.size f cdv))) : PSs (cxOf CX0 P w K mg base N_best_cut "best_cut" (defScope s_best_cut) f cdv A outer s H E).nox (defBody s_best_cut) (t_best_cut K) := by
  have nd := sc_best_cut.nd
  exact (pss_cons (ps_set (i := 5) nd rfl (by first | exact Or.inl rfl | exact Or.inr rfl) (pe_lst pa_nil))
      (pss_cons (ps_for PassesOwn.never rfl (pi_range2 (by rfl) T.range (pa_cons (pv 2) (pa_cons (pv 3) pa_nil))) (pg_name (i := 6) nd rfl (by first | exact Or.inl rfl | exact Or.inr rfl)) (pss_one (ps_for PassesOwn.never rfl (pi_list (pe_ix ix_list (pv 0) (pv 6) (fun _ _ => rfl))) (pg_tup rfl (pgs_cons (pg_name (i := 7) nd rfl (by first | exact Or.inl rfl | exact Or.inr rfl)) (pgs_cons (pg_name (i := 8) nd rfl (by first | exact Or.inl rfl | exact Or.inr rfl)) pgs_nil))) (pss_cons (ps_set (i := 9) nd rfl (by first | exact Or.inl rfl | exact Or.inr rfl) (pe_op op_add (pe_dget (hu_of hr) (pv 1) (pe_tup (pa_cons (pv 2) (pa_cons (pv 6) pa_nil))) (fun _ _ => rfl)) (pe_dget (hu_of hr) (pv 1) (pe_tup (pa_cons (pe_op op_add (pv 6) pe_int) (pa_cons (pv 3) pa_nil))) (fun _ _ => rfl))))
      (pss_one (ps_expr (pe_bm PySem.F.plainAttrs_list PySem.F.slot_list_append PySem.F.type_list_append mt_append (pv 5) (pa_cons (pe_tup (pa_cons (pe_op op_add (pe_op op_mulW (pv 7) (pv 4)) (pv 9)) (pa_cons (pv 6) pa_nil))) pa_nil))))))))
      (pss_one (ps_ret (pe_callB (cr_minD rfl hr.units) (by rfl) T.min (by decide +kernel) (pa_cons (pv 5) pa_nil))))))
/-! cut_table -/
abbrev s_cut_table : Stmt := top 20
abbrev N_cut_table : List Str := ["wish", "cuts", "table", "places", "wide", "first", "last", "best"]
theorem sc_cut_table : FnScope N_cut_table ["wish", "cuts"] (defScope s_cut_table) := ⟨rfl, rfl, rfl, by decide +kernel, rfl, by decide +kernel, by decide +kernel⟩
def t_cut_table (K : PySem.W.Frag) (sp_has_one_bin : Sp) (sp_best_cut : Sp) (sp_grains_from : Sp) : TS :=
  (tSeq (tAsg tDNewT (gName 2))
      (tSeq (tAsg tDNewT (gName 3))
      (tSeq (tFor (iRng1 (tCons (tCB (rLenQ K) (tCons (tVar 0) tNil)) tNil)) (gName 4) (tFor (iRng1 (tCons (tOp (rI0 fun i j => .int (i - j)) (tCB (rLenQ K) (tCons (tVar 0) tNil)) (tVar 4)) tNil)) (gName 5) (tSeq (tAsg (tOp (rI0 fun i j => .int (i + j)) (tVar 5) (tVar 4)) (gName 6))
      (tIfS (tB (tCall sp_has_one_bin [] E0 (tCons (tVar 0) (tCons (tVar 5) (tCons (tVar 6) tNil))))) (tSeq (sDPut (tVar 2) (tTup (tCons (tVar 5) (tCons (tVar 6) tNil))) (tC (.int 0)))
      (sDPut (tVar 3) (tTup (tCons (tVar 5) (tCons (tVar 6) tNil))) (tUn (rU fun i => .int (-i)) (tC (.int 1))))) (tSeq (tAsg (tCall sp_best_cut [] E0 (tCons (tVar 1) (tCons (tVar 2) (tCons (tVar 5) (tCons (tVar 6) (tCons (tCall sp_grains_from [] E0 (tCons (tVar 0) (tCons (tVar 5) (tCons (tVar 6) tNil)))) tNil)))))) (gName 7))
      (tSeq (sDPut (tVar 2) (tTup (tCons (tVar 5) (tCons (tVar 6) tNil))) (tOp (rIxT K) (tVar 7) (tC (.int 0))))
      (sDPut (tVar 3) (tTup (tCons (tVar 5) (tCons (tVar 6) tNil))) (tOp (rIxT K) (tVar 7) (tC (.int 1))))))))))
      (tRet (tTup (tCons (tVar 2) (tCons (tVar 3) tNil)))))))
theorem ps_cut_table {P : Program} {w : World} {K : PySem.W.Frag} {mg : Str → Option Value} {base : Heap} {f : Addr} {k : Nat} (T : Txt mg) {l_has_one_bin : Nat} {sp_has_one_bin : Sp} (c_has_one_bin : Cal P w K mg base CX0 l_has_one_bin "has_one_bin" ["wish", "first", "last"] sp_has_one_bin) (h_has_one_bin : l_has_one_bin ≤ k) {l_best_cut : Nat} {sp_best_cut : Sp} (c_best_cut : Cal P w K mg base CX0 l_best_cut "best_cut" ["cuts", "table", "first", "last", "grains"] sp_best_cut) (h_best_cut : l_best_cut ≤ k) {l_grains_from : Nat} {sp_grains_from : Sp} (c_grains_from : Cal P w K mg base CX0 l_grains_from "grains_from" ["wish", "first", "last"] sp_grains_from) (h_grains_from : l_grains_from ≤ k) (cdv : Value) (A : Around) (outer : List PySem.Env) (s : Shared) (H : Hp) (E : XK)
    (hr : Room k (A.deeper (envOfC "cut_table" (defScope s_cut_table) s.heap.objs.size f cdv))) : PSs (cxOf CX0 P w K mg base N_cut_table "cut_table" (defScope s_cut_table) f cdv A outer s H E).nox (defBody s_cut_table) (t_cut_table K sp_has_one_bin sp_best_cut sp_grains_from) := by
  have nd := sc_cut_table.nd
  exact (pss_cons (ps_set (i := 2) nd rfl (by first | exact Or.inl rfl | exact Or.inr rfl) pe_dnewT)
      (pss_cons (ps_set (i := 3) nd rfl (by first | exact Or.inl rfl | exact Or.inr rfl) pe_dnewT)
      (pss_cons (ps_for PassesOwn.never rfl (pi_range1 (by rfl) T.range (pa_cons (pe_callB call_len_seq (by rfl) T.len PySem.boot_len (pa_cons (pv 0) pa_nil)) pa_nil)) (pg_name (i := 4) nd rfl (by first | exact Or.inl rfl | exact Or.inr rfl)) (pss_one (ps_for PassesOwn.never rfl (pi_range1 (by rfl) T.range (pa_cons (pe_op op_sub (pe_callB call_len_seq (by rfl) T.len PySem.boot_len (pa_cons (pv 0) pa_nil)) (pv 4)) pa_nil)) (pg_name (i := 5) nd rfl (by first | exact Or.inl rfl | exact Or.inr rfl)) (pss_cons (ps_set (i := 6) nd rfl (by first | exact Or.inl rfl | exact Or.inr rfl) (pe_op op_add (pv 5) (pv 4)))
      (pss_one (ps_if (pt_val (pe_callC c_has_one_bin hr pass0 (pa_cons (pv 0) (pa_cons (pv 5) (pa_cons (pv 6) pa_nil))))) (pss_cons (ps_dput (hu_of hr) (pv 2) (pe_tup (pa_cons (pv 5) (pa_cons (pv 6) pa_nil))) pe_int rfl)
      (pss_one (ps_dput (hu_of hr) (pv 3) (pe_tup (pa_cons (pv 5) (pa_cons (pv 6) pa_nil))) (pe_un un_neg pe_int) rfl))) (pss_cons (ps_set (i := 7) nd rfl (by first | exact Or.inl rfl | exact Or.inr rfl) (pe_callC c_best_cut hr pass0 (pa_cons (pv 1) (pa_cons (pv 2) (pa_cons (pv 5) (pa_cons (pv 6) (pa_cons (pe_callC c_grains_from hr pass0 (pa_cons (pv 0) (pa_cons (pv 5) (pa_cons (pv 6) pa_nil)))) pa_nil)))))))
      (pss_cons (ps_dput (hu_of hr) (pv 2) (pe_tup (pa_cons (pv 5) (pa_cons (pv 6) pa_nil))) (pe_ix ix_tup (pv 7) pe_int (fun _ _ => rfl)) rfl)
      (pss_one (ps_dput (hu_of hr) (pv 3) (pe_tup (pa_cons (pv 5) (pa_cons (pv 6) pa_nil))) (pe_ix ix_tup (pv 7) pe_int (fun _ _ => rfl)) rfl))))))))))
      (pss_one (ps_ret (pe_tup (pa_cons (pv 2) (pa_cons (pv 3) pa_nil))))))))
/-! tree_by -/
abbrev s_tree_by : Stmt := top 21
abbrev N_tree_by : List Str := ["wish", "cuts", "places", "first", "last", "place", "under"]
theorem sc_tree_by : FnScope N_tree_by ["wish", "cuts", "places", "first", "last"] (defScope s_tree_by) := ⟨rfl, rfl, rfl, by decide +kernel, rfl, by decide +kernel, by decide +kernel⟩
def t_tree_by (K : PySem.W.Frag) (sp_tree_by : Sp) : TS :=
  (tSeq (tAsg (tDGet (tVar 2) (tTup (tCons (tVar 3) (tCons (tVar 4) tNil)))) (gName 5))
      (tSeq (tIfS (tTest (tOp (rI0 fun i j => .bl (decide (i < j))) (tVar 5) (tC (.int 0)))) (tRet (tOp (rIxT K) (tOp (rIxL K) (tVar 0) (tVar 3)) (tC (.int 2)))) tNext)
      (tSeq (tAsg (tCall sp_tree_by [] E0 (tCons (tVar 0) (tCons (tVar 1) (tCons (tVar 2) (tCons (tVar 3) (tCons (tVar 5) tNil)))))) (gName 6))
      (tRet (tTup (tCons (tOp (rIxT K) (tOp (rIxL K) (tOp (rIxL K) (tVar 1) (tVar 5)) (tC (.int 0))) (tC (.int 1))) (tCons (tVar 6) (tCons (tCall sp_tree_by [] E0 (tCons (tVar 0) (tCons (tVar 1) (tCons (tVar 2) (tCons (tOp (rI0 fun i j => .int (i + j)) (tVar 5) (tC (.int 1))) (tCons (tVar 4) tNil)))))) tNil))))))))
theorem ps_tree_by {P : Program} {w : World} {K : PySem.W.Frag} {mg : Str → Option Value} {base : Heap} {f : Addr} {k : Nat} (T : Txt mg) {l_tree_by : Nat} {sp_tree_by : Sp} (c_tree_by : Cal P w K mg base CX0 l_tree_by "tree_by" ["wish", "cuts", "places", "first", "last"] sp_tree_by) (h_tree_by : l_tree_by ≤ k) (cdv : Value) (A : Around) (outer : List PySem.Env) (s : Shared) (H : Hp) (E : XK)
    (hr : Room k (A.deeper (envOfC "tree_by" (defScope s_tree_by) s.heap.objs.size f cdv))) : PSs (cxOf CX0 P w K mg base N_tree_by "tree_by" (defScope s_tree_by) f cdv A outer s H E).nox (defBody s_tree_by) (t_tree_by K sp_tree_by) := by
  have nd := sc_tree_by.nd
  exact (pss_cons (ps_set (i := 5) nd rfl (by first | exact Or.inl rfl | exact Or.inr rfl) (pe_dget (hu_of hr) (pv 2) (pe_tup (pa_cons (pv 3) (pa_cons (pv 4) pa_nil))) (fun _ _ => rfl)))
      (pss_cons (ps_if (pt_cmpR op_lt (pv 5) pe_int (nomark _)) (pss_one (ps_ret (pe_ix ix_tup (pe_ix ix_list (pv 0) (pv 3) (fun _ _ => rfl)) pe_int (fun _ _ => rfl)))) pss_nil)
      (pss_cons (ps_set (i := 6) nd rfl (by first | exact Or.inl rfl | exact Or.inr rfl) (pe_callC c_tree_by hr pass0 (pa_cons (pv 0) (pa_cons (pv 1) (pa_cons (pv 2) (pa_cons (pv 3) (pa_cons (pv 5) pa_nil)))))))
      (pss_one (ps_ret (pe_tup (pa_cons (pe_ix ix_tup (pe_ix ix_list (pe_ix ix_list (pv 1) (pv 5) (fun _ _ => rfl)) pe_int (fun _ _ => rfl)) pe_int (fun _ _ => rfl)) (pa_cons (pv 6) (pa_cons (pe_callC c_tree_by hr pass0 (pa_cons (pv 0) (pa_cons (pv 1) (pa_cons (pv 2) (pa_cons (pe_op op_add (pv 5) pe_int) (pa_cons (pv 4) pa_nil)))))) pa_nil)))))))))
/-! least_tree -/
abbrev s_least_tree : Stmt := top 22
abbrev N_least_tree : List Str := ["wish", "stock", "shut", "cuts", "table", "places", "many", "rows", "first", "last"]
theorem sc_least_tree : FnScope N_least_tree ["wish", "stock"] (defScope s_least_tree) := ⟨rfl, rfl, rfl, by decide +kernel, rfl, by decide +kernel, by decide +kernel⟩
def t_least_tree (K : PySem.W.Frag) (sp_check_wish : Sp) (sp_check_stock : Sp) (sp_shut_border : Sp) (sp_cheapest_cuts : Sp) (sp_cut_table : Sp) (sp_tree_by : Sp) (E : XK) : TS :=
  (tSeq (tDrop (tCall sp_check_wish [] E (tCons (tVar 0) tNil)))
      (tSeq (tDrop (tCall sp_check_stock [] E (tCons (tVar 1) tNil)))
      (tSeq (tAsg (tCall sp_shut_border [] E0 (tCons (tVar 0) (tCons (tVar 1) tNil))) (gName 2))
      (tSeq (tIfS (tTest (tOp (rNeD K) (tVar 2) (tLst tNil))) (tRet (tTup (tCons (tC (.str "shut")) (tCons (tOp (rIxL K) (tVar 2) (tC (.int 0))) tNil)))) tNext)
      (tSeq (tAsg (tCall sp_cheapest_cuts [] E0 (tCons (tVar 0) (tCons (tVar 1) tNil))) (gName 3))
      (tSeq (tAsg (tCall sp_cut_table [] E0 (tCons (tVar 0) (tCons (tVar 3) tNil))) (gTup K 2 (gCons (gName 4) (gCons (gName 5) gNil))))
      (tSeq (tAsg (tCB (rLenQ K) (tCons (tVar 0) tNil)) (gName 6))
      (tSeq (tAsg (tLc (iRng1 (tCons (tVar 6) tNil)) (gName 8) tYes (tLc (iRng2 (tCons (tVar 8) (tCons (tVar 6) tNil))) (gName 9) tYes (tDGet (tVar 4) (tTup (tCons (tVar 8) (tCons (tVar 9) tNil)))) [9]) [8]) (gName 7))
      (tRet (tTup (tCons (tC (.str "tree")) (tCons (tCall sp_tree_by [] E0 (tCons (tVar 0) (tCons (tVar 3) (tCons (tVar 5) (tCons (tC (.int 0)) (tCons (tOp (rI0 fun i j => .int (i - j)) (tVar 6) (tC (.int 1))) tNil)))))) (tCons (tDGet (tVar 4) (tTup (tCons (tC (.int 0)) (tCons (tOp (rI0 fun i j => .int (i - j)) (tVar 6) (tC (.int 1))) tNil)))) (tCons (tVar 7) tNil))))))))))))))
theorem ps_least_tree {P : Program} {w : World} {K : PySem.W.Frag} {mg : Str → Option Value} {base : Heap} {f : Addr} {k : Nat} (T : Txt mg) {l_check_wish : Nat} {sp_check_wish : Sp} (c_check_wish : Cal P w K mg base (L2.CX P w) l_check_wish "check_wish" ["wish"] sp_check_wish) (h_check_wish : l_check_wish ≤ k) {l_check_stock : Nat} {sp_check_stock : Sp} (c_check_stock : Cal P w K mg base (L2.CX P w) l_check_stock "check_stock" ["stock"] sp_check_stock) (h_check_stock : l_check_stock ≤ k) {l_shut_border : Nat} {sp_shut_border : Sp} (c_shut_border : Cal P w K mg base CX0 l_shut_border "shut_border" ["wish", "stock"] sp_shut_border) (h_shut_border : l_shut_border ≤ k) {l_cheapest_cuts : Nat} {sp_cheapest_cuts : Sp} (c_cheapest_cuts : Cal P w K mg base CX0 l_cheapest_cuts "cheapest_cuts" ["wish", "stock"] sp_cheapest_cuts) (h_cheapest_cuts : l_cheapest_cuts ≤ k) {l_cut_table : Nat} {sp_cut_table : Sp} (c_cut_table : Cal P w K mg base CX0 l_cut_table "cut_table" ["wish", "cuts"] sp_cut_table) (h_cut_table : l_cut_table ≤ k) {l_tree_by : Nat} {sp_tree_by : Sp} (c_tree_by : Cal P w K mg base CX0 l_tree_by "tree_by" ["wish", "cuts", "places", "first", "last"] sp_tree_by) (h_tree_by : l_tree_by ≤ k) (cdv : Value) (A : Around) (outer : List PySem.Env) (s : Shared) (H : Hp) (E : XK)
    (hr : Room k (A.deeper (envOfC "least_tree" (defScope s_least_tree) s.heap.objs.size f cdv))) : PSs (cxOf (L2.CX P w) P w K mg base N_least_tree "least_tree" (defScope s_least_tree) f cdv A outer s H E) (defBody s_least_tree) (t_least_tree K sp_check_wish sp_check_stock sp_shut_border sp_cheapest_cuts sp_cut_table sp_tree_by E) := by
  have nd := sc_least_tree.nd
  exact (pss_cons (ps_expr (pe_callC c_check_wish hr (passes_call (takes_of rfl rfl rfl rfl) (fun _ _ _ _ h => h)) (pa_cons (pv 0) pa_nil)))
      (pss_cons (ps_expr (pe_callC c_check_stock hr (passes_call (takes_of rfl rfl rfl rfl) (fun _ _ _ _ h => h)) (pa_cons (pv 1) pa_nil)))
      (pss_cons (ps_set (i := 2) nd rfl (by first | exact Or.inl rfl | exact Or.inr rfl) (pe_callC c_shut_border hr pass0 (pa_cons (pv 0) (pa_cons (pv 1) pa_nil))))
      (pss_cons (ps_if (pt_cmpR (op_neD hr.units) (pv 2) (pe_lst pa_nil) (nomark _)) (pss_one (ps_ret (pe_tup (pa_cons pe_str (pa_cons (pe_ix ix_list (pv 2) pe_int (fun _ _ => rfl)) pa_nil))))) pss_nil)
      (pss_cons (ps_set (i := 3) nd rfl (by first | exact Or.inl rfl | exact Or.inr rfl) (pe_callC c_cheapest_cuts hr pass0 (pa_cons (pv 0) (pa_cons (pv 1) pa_nil))))
      (pss_cons (ps_asg (pe_callC c_cut_table hr pass0 (pa_cons (pv 0) (pa_cons (pv 3) pa_nil))) (pg_tup rfl (pgs_cons (pg_name (i := 4) nd rfl (by first | exact Or.inl rfl | exact Or.inr rfl)) (pgs_cons (pg_name (i := 5) nd rfl (by first | exact Or.inl rfl | exact Or.inr rfl)) pgs_nil))))
      (pss_cons (ps_set (i := 6) nd rfl (by first | exact Or.inl rfl | exact Or.inr rfl) (pe_callB call_len_seq (by rfl) T.len PySem.boot_len (pa_cons (pv 0) pa_nil)))
      (pss_cons (ps_setLc (i := 7) (own := [("first", 8)]) (g := (gName 8)) (tt := tYes) (te := (tLc (iRng2 (tCons (tVar 8) (tCons (tVar 6) tNil))) (gName 9) tYes (tDGet (tVar 4) (tTup (tCons (tVar 8) (tCons (tVar 9) tNil)))) [9])) rfl nd rfl rfl (sw_true rfl rfl rfl (by decide +kernel)) (pi_range1 (by rfl) T.range (pa_cons (pv 6) pa_nil)) (blkOk_by (own := [("first", 8)]) (N := N_least_tree) (sc := defScope s_least_tree) (by decide +kernel)) (fun _ _ _ _ _ => (pg_name (i := 8) nd rfl (by first | exact Or.inl rfl | exact Or.inr rfl))) (fun _ _ _ _ _ => pts_nil) (fun _ _ _ _ _ => (pe_lc (own := [("last", 9)]) (g := (gName 9)) (tt := tYes) (te := (tDGet (tVar 4) (tTup (tCons (tVar 8) (tCons (tVar 9) tNil))))) rfl nd (pi_range2 (by rfl) T.range (pa_cons (pv 8) (pa_cons (pv 6) pa_nil))) (blkOk_by (own := [("last", 9)]) (N := N_least_tree) (sc := relS (lcS ((defBody s_least_tree).getD 7 (.Pass ⟨0, 0, 0, 0⟩))) (defScope s_least_tree)) (by decide +kernel)) (fun _ _ _ _ _ => (pg_name (i := 9) nd rfl (by first | exact Or.inl rfl | exact Or.inr rfl))) (fun _ _ _ _ _ => pts_nil) (fun _ _ _ _ _ => (pe_dget (hu_of hr) (pv 4) (pe_tup (pa_cons (pv 8) (pa_cons (pv 9) pa_nil))) (fun _ _ => rfl))))))
      (pss_one (ps_ret (pe_tup (pa_cons pe_str (pa_cons (pe_callC c_tree_by hr pass0 (pa_cons (pv 0) (pa_cons (pv 3) (pa_cons (pv 5) (pa_cons pe_int (pa_cons (pe_op op_sub (pv 6) pe_int) pa_nil)))))) (pa_cons (pe_dget (hu_of hr) (pv 4) (pe_tup (pa_cons pe_int (pa_cons (pe_op op_sub (pv 6) pe_int) pa_nil))) (fun _ _ => rfl)) (pa_cons (pv 7) pa_nil)))))))))))))))
/-! _law_cell_at -/
abbrev s__law_cell_at : Stmt := top 24
abbrev N__law_cell_at : List Str := ["script", "k"]
theorem sc__law_cell_at : FnScope N__law_cell_at ["script", "k"] (defScope s__law_cell_at) := ⟨rfl, rfl, rfl, by decide +kernel, rfl, by decide +kernel, by decide +kernel⟩
def t__law_cell_at (K : PySem.W.Frag) : TS :=
  (tSeq (tIfS (tTest (tOp (rI0 fun i j => .bl (decide (i < j))) (tVar 1) (tCB (rLenQ K) (tCons (tVar 0) tNil)))) (tRet (tOp (rIxL K) (tVar 0) (tVar 1))) tNext)
      (tRet (tC (.int 0))))
theorem ps__law_cell_at {P : Program} {w : World} {K : PySem.W.Frag} {mg : Str → Option Value} {base : Heap} {f : Addr} {k : Nat} (T : Txt mg) (cdv : Value) (A : Around) (outer : List PySem.Env) (s : Shared) (H : Hp) (E : XK)
    (hr : Room k (A.deeper (envOfC "_law_cell_at" (defScope s__law_cell_at) s.heap.objs.size f cdv))) : PSs (cxOf CX0 P w K mg base N__law_cell_at "_law_cell_at" (defScope s__law_cell_at) f cdv A outer s H E).nox (defBody s__law_cell_at) (t__law_cell_at K) := by
  have nd := sc__law_cell_at.nd
  exact (pss_cons (ps_if (pt_cmpR op_lt (pv 1) (pe_callB call_len_seq (by rfl) T.len PySem.boot_len (pa_cons (pv 0) pa_nil)) (nomark _)) (pss_one (ps_ret (pe_ix ix_list (pv 0) (pv 1) (fun _ _ => rfl)))) pss_nil)
      (pss_one (ps_ret pe_int)))
/-! _law_whole -/
abbrev s__law_whole : Stmt := top 25
abbrev N__law_whole : List Str := ["found"]
theorem sc__law_whole : FnScope N__law_whole ["found"] (defScope s__law_whole) := ⟨rfl, rfl, rfl, by decide +kernel, rfl, by decide +kernel, by decide +kernel⟩
def t__law_whole (K : PySem.W.Frag) : TS :=
  (tRet (tAndV (tCB (rIsi K) (tCons (tVar 0) (tCons (tC (.ty "int")) tNil))) (tNotV (tCB (rIsi K) (tCons (tVar 0) (tCons (tC (.ty "bool")) tNil))))))
theorem ps__law_whole {P : Program} {w : World} {K : PySem.W.Frag} {mg : Str → Option Value} {base : Heap} {f : Addr} {k : Nat} (T : Txt mg) (cdv : Value) (A : Around) (outer : List PySem.Env) (s : Shared) (H : Hp) (E : XK)
    (hr : Room k (A.deeper (envOfC "_law_whole" (defScope s__law_whole) s.heap.objs.size f cdv))) : PSs (cxOf CX0 P w K mg base N__law_whole "_law_whole" (defScope s__law_whole) f cdv A outer s H E).nox (defBody s__law_whole) (t__law_whole K) := by
  have nd := sc__law_whole.nd
  exact (pss_one (ps_ret (pe_and (pe_callB call_isi (by rfl) T.isinstance (by decide +kernel) (pa_cons (pv 0) (pa_cons (pe_bltn (v := .ty "int") (by rfl) T.int (by decide +kernel) rfl) pa_nil))) (pe_one (pe_not (pe_callB call_isi (by rfl) T.isinstance (by decide +kernel) (pa_cons (pv 0) (pa_cons (pe_bltn (v := .ty "bool") (by rfl) T.bool (by decide +kernel) rfl) pa_nil))))))))
/-! _law_pair -/
abbrev s__law_pair : Stmt := top 26
abbrev N__law_pair : List Str := ["cell", "way", "wide", "size"]
theorem sc__law_pair : FnScope N__law_pair ["cell"] (defScope s__law_pair) := ⟨rfl, rfl, rfl, by decide +kernel, rfl, by decide +kernel, by decide +kernel⟩
def t__law_pair (K : PySem.W.Frag) : TS :=
  (tSeq (tAsg (tOp (rI (fun _ j => 0 < j) fun i j => .int (i % j)) (tVar 0) (tC (.int 4))) (gName 1))
      (tSeq (tAsg (tOp (rI CDivW fun i j => .int (i / j)) (tVar 0) (tC (.int 4))) (gName 0))
      (tSeq (tAsg (tOp (rIxL K) (tLst (tCons (tC (.int 9)) (tCons (tC (.int 200)) (tCons (tC (.int 9)) (tCons (tOp (rI CPow fun i j => .int (i ^ j.toNat)) (tC (.int 10)) (tC (.int 60))) tNil))))) (tVar 1)) (gName 2))
      (tSeq (tAsg (tOp (rI0 fun i j => .int (i + j)) (tC (.int 1)) (tOp (rI (fun _ j => 0 < j) fun i j => .int (i % j)) (tVar 0) (tVar 2))) (gName 3))
      (tSeq (tIfS (tTest (tOp rEq (tVar 1) (tC (.int 2)))) (tAsg (tOp (rI0 fun i j => .int (i - j)) (tOp (rI CPow fun i j => .int (i ^ j.toNat)) (tC (.int 10)) (tC (.int 60))) (tOp (rI (fun _ j => 0 < j) fun i j => .int (i % j)) (tVar 0) (tC (.int 9)))) (gName 3)) tNext)
      (tSeq (tAsg (tOp (rI CDivW fun i j => .int (i / j)) (tVar 0) (tVar 2)) (gName 0))
      (tRet (tTup (tCons (tVar 3) (tCons (tOp (rI0 fun i j => .int (i + j)) (tC (.int 1)) (tOp (rI (fun _ j => 0 < j) fun i j => .int (i % j)) (tOp (rI CDivW fun i j => .int (i / j)) (tVar 0) (tC (.int 5))) (tOp (rIxL K) (tLst (tCons (tOp (rI CPow fun i j => .int (i ^ j.toNat)) (tC (.int 10)) (tC (.int 60))) (tCons (tC (.int 7)) (tCons (tC (.int 7)) (tCons (tC (.int 7)) (tCons (tC (.int 7)) tNil)))))) (tOp (rI (fun _ j => 0 < j) fun i j => .int (i % j)) (tVar 0) (tC (.int 5)))))) tNil))))))))))
theorem ps__law_pair {P : Program} {w : World} {K : PySem.W.Frag} {mg : Str → Option Value} {base : Heap} {f : Addr} {k : Nat} (T : Txt mg) (cdv : Value) (A : Around) (outer : List PySem.Env) (s : Shared) (H : Hp) (E : XK)
    (hr : Room k (A.deeper (envOfC "_law_pair" (defScope s__law_pair) s.heap.objs.size f cdv))) : PSs (cxOf CX0 P w K mg base N__law_pair "_law_pair" (defScope s__law_pair) f cdv A outer s H E).nox (defBody s__law_pair) (t__law_pair K) := by
  have nd := sc__law_pair.nd
  exact (pss_cons (ps_set (i := 1) nd rfl (by first | exact Or.inl rfl | exact Or.inr rfl) (pe_op op_mod (pv 0) pe_int))
      (pss_cons (ps_set (i := 0) nd rfl (by first | exact Or.inl rfl | exact Or.inr rfl) (pe_op op_fdivW (pv 0) pe_int))
      (pss_cons (ps_set (i := 2) nd rfl (by first | exact Or.inl rfl | exact Or.inr rfl) (pe_ix ix_list (pe_lst (pa_cons pe_int (pa_cons pe_int (pa_cons pe_int (pa_cons (pe_op op_pow pe_int pe_int) pa_nil))))) (pv 1) (fun _ _ => rfl)))
      (pss_cons (ps_set (i := 3) nd rfl (by first | exact Or.inl rfl | exact Or.inr rfl) (pe_op op_add pe_int (pe_op op_mod (pv 0) (pv 2))))
      (pss_cons (ps_if (pt_cmpR op_eq (pv 1) pe_int (nomark _)) (pss_one (ps_set (i := 3) nd rfl (by first | exact Or.inl rfl | exact Or.inr rfl) (pe_op op_sub (pe_op op_pow pe_int pe_int) (pe_op op_mod (pv 0) pe_int)))) pss_nil)
      (pss_cons (ps_set (i := 0) nd rfl (by first | exact Or.inl rfl | exact Or.inr rfl) (pe_op op_fdivW (pv 0) (pv 2)))
      (pss_one (ps_ret (pe_tup (pa_cons (pv 3) (pa_cons (pe_op op_add pe_int (pe_op op_mod (pe_op op_fdivW (pv 0) pe_int) (pe_ix ix_list (pe_lst (pa_cons (pe_op op_pow pe_int pe_int) (pa_cons pe_int (pa_cons pe_int (pa_cons pe_int (pa_cons pe_int pa_nil)))))) (pe_op op_mod (pv 0) pe_int) (fun _ _ => rfl)))) pa_nil)))))))))))
/-! _law_wish -/
abbrev s__law_wish : Stmt := top 27
abbrev N__law_wish : List Str := ["cells", "kinds", "held", "cell", "size", "many"]
theorem sc__law_wish : FnScope N__law_wish ["cells", "kinds"] (defScope s__law_wish) := ⟨rfl, rfl, rfl, by decide +kernel, rfl, by decide +kernel, by decide +kernel⟩
def t__law_wish (K : PySem.W.Frag) (sp__law_pair : Sp) : TS :=
  (tSeq (tAsg tDNewK (gName 2))
      (tSeq (tFor (iList K (tSl (rSlL K) (tVar 0) tNoPart (tPart (tC (.int 20))))) (gName 3) (tSeq (tAsg (tCall sp__law_pair [] E0 (tCons (tOp (rI CDivW fun i j => .int (i / j)) (tVar 3) (tC (.int 6))) tNil)) (gTup K 2 (gCons (gName 4) (gCons (gName 5) gNil))))
      (sDPut (tVar 2) (tVar 4) (tTup (tCons (tVar 5) (tCons (tOp (rI (fun _ j => 0 < j) fun i j => .int (i % j)) (tOp (rI (fun _ j => 0 < j) fun i j => .int (i % j)) (tVar 3) (tC (.int 6))) (tVar 1)) tNil))))))
      (tSeq (tIfS (tTest (tOp rEq (tCB rLenD (tCons (tVar 2) tNil)) (tC (.int 0)))) (sDPut (tVar 2) (tC (.int 7)) (tTup (tCons (tC (.int 1)) (tCons (tC (.int 0)) tNil)))) tNext)
      (tRet (tLc (iList K (tCB rSortedK (tCons (tVar 2) tNil))) (gName 4) tYes (tTup (tCons (tVar 4) (tCons (tOp (rIxT K) (tDGet (tVar 2) (tVar 4)) (tC (.int 0))) (tCons (tOp (rIxT K) (tDGet (tVar 2) (tVar 4)) (tC (.int 1))) tNil)))) [4])))))
theorem ps__law_wish {P : Program} {w : World} {K : PySem.W.Frag} {mg : Str → Option Value} {base : Heap} {f : Addr} {k : Nat} (T : Txt mg) {l__law_pair : Nat} {sp__law_pair : Sp} (c__law_pair : Cal P w K mg base CX0 l__law_pair "_law_pair" ["cell"] sp__law_pair) (h__law_pair : l__law_pair ≤ k) (cdv : Value) (A : Around) (outer : List PySem.Env) (s : Shared) (H : Hp) (E : XK)
    (hr : Room k (A.deeper (envOfC "_law_wish" (defScope s__law_wish) s.heap.objs.size f cdv))) : PSs (cxOf CX0 P w K mg base N__law_wish "_law_wish" (defScope s__law_wish) f cdv A outer s H E).nox (defBody s__law_wish) (t__law_wish K sp__law_pair) := by
  have nd := sc__law_wish.nd
  exact (pss_cons (ps_set (i := 2) nd rfl (by first | exact Or.inl rfl | exact Or.inr rfl) pe_dnewK)
      (pss_cons (ps_for PassesOwn.never rfl (pi_list (pe_slice sl_list (pv 0) po_none (po_some pe_int))) (pg_name (i := 3) nd rfl (by first | exact Or.inl rfl | exact Or.inr rfl)) (pss_cons (ps_asg (pe_callC c__law_pair hr pass0 (pa_cons (pe_op op_fdivW (pv 3) pe_int) pa_nil)) (pg_tup rfl (pgs_cons (pg_name (i := 4) nd rfl (by first | exact Or.inl rfl | exact Or.inr rfl)) (pgs_cons (pg_name (i := 5) nd rfl (by first | exact Or.inl rfl | exact Or.inr rfl)) pgs_nil))))
      (pss_one (ps_dput (hu_of hr) (pv 2) (pv 4) (pe_tup (pa_cons (pv 5) (pa_cons (pe_op op_mod (pe_op op_mod (pv 3) pe_int) (pv 1)) pa_nil))) rfl))))
      (pss_cons (ps_if (pt_cmpR op_eq (pe_callB call_lenD (by rfl) T.len PySem.boot_len (pa_cons (pv 2) pa_nil)) pe_int (nomark _)) (pss_one (ps_dput (hu_of hr) (pv 2) pe_int (pe_tup (pa_cons pe_int (pa_cons pe_int pa_nil))) rfl)) pss_nil)
      (pss_one (ps_ret (pe_lc (own := [("size", 4)]) (g := (gName 4)) (tt := tYes) (te := (tTup (tCons (tVar 4) (tCons (tOp (rIxT K) (tDGet (tVar 2) (tVar 4)) (tC (.int 0))) (tCons (tOp (rIxT K) (tDGet (tVar 2) (tVar 4)) (tC (.int 1))) tNil))))) rfl nd (pi_list (pe_callB (call_sortedDI rfl) (by rfl) T.sorted (by decide +kernel) (pa_cons (pv 2) pa_nil))) (blkOk_by (own := [("size", 4)]) (N := N__law_wish) (sc := defScope s__law_wish) (by decide +kernel)) (fun _ _ _ _ _ => (pg_name (i := 4) nd rfl (by first | exact Or.inl rfl | exact Or.inr rfl))) (fun _ _ _ _ _ => pts_nil) (fun _ _ _ _ _ => (pe_tup (pa_cons (pv 4) (pa_cons (pe_ix ix_tup (pe_dget (hu_of hr) (pv 2) (pv 4) (fun _ _ => rfl)) pe_int (fun _ _ => rfl)) (pa_cons (pe_ix ix_tup (pe_dget (hu_of hr) (pv 2) (pv 4) (fun _ _ => rfl)) pe_int (fun _ _ => rfl)) pa_nil)))))))))))
/-! _law_stock -/
abbrev s__law_stock : Stmt := top 28
abbrev N__law_stock : List Str := ["cells", "wish", "whole", "held", "triple", "cell", "size", "rest", "opening", "price"]
theorem sc__law_stock : FnScope N__law_stock ["cells", "wish", "whole"] (defScope s__law_stock) := ⟨rfl, rfl, rfl, by decide +kernel, rfl, by decide +kernel, by decide +kernel⟩
def t__law_stock (K : PySem.W.Frag) : TS :=
  (tSeq (tAsg tDNewK (gName 3))
      (tSeq (tIfS (tB (tVar 2)) (tFor (iList K (tVar 1)) (gName 4) (sDPut (tVar 3) (tOp (rIxT K) (tVar 4) (tC (.int 0))) (tOp (rI (fun _ j => 0 < j) fun i j => .int (i % j)) (tOp (rI CDivW fun i j => .int (i / j)) (tOp (rIxT K) (tVar 4) (tC (.int 0))) (tC (.int 3))) (tC (.int 10))))) tNext)
      (tSeq (tFor (iList K (tSl (rSlL K) (tVar 0) tNoPart (tPart (tC (.int 30))))) (gName 5) (tSeq (tAsg (tOp (rIxT K) (tOp (rIxL K) (tVar 1) (tOp (rI (fun _ j => 0 < j) fun i j => .int (i % j)) (tVar 5) (tCB (rLenQ K) (tCons (tVar 1) tNil)))) (tC (.int 0))) (gName 6))
      (tSeq (tAsg (tOp (rI CDivW fun i j => .int (i / j)) (tVar 5) (tC (.int 800))) (gName 7))
      (tSeq (tAsg (tOp (rIxL K) (tLst (tCons (tVar 6) (tCons (tOp (rI0 fun i j => .int (i + j)) (tVar 6) (tC (.int 1))) (tCons (tOp (rI0 fun i j => .int (i - j)) (tVar 6) (tC (.int 1))) (tCons (tOp (rI0 fun i j => .int (i + j)) (tVar 6) (tOp (rI (fun _ j => 0 < j) fun i j => .int (i % j)) (tVar 7) (tC (.int 50)))) (tCons (tOp (rI0 fun i j => .int (i + j)) (tC (.int 1)) (tOp (rI (fun _ j => 0 < j) fun i j => .int (i % j)) (tVar 7) (tOp (rI CPow fun i j => .int (i ^ j.toNat)) (tC (.int 10)) (tC (.int 60))))) tNil)))))) (tOp (rI (fun _ j => 0 < j) fun i j => .int (i % j)) (tOp (rI CDivW fun i j => .int (i / j)) (tVar 5) (tC (.int 160))) (tC (.int 5)))) (gName 8))
      (tSeq (tAsg (tOp (rI CDivW fun i j => .int (i / j)) (tVar 7) (tOp (rIxL K) (tLst (tCons (tC (.int 1)) (tCons (tC (.int 1)) (tCons (tC (.int 1)) (tCons (tC (.int 50)) (tCons (tOp (rI CPow fun i j => .int (i ^ j.toNat)) (tC (.int 10)) (tC (.int 60))) tNil)))))) (tOp (rI (fun _ j => 0 < j) fun i j => .int (i % j)) (tOp (rI CDivW fun i j => .int (i / j)) (tVar 5) (tC (.int 160))) (tC (.int 5))))) (gName 7))
      (tSeq (tAsg (tOp (rIxL K) (tLst (tCons (tOp (rI (fun _ j => 0 < j) fun i j => .int (i % j)) (tOp (rI CDivW fun i j => .int (i / j)) (tVar 7) (tC (.int 3))) (tC (.int 10))) (tCons (tOp (rI (fun _ j => 0 < j) fun i j => .int (i % j)) (tOp (rI CDivW fun i j => .int (i / j)) (tVar 7) (tC (.int 3))) (tOp (rI0 fun i j => .int (i + j)) (tOp (rI CPow fun i j => .int (i ^ j.toNat)) (tC (.int 10)) (tC (.int 60))) (tC (.int 1)))) (tCons (tOp (rI CPow fun i j => .int (i ^ j.toNat)) (tC (.int 10)) (tC (.int 60))) tNil)))) (tOp (rI (fun _ j => 0 < j) fun i j => .int (i % j)) (tVar 7) (tC (.int 3)))) (gName 9))
      (tIfS (tAnd (tTest (tChain (rI0 fun i j => .bl (decide (i ≤ j))) (rI0 fun i j => .bl (decide (i ≤ j))) (tC (.int 1)) (tVar 8) (tOp (rI CPow fun i j => .int (i ^ j.toNat)) (tC (.int 10)) (tC (.int 60))))) (tOr (tB (tDIn (tVar 8) (tVar 3))) (tTest (tOp (rI0 fun i j => .bl (decide (i < j))) (tCB rLenD (tCons (tVar 3) tNil)) (tC (.int 30)))))) (sDPut (tVar 3) (tVar 8) (tVar 9)) tNext)))))))
      (tRet (tLc (iList K (tCB rSortedK (tCons (tVar 3) tNil))) (gName 8) tYes (tTup (tCons (tVar 8) (tCons (tDGet (tVar 3) (tVar 8)) tNil))) [8])))))
theorem ps__law_stock {P : Program} {w : World} {K : PySem.W.Frag} {mg : Str → Option Value} {base : Heap} {f : Addr} {k : Nat} (T : Txt mg) (cdv : Value) (A : Around) (outer : List PySem.Env) (s : Shared) (H : Hp) (E : XK)
    (hr : Room k (A.deeper (envOfC "_law_stock" (defScope s__law_stock) s.heap.objs.size f cdv))) : PSs (cxOf CX0 P w K mg base N__law_stock "_law_stock" (defScope s__law_stock) f cdv A outer s H E).nox (defBody s__law_stock) (t__law_stock K) := by
  have nd := sc__law_stock.nd
  exact (pss_cons (ps_set (i := 3) nd rfl (by first | exact Or.inl rfl | exact Or.inr rfl) pe_dnewK)
      (pss_cons (ps_if (pt_val (pv 2)) (pss_one (ps_for PassesOwn.never rfl (pi_list (pv 1)) (pg_name (i := 4) nd rfl (by first | exact Or.inl rfl | exact Or.inr rfl)) (pss_one (ps_dput (hu_of hr) (pv 3) (pe_ix ix_tup (pv 4) pe_int (fun _ _ => rfl)) (pe_op op_mod (pe_op op_fdivW (pe_ix ix_tup (pv 4) pe_int (fun _ _ => rfl)) pe_int) pe_int) rfl)))) pss_nil)
      (pss_cons (ps_for PassesOwn.never rfl (pi_list (pe_slice sl_list (pv 0) po_none (po_some pe_int))) (pg_name (i := 5) nd rfl (by first | exact Or.inl rfl | exact Or.inr rfl)) (pss_cons (ps_set (i := 6) nd rfl (by first | exact Or.inl rfl | exact Or.inr rfl) (pe_ix ix_tup (pe_ix ix_list (pv 1) (pe_op op_mod (pv 5) (pe_callB call_len_seq (by rfl) T.len PySem.boot_len (pa_cons (pv 1) pa_nil))) (fun _ _ => rfl)) pe_int (fun _ _ => rfl)))
      (pss_cons (ps_set (i := 7) nd rfl (by first | exact Or.inl rfl | exact Or.inr rfl) (pe_op op_fdivW (pv 5) pe_int))
      (pss_cons (ps_set (i := 8) nd rfl (by first | exact Or.inl rfl | exact Or.inr rfl) (pe_ix ix_list (pe_lst (pa_cons (pv 6) (pa_cons (pe_op op_add (pv 6) pe_int) (pa_cons (pe_op op_sub (pv 6) pe_int) (pa_cons (pe_op op_add (pv 6) (pe_op op_mod (pv 7) pe_int)) (pa_cons (pe_op op_add pe_int (pe_op op_mod (pv 7) (pe_op op_pow pe_int pe_int))) pa_nil)))))) (pe_op op_mod (pe_op op_fdivW (pv 5) pe_int) pe_int) (fun _ _ => rfl)))
      (pss_cons (ps_set (i := 7) nd rfl (by first | exact Or.inl rfl | exact Or.inr rfl) (pe_op op_fdivW (pv 7) (pe_ix ix_list (pe_lst (pa_cons pe_int (pa_cons pe_int (pa_cons pe_int (pa_cons pe_int (pa_cons (pe_op op_pow pe_int pe_int) pa_nil)))))) (pe_op op_mod (pe_op op_fdivW (pv 5) pe_int) pe_int) (fun _ _ => rfl))))
      (pss_cons (ps_set (i := 9) nd rfl (by first | exact Or.inl rfl | exact Or.inr rfl) (pe_ix ix_list (pe_lst (pa_cons (pe_op op_mod (pe_op op_fdivW (pv 7) pe_int) pe_int) (pa_cons (pe_op op_mod (pe_op op_fdivW (pv 7) pe_int) (pe_op op_add (pe_op op_pow pe_int pe_int) pe_int)) (pa_cons (pe_op op_pow pe_int pe_int) pa_nil)))) (pe_op op_mod (pv 7) pe_int) (fun _ _ => rfl)))
      (pss_one (ps_if (PW.pt (pw_and (pt_chain op_le op_le pe_int (pv 8) (pe_op op_pow pe_int pe_int)) (pw_and1 (PW.pt (pw_or (pt_cmp (pc_din (hu_of hr) (pv 8) (pv 3))) (pw_or1 (pt_cmpR op_lt (pe_callB call_lenD (by rfl) T.len PySem.boot_len (pa_cons (pv 3) pa_nil)) pe_int (nomark _)))))))) (pss_one (ps_dput (hu_of hr) (pv 3) (pv 8) (pv 9) rfl)) pss_nil))))))))
      (pss_one (ps_ret (pe_lc (own := [("opening", 8)]) (g := (gName 8)) (tt := tYes) (te := (tTup (tCons (tVar 8) (tCons (tDGet (tVar 3) (tVar 8)) tNil)))) rfl nd (pi_list (pe_callB (call_sortedDI rfl) (by rfl) T.sorted (by decide +kernel) (pa_cons (pv 3) pa_nil))) (blkOk_by (own := [("opening", 8)]) (N := N__law_stock) (sc := defScope s__law_stock) (by decide +kernel)) (fun _ _ _ _ _ => (pg_name (i := 8) nd rfl (by first | exact Or.inl rfl | exact Or.inr rfl))) (fun _ _ _ _ _ => pts_nil) (fun _ _ _ _ _ => (pe_tup (pa_cons (pv 8) (pa_cons (pe_dget (hu_of hr) (pv 3) (pv 8) (fun _ _ => rfl)) pa_nil))))))))))
/-! _law_shut -/
abbrev s__law_shut : Stmt := top 30
abbrev N__law_shut : List Str := ["wish", "stock", "k", "some", "pair"]
theorem sc__law_shut : FnScope N__law_shut ["wish", "stock"] (defScope s__law_shut) := ⟨rfl, rfl, rfl, by decide +kernel, rfl, by decide +kernel, by decide +kernel⟩
def t__law_shut (K : PySem.W.Frag) : TS :=
  (tSeq (tFor (iRng2 (tCons (tC (.int 1)) (tCons (tCB (rLenQ K) (tCons (tVar 0) tNil)) tNil))) (gName 2) (tSeq (tAsg (tLc (iList K (tVar 1)) (gName 4) (tTest (tChain (rI0 fun i j => .bl (decide (i ≤ j))) (rI0 fun i j => .bl (decide (i < j))) (tOp (rIxT K) (tOp (rIxL K) (tVar 0) (tOp (rI0 fun i j => .int (i - j)) (tVar 2) (tC (.int 1)))) (tC (.int 0))) (tOp (rIxT K) (tVar 4) (tC (.int 0))) (tOp (rIxT K) (tOp (rIxL K) (tVar 0) (tVar 2)) (tC (.int 0))))) (tVar 4) [4]) (gName 3))
      (tIfS (tAnd (tTest (tOp rNe (tOp (rIxT K) (tOp (rIxL K) (tVar 0) (tOp (rI0 fun i j => .int (i - j)) (tVar 2) (tC (.int 1)))) (tC (.int 2))) (tOp (rIxT K) (tOp (rIxL K) (tVar 0) (tVar 2)) (tC (.int 2))))) (tTest (tOp rEq (tCB (rLenQ K) (tCons (tVar 3) tNil)) (tC (.int 0))))) (tRet (tTup (tCons (tOp (rIxT K) (tOp (rIxL K) (tVar 0) (tOp (rI0 fun i j => .int (i - j)) (tVar 2) (tC (.int 1)))) (tC (.int 0))) (tCons (tOp (rIxT K) (tOp (rIxL K) (tVar 0) (tVar 2)) (tC (.int 0))) tNil)))) tNext)))
      (tRet (tC .non)))
theorem ps__law_shut {P : Program} {w : World} {K : PySem.W.Frag} {mg : Str → Option Value} {base : Heap} {f : Addr} {k : Nat} (T : Txt mg) (cdv : Value) (A : Around) (outer : List PySem.Env) (s : Shared) (H : Hp) (E : XK)
    (hr : Room k (A.deeper (envOfC "_law_shut" (defScope s__law_shut) s.heap.objs.size f cdv))) : PSs (cxOf CX0 P w K mg base N__law_shut "_law_shut" (defScope s__law_shut) f cdv A outer s H E).nox (defBody s__law_shut) (t__law_shut K) := by
  have nd := sc__law_shut.nd
  exact (pss_cons (ps_for PassesOwn.never rfl (pi_range2 (by rfl) T.range (pa_cons pe_int (pa_cons (pe_callB call_len_seq (by rfl) T.len PySem.boot_len (pa_cons (pv 0) pa_nil)) pa_nil))) (pg_name (i := 2) nd rfl (by first | exact Or.inl rfl | exact Or.inr rfl)) (pss_cons (ps_setLc (i := 3) (own := [("pair", 4)]) (g := (gName 4)) (tt := (tTest (tChain (rI0 fun i j => .bl (decide (i ≤ j))) (rI0 fun i j => .bl (decide (i < j))) (tOp (rIxT K) (tOp (rIxL K) (tVar 0) (tOp (rI0 fun i j => .int (i - j)) (tVar 2) (tC (.int 1)))) (tC (.int 0))) (tOp (rIxT K) (tVar 4) (tC (.int 0))) (tOp (rIxT K) (tOp (rIxL K) (tVar 0) (tVar 2)) (tC (.int 0)))))) (te := (tVar 4)) rfl nd rfl rfl (sw_true rfl rfl rfl (by decide +kernel)) (pi_list (pv 1)) (blkOk_by (own := [("pair", 4)]) (N := N__law_shut) (sc := defScope s__law_shut) (by decide +kernel)) (fun _ _ _ _ _ => (pg_name (i := 4) nd rfl (by first | exact Or.inl rfl | exact Or.inr rfl))) (fun _ _ _ _ _ => (pts_one (pt_chain op_le op_lt (pe_ix ix_tup (pe_ix ix_list (pv 0) (pe_op op_sub (pv 2) pe_int) (fun _ _ => rfl)) pe_int (fun _ _ => rfl)) (pe_ix ix_tup (pv 4) pe_int (fun _ _ => rfl)) (pe_ix ix_tup (pe_ix ix_list (pv 0) (pv 2) (fun _ _ => rfl)) pe_int (fun _ _ => rfl))))) (fun _ _ _ _ _ => (pv 4)))
      (pss_one (ps_if (PW.pt (pw_and (pt_cmpR op_ne (pe_ix ix_tup (pe_ix ix_list (pv 0) (pe_op op_sub (pv 2) pe_int) (fun _ _ => rfl)) pe_int (fun _ _ => rfl)) (pe_ix ix_tup (pe_ix ix_list (pv 0) (pv 2) (fun _ _ => rfl)) pe_int (fun _ _ => rfl)) (nomark _)) (pw_and1 (pt_cmpR op_eq (pe_callB call_len_seq (by rfl) T.len PySem.boot_len (pa_cons (pv 3) pa_nil)) pe_int (nomark _))))) (pss_one (ps_ret (pe_tup (pa_cons (pe_ix ix_tup (pe_ix ix_list (pv 0) (pe_op op_sub (pv 2) pe_int) (fun _ _ => rfl)) pe_int (fun _ _ => rfl)) (pa_cons (pe_ix ix_tup (pe_ix ix_list (pv 0) (pv 2) (fun _ _ => rfl)) pe_int (fun _ _ => rfl)) pa_nil))))) pss_nil))))
      (pss_one (ps_ret pe_non)))
/-! _law_met -/
abbrev s__law_met : Stmt := top 31
abbrev N__law_met : List Str := ["tree", "size", "met"]
theorem sc__law_met : FnScope N__law_met ["tree", "size"] (defScope s__law_met) := ⟨rfl, rfl, rfl, by decide +kernel, rfl, by decide +kernel, by decide +kernel⟩
def t__law_met (K : PySem.W.Frag) : TS :=
  (tSeq (tAsg (tLst tNil) (gName 2))
      (tSeq (tWhile (tB (tCB (rIsi K) (tCons (tVar 0) (tCons (tC (.ty "tuple")) tNil)))) (tSeq (tDrop (tBM K "list" rAppend (tVar 2) (tCons (tOp (rIxT K) (tVar 0) (tC (.int 0))) tNil)))
      (tAsg (tOp (rIxT K) (tVar 0) (tOp (rI0 fun i j => .int (i + j)) (tC (.int 1)) (tCB rInt1 (tCons (tOp (rI0 fun i j => .bl (decide (j < i))) (tVar 1) (tOp (rIxT K) (tVar 0) (tC (.int 0)))) tNil)))) (gName 0))))
      (tRet (tTup (tCons (tVar 2) (tCons (tVar 0) tNil))))))
theorem ps__law_met {P : Program} {w : World} {K : PySem.W.Frag} {mg : Str → Option Value} {base : Heap} {f : Addr} {k : Nat} (T : Txt mg) (cdv : Value) (A : Around) (outer : List PySem.Env) (s : Shared) (H : Hp) (E : XK)
    (hr : Room k (A.deeper (envOfC "_law_met" (defScope s__law_met) s.heap.objs.size f cdv))) : PSs (cxOf CX0 P w K mg base N__law_met "_law_met" (defScope s__law_met) f cdv A outer s H E).nox (defBody s__law_met) (t__law_met K) := by
  have nd := sc__law_met.nd
  exact (pss_cons (ps_set (i := 2) nd rfl (by first | exact Or.inl rfl | exact Or.inr rfl) (pe_lst pa_nil))
      (pss_cons (ps_while PassesOwn.never (pt_val (pe_callB call_isi (by rfl) T.isinstance (by decide +kernel) (pa_cons (pv 0) (pa_cons (pe_bltn (v := .ty "tuple") (by rfl) T.tuple (by decide +kernel) rfl) pa_nil)))) (pss_cons (ps_expr (pe_bm PySem.F.plainAttrs_list PySem.F.slot_list_append PySem.F.type_list_append mt_append (pv 2) (pa_cons (pe_ix ix_tup (pv 0) pe_int (fun _ _ => rfl)) pa_nil)))
      (pss_one (ps_set (i := 0) nd rfl (by first | exact Or.inl rfl | exact Or.inr rfl) (pe_ix ix_tup (pv 0) (pe_op op_add pe_int (pe_callTy call_int1 (by rfl) T.int (by decide +kernel) (pa_cons (pe_cmpR op_gt (pv 1) (pe_ix ix_tup (pv 0) pe_int (fun _ _ => rfl)) (nomark _)) pa_nil))) (fun _ _ => rfl))))))
      (pss_one (ps_ret (pe_tup (pa_cons (pv 2) (pa_cons (pv 0) pa_nil)))))))
/-! _law_is_tree -/
abbrev s__law_is_tree : Stmt := top 32
abbrev N__law_is_tree : List Str := ["tree", "openings"]
theorem sc__law_is_tree : FnScope N__law_is_tree ["tree", "openings"] (defScope s__law_is_tree) := ⟨rfl, rfl, rfl, by decide +kernel, rfl, by decide +kernel, by decide +kernel⟩
def t__law_is_tree (K : PySem.W.Frag) (sp__law_whole : Sp) (sp__law_is_tree : Sp) : TS :=
  (tSeq (tIfS (tNot (tB (tCB (rIsi K) (tCons (tVar 0) (tCons (tC (.ty "tuple")) tNil))))) (tRet (tAndV (tCall sp__law_whole [] E0 (tCons (tVar 0) tNil)) (tChain (rI0 fun i j => .bl (decide (i ≤ j))) (rI0 fun i j => .bl (decide (i ≤ j))) (tC (.int 0)) (tVar 0) (tC (.int 5))))) tNext)
      (tSeq (tIfS (tOr (tTest (tOp rNe (tCB (rLenQ K) (tCons (tVar 0) tNil)) (tC (.int 3)))) (tOr (tNot (tB (tCall sp__law_whole [] E0 (tCons (tOp (rIxT K) (tVar 0) (tC (.int 0))) tNil)))) (tTest (tOp (rIn K true) (tOp (rIxT K) (tVar 0) (tC (.int 0))) (tVar 1))))) (tRet (tC (.bl false))) tNext)
      (tRet (tAndV (tCall sp__law_is_tree [] E0 (tCons (tOp (rIxT K) (tVar 0) (tC (.int 1))) (tCons (tVar 1) tNil))) (tCall sp__law_is_tree [] E0 (tCons (tOp (rIxT K) (tVar 0) (tC (.int 2))) (tCons (tVar 1) tNil)))))))
theorem ps__law_is_tree {P : Program} {w : World} {K : PySem.W.Frag} {mg : Str → Option Value} {base : Heap} {f : Addr} {k : Nat} (T : Txt mg) {l__law_whole : Nat} {sp__law_whole : Sp} (c__law_whole : Cal P w K mg base CX0 l__law_whole "_law_whole" ["found"] sp__law_whole) (h__law_whole : l__law_whole ≤ k) {l__law_is_tree : Nat} {sp__law_is_tree : Sp} (c__law_is_tree : Cal P w K mg base CX0 l__law_is_tree "_law_is_tree" ["tree", "openings"] sp__law_is_tree) (h__law_is_tree : l__law_is_tree ≤ k) (cdv : Value) (A : Around) (outer : List PySem.Env) (s : Shared) (H : Hp) (E : XK)
    (hr : Room k (A.deeper (envOfC "_law_is_tree" (defScope s__law_is_tree) s.heap.objs.size f cdv))) : PSs (cxOf CX0 P w K mg base N__law_is_tree "_law_is_tree" (defScope s__law_is_tree) f cdv A outer s H E).nox (defBody s__law_is_tree) (t__law_is_tree K sp__law_whole sp__law_is_tree) := by
  have nd := sc__law_is_tree.nd
  exact (pss_cons (ps_if (pt_not (pt_val (pe_callB call_isi (by rfl) T.isinstance (by decide +kernel) (pa_cons (pv 0) (pa_cons (pe_bltn (v := .ty "tuple") (by rfl) T.tuple (by decide +kernel) rfl) pa_nil))))) (pss_one (ps_ret (pe_and (pe_callC c__law_whole hr pass0 (pa_cons (pv 0) pa_nil)) (pe_one (pe_chain op_le op_le pe_int (pv 0) pe_int))))) pss_nil)
      (pss_cons (ps_if (PW.pt (pw_or (pt_cmpR op_ne (pe_callB call_len_seq (by rfl) T.len PySem.boot_len (pa_cons (pv 0) pa_nil)) pe_int (nomark _)) (pw_or (pt_not (pt_val (pe_callC c__law_whole hr pass0 (pa_cons (pe_ix ix_tup (pv 0) pe_int (fun _ _ => rfl)) pa_nil)))) (pw_or1 (pt_cmpR op_notIn_seq (pe_ix ix_tup (pv 0) pe_int (fun _ _ => rfl)) (pv 1) (by with_unfolding_all rfl)))))) (pss_one (ps_ret pe_bl)) pss_nil)
      (pss_one (ps_ret (pe_and (pe_callC c__law_is_tree hr pass0 (pa_cons (pe_ix ix_tup (pv 0) pe_int (fun _ _ => rfl)) (pa_cons (pv 1) pa_nil))) (pe_one (pe_callC c__law_is_tree hr pass0 (pa_cons (pe_ix ix_tup (pv 0) pe_int (fun _ _ => rfl)) (pa_cons (pv 1) pa_nil)))))))))
/-! _law_served -/
abbrev s__law_served : Stmt := top 33
abbrev N__law_served : List Str := ["tree", "wish", "stock", "pair", "triple"]
theorem sc__law_served : FnScope N__law_served ["tree", "wish", "stock"] (defScope s__law_served) := ⟨rfl, rfl, rfl, by decide +kernel, rfl, by decide +kernel, by decide +kernel⟩
def t__law_served (K : PySem.W.Frag) (sp__law_is_tree : Sp) (sp__law_met : Sp) : TS :=
  (tSeq (tIfS (tNot (tB (tCall sp__law_is_tree [] E0 (tCons (tVar 0) (tCons (tLc (iList K (tVar 2)) (gName 3) tYes (tOp (rIxT K) (tVar 3) (tC (.int 0))) [3]) tNil))))) (tRet (tC (.bl false))) tNext)
      (tRet (tOp rEq (tCB (rLenQ K) (tCons (tLc (iList K (tVar 1)) (gName 4) (tTest (tOp (rNeD K) (tOp (rIxT K) (tCall sp__law_met [] E0 (tCons (tVar 0) (tCons (tOp (rIxT K) (tVar 4) (tC (.int 0))) tNil))) (tC (.int 1))) (tOp (rIxT K) (tVar 4) (tC (.int 2))))) (tVar 4) [4]) tNil)) (tC (.int 0)))))
theorem ps__law_served {P : Program} {w : World} {K : PySem.W.Frag} {mg : Str → Option Value} {base : Heap} {f : Addr} {k : Nat} (T : Txt mg) {l__law_is_tree : Nat} {sp__law_is_tree : Sp} (c__law_is_tree : Cal P w K mg base CX0 l__law_is_tree "_law_is_tree" ["tree", "openings"] sp__law_is_tree) (h__law_is_tree : l__law_is_tree ≤ k) {l__law_met : Nat} {sp__law_met : Sp} (c__law_met : Cal P w K mg base CX0 l__law_met "_law_met" ["tree", "size"] sp__law_met) (h__law_met : l__law_met ≤ k) (cdv : Value) (A : Around) (outer : List PySem.Env) (s : Shared) (H : Hp) (E : XK)
    (hr : Room k (A.deeper (envOfC "_law_served" (defScope s__law_served) s.heap.objs.size f cdv))) : PSs (cxOf CX0 P w K mg base N__law_served "_law_served" (defScope s__law_served) f cdv A outer s H E).nox (defBody s__law_served) (t__law_served K sp__law_is_tree sp__law_met) := by
  have nd := sc__law_served.nd
  exact (pss_cons (ps_if (pt_not (pt_val (pe_callC c__law_is_tree hr pass0 (pa_cons (pv 0) (pa_cons (pe_lc (own := [("pair", 3)]) (g := (gName 3)) (tt := tYes) (te := (tOp (rIxT K) (tVar 3) (tC (.int 0)))) rfl nd (pi_list (pv 2)) (blkOk_by (own := [("pair", 3)]) (N := N__law_served) (sc := defScope s__law_served) (by decide +kernel)) (fun _ _ _ _ _ => (pg_name (i := 3) nd rfl (by first | exact Or.inl rfl | exact Or.inr rfl))) (fun _ _ _ _ _ => pts_nil) (fun _ _ _ _ _ => (pe_ix ix_tup (pv 3) pe_int (fun _ _ => rfl)))) pa_nil))))) (pss_one (ps_ret pe_bl)) pss_nil)
      (pss_one (ps_ret (pe_cmpR op_eq (pe_callB call_len_seq (by rfl) T.len PySem.boot_len (pa_cons (pe_lc (own := [("triple", 4)]) (g := (gName 4)) (tt := (tTest (tOp (rNeD K) (tOp (rIxT K) (tCall sp__law_met [] E0 (tCons (tVar 0) (tCons (tOp (rIxT K) (tVar 4) (tC (.int 0))) tNil))) (tC (.int 1))) (tOp (rIxT K) (tVar 4) (tC (.int 2)))))) (te := (tVar 4)) rfl nd (pi_list (pv 1)) (blkOk_by (own := [("triple", 4)]) (N := N__law_served) (sc := defScope s__law_served) (by decide +kernel)) (fun _ _ _ _ _ => (pg_name (i := 4) nd rfl (by first | exact Or.inl rfl | exact Or.inr rfl))) (fun _ _ _ _ _ => (pts_one (pt_cmpR (op_neD hr.units) (pe_ix ix_tup (pe_callC c__law_met hr pass0 (pa_cons (pv 0) (pa_cons (pe_ix ix_tup (pv 4) pe_int (fun _ _ => rfl)) pa_nil))) pe_int (fun _ _ => rfl)) (pe_ix ix_tup (pv 4) pe_int (fun _ _ => rfl)) (nomark _)))) (fun _ _ _ _ _ => (pv 4))) pa_nil)) pe_int (nomark _)))))
/-! _law_tree_by -/
abbrev s__law_tree_by : Stmt := top 35
abbrev N__law_tree_by : List Str := ["wish", "stock", "cell", "cuts", "k", "some", "opening", "rest", "pair"]
theorem sc__law_tree_by : FnScope N__law_tree_by ["wish", "stock", "cell"] (defScope s__law_tree_by) := ⟨rfl, rfl, rfl, by decide +kernel, rfl, by decide +kernel, by decide +kernel⟩
def t__law_tree_by (K : PySem.W.Frag) (sp__law_tree_by : Sp) : TS :=
  (tSeq (tAsg (tLst tNil) (gName 3))
      (tSeq (tFor (iRng2 (tCons (tC (.int 1)) (tCons (tCB (rLenQ K) (tCons (tVar 0) tNil)) tNil))) (gName 4) (tSeq (tAsg (tLc (iList K (tVar 1)) (gName 8) (tTest (tChain (rI0 fun i j => .bl (decide (i ≤ j))) (rI0 fun i j => .bl (decide (i < j))) (tOp (rIxT K) (tOp (rIxL K) (tVar 0) (tOp (rI0 fun i j => .int (i - j)) (tVar 4) (tC (.int 1)))) (tC (.int 0))) (tOp (rIxT K) (tVar 8) (tC (.int 0))) (tOp (rIxT K) (tOp (rIxL K) (tVar 0) (tVar 4)) (tC (.int 0))))) (tOp (rIxT K) (tVar 8) (tC (.int 0))) [8]) (gName 5))
      (tIfS (tAnd (tTest (tOp (rI0 fun i j => .bl (decide (j < i))) (tCB (rLenQ K) (tCons (tVar 5) tNil)) (tC (.int 0)))) (tOr (tTest (tOp rNe (tOp (rIxT K) (tOp (rIxL K) (tVar 0) (tOp (rI0 fun i j => .int (i - j)) (tVar 4) (tC (.int 1)))) (tC (.int 2))) (tOp (rIxT K) (tOp (rIxL K) (tVar 0) (tVar 4)) (tC (.int 2))))) (tTest (tOp rEq (tOp (rI (fun _ j => 0 < j) fun i j => .int (i % j)) (tOp (rI CDivW fun i j => .int (i / j)) (tVar 2) (tOp (rI0 fun i j => .int (i + j)) (tVar 4) (tC (.int 2)))) (tC (.int 4))) (tC (.int 0)))))) (tDrop (tBM K "list" rAppend (tVar 3) (tCons (tTup (tCons (tVar 4) (tCons (tOp (rIxL K) (tVar 5) (tOp (rI (fun _ j => 0 < j) fun i j => .int (i % j)) (tOp (rI CDivW fun i j => .int (i / j)) (tVar 2) (tOp (rI0 fun i j => .int (i + j)) (tC (.int 3)) (tVar 4))) (tCB (rLenQ K) (tCons (tVar 5) tNil)))) tNil))) tNil))) tNext)))
      (tSeq (tIfS (tTest (tOp rEq (tCB (rLenQ K) (tCons (tVar 3) tNil)) (tC (.int 0)))) (tRet (tOp (rIxT K) (tOp (rIxL K) (tVar 0) (tC (.int 0))) (tC (.int 2)))) tNext)
      (tSeq (tAsg (tOp (rIxL K) (tVar 3) (tOp (rI (fun _ j => 0 < j) fun i j => .int (i % j)) (tOp (rI CDivW fun i j => .int (i / j)) (tVar 2) (tC (.int 5))) (tCB (rLenQ K) (tCons (tVar 3) tNil)))) (gTup K 2 (gCons (gName 4) (gCons (gName 6) gNil))))
      (tSeq (tAsg (tOp (rI0 fun i j => .int (i + j)) (tOp (rI CDivW fun i j => .int (i / j)) (tVar 2) (tC (.int 3))) (tC (.int 1000003))) (gName 7))
      (tRet (tTup (tCons (tVar 6) (tCons (tCall sp__law_tree_by [] E0 (tCons (tSl (rSlL K) (tVar 0) tNoPart (tPart (tVar 4))) (tCons (tVar 1) (tCons (tVar 7) tNil)))) (tCons (tCall sp__law_tree_by [] E0 (tCons (tSl (rSlL K) (tVar 0) (tPart (tVar 4)) tNoPart) (tCons (tVar 1) (tCons (tOp (rI (fun _ j => 0 < j) fun i j => .int (i % j)) (tOp (rI CMulW fun i j => .int (i * j)) (tVar 7) (tC (.int 31))) (tC (.int 2147483647))) tNil)))) tNil))))))))))
theorem ps__law_tree_by {P : Program} {w : World} {K : PySem.W.Frag} {mg : Str → Option Value} {base : Heap} {f : Addr} {k : Nat} (T : Txt mg) {l__law_tree_by : Nat} {sp__law_tree_by : Sp} (c__law_tree_by : Cal P w K mg base CX0 l__law_tree_by "_law_tree_by" ["wish", "stock", "cell"] sp__law_tree_by) (h__law_tree_by : l__law_tree_by ≤ k) (cdv : Value) (A : Around) (outer : List PySem.Env) (s : Shared) (H : Hp) (E : XK)
    (hr : Room k (A.deeper (envOfC "_law_tree_by" (defScope s__law_tree_by) s.heap.objs.size f cdv))) : PSs (cxOf CX0 P w K mg base N__law_tree_by "_law_tree_by" (defScope s__law_tree_by) f cdv A outer s H E).nox (defBody s__law_tree_by) (t__law_tree_by K sp__law_tree_by) := by
  have nd := sc__law_tree_by.nd
  exact (pss_cons (ps_set (i := 3) nd rfl (by first | exact Or.inl rfl | exact Or.inr rfl) (pe_lst pa_nil))
      (pss_cons (ps_for PassesOwn.never rfl (pi_range2 (by rfl) T.range (pa_cons pe_int (pa_cons (pe_callB call_len_seq (by rfl) T.len PySem.boot_len (pa_cons (pv 0) pa_nil)) pa_nil))) (pg_name (i := 4) nd rfl (by first | exact Or.inl rfl | exact Or.inr rfl)) (pss_cons (ps_setLc (i := 5) (own := [("pair", 8)]) (g := (gName 8)) (tt := (tTest (tChain (rI0 fun i j => .bl (decide (i ≤ j))) (rI0 fun i j => .bl (decide (i < j))) (tOp (rIxT K) (tOp (rIxL K) (tVar 0) (tOp (rI0 fun i j => .int (i - j)) (tVar 4) (tC (.int 1)))) (tC (.int 0))) (tOp (rIxT K) (tVar 8) (tC (.int 0))) (tOp (rIxT K) (tOp (rIxL K) (tVar 0) (tVar 4)) (tC (.int 0)))))) (te := (tOp (rIxT K) (tVar 8) (tC (.int 0)))) rfl nd rfl rfl (sw_true rfl rfl rfl (by decide +kernel)) (pi_list (pv 1)) (blkOk_by (own := [("pair", 8)]) (N := N__law_tree_by) (sc := defScope s__law_tree_by) (by decide +kernel)) (fun _ _ _ _ _ => (pg_name (i := 8) nd rfl (by first | exact Or.inl rfl | exact Or.inr rfl))) (fun _ _ _ _ _ => (pts_one (pt_chain op_le op_lt (pe_ix ix_tup (pe_ix ix_list (pv 0) (pe_op op_sub (pv 4) pe_int) (fun _ _ => rfl)) pe_int (fun _ _ => rfl)) (pe_ix ix_tup (pv 8) pe_int (fun _ _ => rfl)) (pe_ix ix_tup (pe_ix ix_list (pv 0) (pv 4) (fun _ _ => rfl)) pe_int (fun _ _ => rfl))))) (fun _ _ _ _ _ => (pe_ix ix_tup (pv 8) pe_int (fun _ _ => rfl))))
      (pss_one (ps_if (PW.pt (pw_and (pt_cmpR op_gt (pe_callB call_len_seq (by rfl) T.len PySem.boot_len (pa_cons (pv 5) pa_nil)) pe_int (nomark _)) (pw_and1 (PW.pt (pw_or (pt_cmpR op_ne (pe_ix ix_tup (pe_ix ix_list (pv 0) (pe_op op_sub (pv 4) pe_int) (fun _ _ => rfl)) pe_int (fun _ _ => rfl)) (pe_ix ix_tup (pe_ix ix_list (pv 0) (pv 4) (fun _ _ => rfl)) pe_int (fun _ _ => rfl)) (nomark _)) (pw_or1 (pt_cmpR op_eq (pe_op op_mod (pe_op op_fdivW (pv 2) (pe_op op_add (pv 4) pe_int)) pe_int) pe_int (nomark _)))))))) (pss_one (ps_expr (pe_bm PySem.F.plainAttrs_list PySem.F.slot_list_append PySem.F.type_list_append mt_append (pv 3) (pa_cons (pe_tup (pa_cons (pv 4) (pa_cons (pe_ix ix_list (pv 5) (pe_op op_mod (pe_op op_fdivW (pv 2) (pe_op op_add pe_int (pv 4))) (pe_callB call_len_seq (by rfl) T.len PySem.boot_len (pa_cons (pv 5) pa_nil))) (fun _ _ => rfl)) pa_nil))) pa_nil)))) pss_nil))))
      (pss_cons (ps_if (pt_cmpR op_eq (pe_callB call_len_seq (by rfl) T.len PySem.boot_len (pa_cons (pv 3) pa_nil)) pe_int (nomark _)) (pss_one (ps_ret (pe_ix ix_tup (pe_ix ix_list (pv 0) pe_int (fun _ _ => rfl)) pe_int (fun _ _ => rfl)))) pss_nil)
      (pss_cons (ps_asg (pe_ix ix_list (pv 3) (pe_op op_mod (pe_op op_fdivW (pv 2) pe_int) (pe_callB call_len_seq (by rfl) T.len PySem.boot_len (pa_cons (pv 3) pa_nil))) (fun _ _ => rfl)) (pg_tup rfl (pgs_cons (pg_name (i := 4) nd rfl (by first | exact Or.inl rfl | exact Or.inr rfl)) (pgs_cons (pg_name (i := 6) nd rfl (by first | exact Or.inl rfl | exact Or.inr rfl)) pgs_nil))))
      (pss_cons (ps_set (i := 7) nd rfl (by first | exact Or.inl rfl | exact Or.inr rfl) (pe_op op_add (pe_op op_fdivW (pv 2) pe_int) pe_int))
      (pss_one (ps_ret (pe_tup (pa_cons (pv 6) (pa_cons (pe_callC c__law_tree_by hr pass0 (pa_cons (pe_slice sl_list (pv 0) po_none (po_some (pv 4))) (pa_cons (pv 1) (pa_cons (pv 7) pa_nil)))) (pa_cons (pe_callC c__law_tree_by hr pass0 (pa_cons (pe_slice sl_list (pv 0) (po_some (pv 4)) po_none) (pa_cons (pv 1) (pa_cons (pe_op op_mod (pe_op op_mulW (pv 7) pe_int) pe_int) pa_nil)))) pa_nil)))))))))))
/-! _law_bad_wish -/
abbrev s__law_bad_wish : Stmt := top 36
abbrev N__law_bad_wish : List Str := ["wish", "cell", "place", "size", "many", "number", "odd", "bad", "k"]
theorem sc__law_bad_wish : FnScope N__law_bad_wish ["wish", "cell"] (defScope s__law_bad_wish) := ⟨rfl, rfl, rfl, by decide +kernel, rfl, by decide +kernel, by decide +kernel⟩
def t__law_bad_wish (K : PySem.W.Frag) : TS :=
  (tSeq (tAsg (tOp (rI (fun _ j => 0 < j) fun i j => .int (i % j)) (tOp (rI CDivW fun i j => .int (i / j)) (tVar 1) (tC (.int 8))) (tCB (rLenQ K) (tCons (tVar 0) tNil))) (gName 2))
      (tSeq (tAsg (tOp (rIxL K) (tVar 0) (tVar 2)) (gTup K 3 (gCons (gName 3) (gCons (gName 4) (gCons (gName 5) gNil)))))
      (tSeq (tAsg (tOp (rI (fun _ j => 0 < j) fun i j => .int (i % j)) (tOp (rI CDivW fun i j => .int (i / j)) (tVar 1) (tC (.int 160))) (tOp (rI CPow fun i j => .int (i ^ j.toNat)) (tC (.int 10)) (tC (.int 60)))) (gName 6))
      (tSeq (tAsg (tLst (tCons (tTup (tCons (tOp (rI0 fun i j => .int (i - j)) (tC (.int 0)) (tVar 6)) (tCons (tVar 4) (tCons (tVar 5) tNil)))) (tCons (tTup (tCons (tOp (rI0 fun i j => .int (i + j)) (tOp (rI0 fun i j => .int (i + j)) (tOp (rI CPow fun i j => .int (i ^ j.toNat)) (tC (.int 10)) (tC (.int 60))) (tC (.int 1))) (tVar 6)) (tCons (tVar 4) (tCons (tVar 5) tNil)))) (tCons (tTup (tCons (tVar 3) (tCons (tOp (rI0 fun i j => .int (i - j)) (tC (.int 0)) (tVar 6)) (tCons (tVar 5) tNil)))) tNil)))) (gName 7))
      (tSeq (tAsg (tOp rCat (tVar 7) (tLst (tCons (tTup (tCons (tVar 3) (tCons (tOp (rI0 fun i j => .int (i + j)) (tOp (rI0 fun i j => .int (i + j)) (tOp (rI CPow fun i j => .int (i ^ j.toNat)) (tC (.int 10)) (tC (.int 60))) (tC (.int 1))) (tVar 6)) (tCons (tVar 5) tNil)))) (tCons (tTup (tCons (tVar 3) (tCons (tVar 4) (tCons (tOp (rI0 fun i j => .int (i + j)) (tC (.int 6)) (tVar 6)) tNil)))) (tCons (tTup (tCons (tVar 3) (tCons (tVar 4) (tCons (tOp (rI0 fun i j => .int (i - j)) (tUn (rU fun i => .int (-i)) (tC (.int 1))) (tVar 6)) tNil)))) tNil))))) (gName 7))
      (tSeq (tIfS (tTest (tOp (rI0 fun i j => .bl (decide (i < j))) (tOp (rI (fun _ j => 0 < j) fun i j => .int (i % j)) (tVar 1) (tC (.int 8))) (tC (.int 6)))) (tRet (tOp rCat (tOp rCat (tSl (rSlL K) (tVar 0) tNoPart (tPart (tVar 2))) (tLst (tCons (tOp (rIxL K) (tVar 7) (tOp (rI (fun _ j => 0 < j) fun i j => .int (i % j)) (tVar 1) (tC (.int 8)))) tNil))) (tSl (rSlL K) (tVar 0) (tPart (tOp (rI0 fun i j => .int (i + j)) (tVar 2) (tC (.int 1)))) tNoPart))) tNext)
      (tSeq (tIfS (tTest (tOp rEq (tOp (rI (fun _ j => 0 < j) fun i j => .int (i % j)) (tVar 1) (tC (.int 8))) (tC (.int 6)))) (tRet (tOp rCat (tOp rCat (tSl (rSlL K) (tVar 0) tNoPart (tPart (tVar 2))) (tLst (tCons (tOp (rIxL K) (tVar 0) (tVar 2)) tNil))) (tSl (rSlL K) (tVar 0) (tPart (tVar 2)) tNoPart))) tNext)
      (tRet (tOp (rIxL K) (tLst (tCons (tLst tNil) (tCons (tLc (iRng1 (tCons (tC (.int 21)) tNil)) (gName 8) tYes (tTup (tCons (tOp (rI0 fun i j => .int (i + j)) (tVar 8) (tC (.int 1))) (tCons (tC (.int 1)) (tCons (tC (.int 0)) tNil)))) [8]) (tCons (tOp rCat (tOp rCat (tSl (rSlL K) (tVar 0) tNoPart (tPart (tVar 2))) (tLst (tCons (tTup (tCons (tOp (rI CPow fun i j => .int (i ^ j.toNat)) (tC (.int 10)) (tC (.int 60))) (tCons (tC (.int 1)) (tCons (tC (.int 0)) tNil)))) tNil))) (tSl (rSlL K) (tVar 0) (tPart (tVar 2)) tNoPart)) tNil)))) (tOp (rI (fun _ j => 0 < j) fun i j => .int (i % j)) (tOp (rI CDivW fun i j => .int (i / j)) (tVar 1) (tC (.int 8))) (tC (.int 3))))))))))))
theorem ps__law_bad_wish {P : Program} {w : World} {K : PySem.W.Frag} {mg : Str → Option Value} {base : Heap} {f : Addr} {k : Nat} (T : Txt mg) (cdv : Value) (A : Around) (outer : List PySem.Env) (s : Shared) (H : Hp) (E : XK)
    (hr : Room k (A.deeper (envOfC "_law_bad_wish" (defScope s__law_bad_wish) s.heap.objs.size f cdv))) : PSs (cxOf CX0 P w K mg base N__law_bad_wish "_law_bad_wish" (defScope s__law_bad_wish) f cdv A outer s H E).nox (defBody s__law_bad_wish) (t__law_bad_wish K) := by
  have nd := sc__law_bad_wish.nd
  exact (pss_cons (ps_set (i := 2) nd rfl (by first | exact Or.inl rfl | exact Or.inr rfl) (pe_op op_mod (pe_op op_fdivW (pv 1) pe_int) (pe_callB call_len_seq (by rfl) T.len PySem.boot_len (pa_cons (pv 0) pa_nil))))
      (pss_cons (ps_asg (pe_ix ix_list (pv 0) (pv 2) (fun _ _ => rfl)) (pg_tup rfl (pgs_cons (pg_name (i := 3) nd rfl (by first | exact Or.inl rfl | exact Or.inr rfl)) (pgs_cons (pg_name (i := 4) nd rfl (by first | exact Or.inl rfl | exact Or.inr rfl)) (pgs_cons (pg_name (i := 5) nd rfl (by first | exact Or.inl rfl | exact Or.inr rfl)) pgs_nil)))))
      (pss_cons (ps_set (i := 6) nd rfl (by first | exact Or.inl rfl | exact Or.inr rfl) (pe_op op_mod (pe_op op_fdivW (pv 1) pe_int) (pe_op op_pow pe_int pe_int)))
      (pss_cons (ps_set (i := 7) nd rfl (by first | exact Or.inl rfl | exact Or.inr rfl) (pe_lst (pa_cons (pe_tup (pa_cons (pe_op op_sub pe_int (pv 6)) (pa_cons (pv 4) (pa_cons (pv 5) pa_nil)))) (pa_cons (pe_tup (pa_cons (pe_op op_add (pe_op op_add (pe_op op_pow pe_int pe_int) pe_int) (pv 6)) (pa_cons (pv 4) (pa_cons (pv 5) pa_nil)))) (pa_cons (pe_tup (pa_cons (pv 3) (pa_cons (pe_op op_sub pe_int (pv 6)) (pa_cons (pv 5) pa_nil)))) pa_nil)))))
      (pss_cons (ps_set (i := 7) nd rfl (by first | exact Or.inl rfl | exact Or.inr rfl) (pe_op op_cat (pv 7) (pe_lst (pa_cons (pe_tup (pa_cons (pv 3) (pa_cons (pe_op op_add (pe_op op_add (pe_op op_pow pe_int pe_int) pe_int) (pv 6)) (pa_cons (pv 5) pa_nil)))) (pa_cons (pe_tup (pa_cons (pv 3) (pa_cons (pv 4) (pa_cons (pe_op op_add pe_int (pv 6)) pa_nil)))) (pa_cons (pe_tup (pa_cons (pv 3) (pa_cons (pv 4) (pa_cons (pe_op op_sub (pe_un un_neg pe_int) (pv 6)) pa_nil)))) pa_nil))))))
      (pss_cons (ps_if (pt_cmpR op_lt (pe_op op_mod (pv 1) pe_int) pe_int (nomark _)) (pss_one (ps_ret (pe_op op_cat (pe_op op_cat (pe_slice sl_list (pv 0) po_none (po_some (pv 2))) (pe_lst (pa_cons (pe_ix ix_list (pv 7) (pe_op op_mod (pv 1) pe_int) (fun _ _ => rfl)) pa_nil))) (pe_slice sl_list (pv 0) (po_some (pe_op op_add (pv 2) pe_int)) po_none)))) pss_nil)
      (pss_cons (ps_if (pt_cmpR op_eq (pe_op op_mod (pv 1) pe_int) pe_int (nomark _)) (pss_one (ps_ret (pe_op op_cat (pe_op op_cat (pe_slice sl_list (pv 0) po_none (po_some (pv 2))) (pe_lst (pa_cons (pe_ix ix_list (pv 0) (pv 2) (fun _ _ => rfl)) pa_nil))) (pe_slice sl_list (pv 0) (po_some (pv 2)) po_none)))) pss_nil)
      (pss_one (ps_ret (pe_ix ix_list (pe_lst (pa_cons (pe_lst pa_nil) (pa_cons (pe_lc (own := [("k", 8)]) (g := (gName 8)) (tt := tYes) (te := (tTup (tCons (tOp (rI0 fun i j => .int (i + j)) (tVar 8) (tC (.int 1))) (tCons (tC (.int 1)) (tCons (tC (.int 0)) tNil))))) rfl nd (pi_range1 (by rfl) T.range (pa_cons pe_int pa_nil)) (blkOk_by (own := [("k", 8)]) (N := N__law_bad_wish) (sc := defScope s__law_bad_wish) (by decide +kernel)) (fun _ _ _ _ _ => (pg_name (i := 8) nd rfl (by first | exact Or.inl rfl | exact Or.inr rfl))) (fun _ _ _ _ _ => pts_nil) (fun _ _ _ _ _ => (pe_tup (pa_cons (pe_op op_add (pv 8) pe_int) (pa_cons pe_int (pa_cons pe_int pa_nil)))))) (pa_cons (pe_op op_cat (pe_op op_cat (pe_slice sl_list (pv 0) po_none (po_some (pv 2))) (pe_lst (pa_cons (pe_tup (pa_cons (pe_op op_pow pe_int pe_int) (pa_cons pe_int (pa_cons pe_int pa_nil)))) pa_nil))) (pe_slice sl_list (pv 0) (po_some (pv 2)) po_none)) pa_nil)))) (pe_op op_mod (pe_op op_fdivW (pv 1) pe_int) pe_int) (fun _ _ => rfl)))))))))))
/-! _law_bad_stock -/
abbrev s__law_bad_stock : Stmt := top 37
abbrev N__law_bad_stock : List Str := ["stock", "cell", "place", "odd", "bad", "k"]
theorem sc__law_bad_stock : FnScope N__law_bad_stock ["stock", "cell"] (defScope s__law_bad_stock) := ⟨rfl, rfl, rfl, by decide +kernel, rfl, by decide +kernel, by decide +kernel⟩
def t__law_bad_stock (K : PySem.W.Frag) : TS :=
  (tSeq (tAsg (tOp (rI (fun _ j => 0 < j) fun i j => .int (i % j)) (tOp (rI CDivW fun i j => .int (i / j)) (tVar 1) (tC (.int 6))) (tOp (rI0 fun i j => .int (i + j)) (tCB (rLenQ K) (tCons (tVar 0) tNil)) (tC (.int 1)))) (gName 2))
      (tSeq (tAsg (tOp (rI (fun _ j => 0 < j) fun i j => .int (i % j)) (tOp (rI CDivW fun i j => .int (i / j)) (tVar 1) (tC (.int 200))) (tOp (rI CPow fun i j => .int (i ^ j.toNat)) (tC (.int 10)) (tC (.int 60)))) (gName 3))
      (tSeq (tAsg (tLst (tCons (tTup (tCons (tOp (rI0 fun i j => .int (i - j)) (tC (.int 0)) (tVar 3)) (tCons (tC (.int 1)) tNil))) (tCons (tTup (tCons (tOp (rI0 fun i j => .int (i + j)) (tOp (rI0 fun i j => .int (i + j)) (tOp (rI CPow fun i j => .int (i ^ j.toNat)) (tC (.int 10)) (tC (.int 60))) (tC (.int 1))) (tVar 3)) (tCons (tC (.int 1)) tNil))) (tCons (tTup (tCons (tC (.int 5)) (tCons (tOp (rI0 fun i j => .int (i - j)) (tUn (rU fun i => .int (-i)) (tC (.int 1))) (tVar 3)) tNil))) (tCons (tTup (tCons (tC (.int 5)) (tCons (tOp (rI0 fun i j => .int (i + j)) (tOp (rI0 fun i j => .int (i + j)) (tOp (rI CPow fun i j => .int (i ^ j.toNat)) (tC (.int 10)) (tC (.int 60))) (tC (.int 1))) (tVar 3)) tNil))) tNil))))) (gName 4))
      (tSeq (tIfS (tTest (tOp (rI0 fun i j => .bl (decide (i < j))) (tOp (rI (fun _ j => 0 < j) fun i j => .int (i % j)) (tVar 1) (tC (.int 6))) (tC (.int 4)))) (tRet (tOp rCat (tOp rCat (tSl (rSlL K) (tVar 0) tNoPart (tPart (tVar 2))) (tLst (tCons (tOp (rIxL K) (tVar 4) (tOp (rI (fun _ j => 0 < j) fun i j => .int (i % j)) (tVar 1) (tC (.int 6)))) tNil))) (tSl (rSlL K) (tVar 0) (tPart (tOp (rI0 fun i j => .int (i + j)) (tVar 2) (tC (.int 1)))) tNoPart))) tNext)
      (tSeq (tIfS (tAnd (tTest (tOp rEq (tOp (rI (fun _ j => 0 < j) fun i j => .int (i % j)) (tVar 1) (tC (.int 6))) (tC (.int 4)))) (tTest (tOp (rI0 fun i j => .bl (decide (j < i))) (tVar 2) (tC (.int 0))))) (tRet (tOp rCat (tOp rCat (tSl (rSlL K) (tVar 0) tNoPart (tPart (tVar 2))) (tLst (tCons (tOp (rIxL K) (tVar 0) (tOp (rI0 fun i j => .int (i - j)) (tVar 2) (tC (.int 1)))) tNil))) (tSl (rSlL K) (tVar 0) (tPart (tVar 2)) tNoPart))) tNext)
      (tRet (tLc (iRng1 (tCons (tC (.int 31)) tNil)) (gName 5) tYes (tTup (tCons (tOp (rI0 fun i j => .int (i + j)) (tVar 5) (tC (.int 1))) (tCons (tVar 5) tNil))) [5])))))))
theorem ps__law_bad_stock {P : Program} {w : World} {K : PySem.W.Frag} {mg : Str → Option Value} {base : Heap} {f : Addr} {k : Nat} (T : Txt mg) (cdv : Value) (A : Around) (outer : List PySem.Env) (s : Shared) (H : Hp) (E : XK)
    (hr : Room k (A.deeper (envOfC "_law_bad_stock" (defScope s__law_bad_stock) s.heap.objs.size f cdv))) : PSs (cxOf CX0 P w K mg base N__law_bad_stock "_law_bad_stock" (defScope s__law_bad_stock) f cdv A outer s H E).nox (defBody s__law_bad_stock) (t__law_bad_stock K) := by
  have nd := sc__law_bad_stock.nd
  exact (pss_cons (ps_set (i := 2) nd rfl (by first | exact Or.inl rfl | exact Or.inr rfl) (pe_op op_mod (pe_op op_fdivW (pv 1) pe_int) (pe_op op_add (pe_callB call_len_seq (by rfl) T.len PySem.boot_len (pa_cons (pv 0) pa_nil)) pe_int)))
      (pss_cons (ps_set (i := 3) nd rfl (by first | exact Or.inl rfl | exact Or.inr rfl) (pe_op op_mod (pe_op op_fdivW (pv 1) pe_int) (pe_op op_pow pe_int pe_int)))
      (pss_cons (ps_set (i := 4) nd rfl (by first | exact Or.inl rfl | exact Or.inr rfl) (pe_lst (pa_cons (pe_tup (pa_cons (pe_op op_sub pe_int (pv 3)) (pa_cons pe_int pa_nil))) (pa_cons (pe_tup (pa_cons (pe_op op_add (pe_op op_add (pe_op op_pow pe_int pe_int) pe_int) (pv 3)) (pa_cons pe_int pa_nil))) (pa_cons (pe_tup (pa_cons pe_int (pa_cons (pe_op op_sub (pe_un un_neg pe_int) (pv 3)) pa_nil))) (pa_cons (pe_tup (pa_cons pe_int (pa_cons (pe_op op_add (pe_op op_add (pe_op op_pow pe_int pe_int) pe_int) (pv 3)) pa_nil))) pa_nil))))))
      (pss_cons (ps_if (pt_cmpR op_lt (pe_op op_mod (pv 1) pe_int) pe_int (nomark _)) (pss_one (ps_ret (pe_op op_cat (pe_op op_cat (pe_slice sl_list (pv 0) po_none (po_some (pv 2))) (pe_lst (pa_cons (pe_ix ix_list (pv 4) (pe_op op_mod (pv 1) pe_int) (fun _ _ => rfl)) pa_nil))) (pe_slice sl_list (pv 0) (po_some (pe_op op_add (pv 2) pe_int)) po_none)))) pss_nil)
      (pss_cons (ps_if (PW.pt (pw_and (pt_cmpR op_eq (pe_op op_mod (pv 1) pe_int) pe_int (nomark _)) (pw_and1 (pt_cmpR op_gt (pv 2) pe_int (nomark _))))) (pss_one (ps_ret (pe_op op_cat (pe_op op_cat (pe_slice sl_list (pv 0) po_none (po_some (pv 2))) (pe_lst (pa_cons (pe_ix ix_list (pv 0) (pe_op op_sub (pv 2) pe_int) (fun _ _ => rfl)) pa_nil))) (pe_slice sl_list (pv 0) (po_some (pv 2)) po_none)))) pss_nil)
      (pss_one (ps_ret (pe_lc (own := [("k", 5)]) (g := (gName 5)) (tt := tYes) (te := (tTup (tCons (tOp (rI0 fun i j => .int (i + j)) (tVar 5) (tC (.int 1))) (tCons (tVar 5) tNil)))) rfl nd (pi_range1 (by rfl) T.range (pa_cons pe_int pa_nil)) (blkOk_by (own := [("k", 5)]) (N := N__law_bad_stock) (sc := defScope s__law_bad_stock) (by decide +kernel)) (fun _ _ _ _ _ => (pg_name (i := 5) nd rfl (by first | exact Or.inl rfl | exact Or.inr rfl))) (fun _ _ _ _ _ => pts_nil) (fun _ _ _ _ _ => (pe_tup (pa_cons (pe_op op_add (pv 5) pe_int) (pa_cons (pv 5) pa_nil))))))))))))
/-! _law_bound -/
abbrev s__law_bound : Stmt := top 38
abbrev N__law_bound : List Str := ["wish", "stock", "table", "i", "j", "grains", "least", "k", "opening", "price", "both", "number", "triple"]
theorem sc__law_bound : FnScope N__law_bound ["wish", "stock", "table", "i", "j"] (defScope s__law_bound) := ⟨rfl, rfl, rfl, by decide +kernel, rfl, by decide +kernel, by decide +kernel⟩
def t__law_bound (K : PySem.W.Frag) : TS :=
  (tSeq (tIfS (tTest (tOp rEq (tLenSetG K (tLc (iList K (tSl (rSlL K) (tVar 0) (tPart (tVar 3)) (tPart (tOp (rI0 fun i j => .int (i + j)) (tVar 4) (tC (.int 1)))))) (gName 12) tYes (tOp (rIxT K) (tVar 12) (tC (.int 2))) [12])) (tC (.int 1)))) (tRet (tC (.int 0))) tNext)
      (tSeq (tAsg (tCB (rSum K) (tCons (tLc (iList K (tSl (rSlL K) (tVar 0) (tPart (tVar 3)) (tPart (tOp (rI0 fun i j => .int (i + j)) (tVar 4) (tC (.int 1)))))) (gName 12) tYes (tOp (rIxT K) (tVar 12) (tC (.int 1))) [12]) tNil)) (gName 5))
      (tSeq (tAsg (tC .non) (gName 6))
      (tSeq (tFor (iRng2 (tCons (tVar 3) (tCons (tVar 4) tNil))) (gName 7) (tFor (iList K (tVar 1)) (gTup K 2 (gCons (gName 8) (gCons (gName 9) gNil))) (tIfS (tTest (tChain (rI0 fun i j => .bl (decide (i ≤ j))) (rI0 fun i j => .bl (decide (i < j))) (tOp (rIxT K) (tOp (rIxL K) (tVar 0) (tVar 7)) (tC (.int 0))) (tVar 8) (tOp (rIxT K) (tOp (rIxL K) (tVar 0) (tOp (rI0 fun i j => .int (i + j)) (tVar 7) (tC (.int 1)))) (tC (.int 0))))) (tSeq (tAsg (tOp (rI0 fun i j => .int (i + j)) (tOp (rIxL K) (tOp (rIxL K) (tVar 2) (tVar 3)) (tOp (rI0 fun i j => .int (i - j)) (tVar 7) (tVar 3))) (tOp (rIxL K) (tOp (rIxL K) (tVar 2) (tOp (rI0 fun i j => .int (i + j)) (tVar 7) (tC (.int 1)))) (tOp (rI0 fun i j => .int (i - j)) (tOp (rI0 fun i j => .int (i - j)) (tVar 4) (tVar 7)) (tC (.int 1))))) (gName 10))
      (tSeq (tAsg (tOp (rI0 fun i j => .int (i + j)) (tOp (rI CMulW fun i j => .int (i * j)) (tVar 9) (tVar 5)) (tVar 10)) (gName 11))
      (tIfS (tOr (tTest (tOp rIsN (tVar 6) (tC .non))) (tTest (tOp (rI0 fun i j => .bl (decide (i < j))) (tVar 11) (tVar 6)))) (tAsg (tVar 11) (gName 6)) tNext))) tNext)))
      (tRet (tVar 6))))))
theorem ps__law_bound {P : Program} {w : World} {K : PySem.W.Frag} {mg : Str → Option Value} {base : Heap} {f : Addr} {k : Nat} (T : Txt mg) (cdv : Value) (A : Around) (outer : List PySem.Env) (s : Shared) (H : Hp) (E : XK)
    (hr : Room k (A.deeper (envOfC "_law_bound" (defScope s__law_bound) s.heap.objs.size f cdv))) : PSs (cxOf CX0 P w K mg base N__law_bound "_law_bound" (defScope s__law_bound) f cdv A outer s H E).nox (defBody s__law_bound) (t__law_bound K) := by
  have nd := sc__law_bound.nd
  exact (pss_cons (ps_if (pt_cmpR op_eq (pe_lenSetG rfl T.len rfl T.set (pe_lc (own := [("triple", 12)]) (g := (gName 12)) (tt := tYes) (te := (tOp (rIxT K) (tVar 12) (tC (.int 2)))) rfl nd (pi_list (pe_slice sl_list (pv 0) (po_some (pv 3)) (po_some (pe_op op_add (pv 4) pe_int)))) (blkOk_by (own := [("triple", 12)]) (N := N__law_bound) (sc := defScope s__law_bound) (by decide +kernel)) (fun _ _ _ _ _ => (pg_name (i := 12) nd rfl (by first | exact Or.inl rfl | exact Or.inr rfl))) (fun _ _ _ _ _ => pts_nil) (fun _ _ _ _ _ => (pe_ix ix_tup (pv 12) pe_int (fun _ _ => rfl))))) pe_int (nomark _)) (pss_one (ps_ret pe_int)) pss_nil)
      (pss_cons (ps_set (i := 5) nd rfl (by first | exact Or.inl rfl | exact Or.inr rfl) (pe_callB (cr_sum rfl) (by rfl) T.sum (by decide +kernel) (pa_cons (pe_lc (own := [("triple", 12)]) (g := (gName 12)) (tt := tYes) (te := (tOp (rIxT K) (tVar 12) (tC (.int 1)))) rfl nd (pi_list (pe_slice sl_list (pv 0) (po_some (pv 3)) (po_some (pe_op op_add (pv 4) pe_int)))) (blkOk_by (own := [("triple", 12)]) (N := N__law_bound) (sc := defScope s__law_bound) (by decide +kernel)) (fun _ _ _ _ _ => (pg_name (i := 12) nd rfl (by first | exact Or.inl rfl | exact Or.inr rfl))) (fun _ _ _ _ _ => pts_nil) (fun _ _ _ _ _ => (pe_ix ix_tup (pv 12) pe_int (fun _ _ => rfl)))) pa_nil)))
      (pss_cons (ps_set (i := 6) nd rfl (by first | exact Or.inl rfl | exact Or.inr rfl) pe_non)
      (pss_cons (ps_for PassesOwn.never rfl (pi_range2 (by rfl) T.range (pa_cons (pv 3) (pa_cons (pv 4) pa_nil))) (pg_name (i := 7) nd rfl (by first | exact Or.inl rfl | exact Or.inr rfl)) (pss_one (ps_for PassesOwn.never rfl (pi_list (pv 1)) (pg_tup rfl (pgs_cons (pg_name (i := 8) nd rfl (by first | exact Or.inl rfl | exact Or.inr rfl)) (pgs_cons (pg_name (i := 9) nd rfl (by first | exact Or.inl rfl | exact Or.inr rfl)) pgs_nil))) (pss_one (ps_if (pt_chain op_le op_lt (pe_ix ix_tup (pe_ix ix_list (pv 0) (pv 7) (fun _ _ => rfl)) pe_int (fun _ _ => rfl)) (pv 8) (pe_ix ix_tup (pe_ix ix_list (pv 0) (pe_op op_add (pv 7) pe_int) (fun _ _ => rfl)) pe_int (fun _ _ => rfl))) (pss_cons (ps_set (i := 10) nd rfl (by first | exact Or.inl rfl | exact Or.inr rfl) (pe_op op_add (pe_ix ix_list (pe_ix ix_list (pv 2) (pv 3) (fun _ _ => rfl)) (pe_op op_sub (pv 7) (pv 3)) (fun _ _ => rfl)) (pe_ix ix_list (pe_ix ix_list (pv 2) (pe_op op_add (pv 7) pe_int) (fun _ _ => rfl)) (pe_op op_sub (pe_op op_sub (pv 4) (pv 7)) pe_int) (fun _ _ => rfl))))
      (pss_cons (ps_set (i := 11) nd rfl (by first | exact Or.inl rfl | exact Or.inr rfl) (pe_op op_add (pe_op op_mulW (pv 9) (pv 5)) (pv 10)))
      (pss_one (ps_if (PW.pt (pw_or (pt_cmpR op_isN (pv 6) pe_non (nomark _)) (pw_or1 (pt_cmpR op_lt (pv 11) (pv 6) (nomark _))))) (pss_one (ps_set (i := 6) nd rfl (by first | exact Or.inl rfl | exact Or.inr rfl) (pv 11))) pss_nil)))) pss_nil)))))
      (pss_one (ps_ret (pv 6)))))))
/-! _law_sound -/
abbrev s__law_sound : Stmt := top 39
abbrev N__law_sound : List Str := ["wish", "stock", "table", "many", "i", "j", "least", "number", "row"]
theorem sc__law_sound : FnScope N__law_sound ["wish", "stock", "table"] (defScope s__law_sound) := ⟨rfl, rfl, rfl, by decide +kernel, rfl, by decide +kernel, by decide +kernel⟩
def t__law_sound (K : PySem.W.Frag) (sp__law_bound : Sp) : TS :=
  (tSeq (tAsg (tCB (rLenQ K) (tCons (tVar 0) tNil)) (gName 3))
      (tSeq (tIfS (tTest (tOp (rNeD K) (tLc (iList K (tVar 2)) (gName 8) tYes (tCB (rLenQ K) (tCons (tVar 8) tNil)) [8]) (tLc (iRng1 (tCons (tVar 3) tNil)) (gName 4) tYes (tOp (rI0 fun i j => .int (i - j)) (tVar 3) (tVar 4)) [4]))) (tRet (tC (.bl false))) tNext)
      (tSeq (tFor (iRng1 (tCons (tVar 3) tNil)) (gName 4) (tFor (iRng2 (tCons (tVar 4) (tCons (tVar 3) tNil))) (gName 5) (tSeq (tAsg (tCall sp__law_bound [] E0 (tCons (tVar 0) (tCons (tVar 1) (tCons (tVar 2) (tCons (tVar 4) (tCons (tVar 5) tNil)))))) (gName 6))
      (tSeq (tAsg (tOp (rIxL K) (tOp (rIxL K) (tVar 2) (tVar 4)) (tOp (rI0 fun i j => .int (i - j)) (tVar 5) (tVar 4))) (gName 7))
      (tIfS (tOr (tTest (tOp (rI0 fun i j => .bl (decide (i < j))) (tVar 7) (tC (.int 0)))) (tAnd (tTest (tOp rNotN (tVar 6) (tC .non))) (tTest (tOp (rI0 fun i j => .bl (decide (j < i))) (tVar 7) (tVar 6))))) (tRet (tC (.bl false))) tNext)))))
      (tRet (tC (.bl true))))))
theorem ps__law_sound {P : Program} {w : World} {K : PySem.W.Frag} {mg : Str → Option Value} {base : Heap} {f : Addr} {k : Nat} (T : Txt mg) {l__law_bound : Nat} {sp__law_bound : Sp} (c__law_bound : Cal P w K mg base CX0 l__law_bound "_law_bound" ["wish", "stock", "table", "i", "j"] sp__law_bound) (h__law_bound : l__law_bound ≤ k) (cdv : Value) (A : Around) (outer : List PySem.Env) (s : Shared) (H : Hp) (E : XK)
    (hr : Room k (A.deeper (envOfC "_law_sound" (defScope s__law_sound) s.heap.objs.size f cdv))) : PSs (cxOf CX0 P w K mg base N__law_sound "_law_sound" (defScope s__law_sound) f cdv A outer s H E).nox (defBody s__law_sound) (t__law_sound K sp__law_bound) := by
  have nd := sc__law_sound.nd
  exact (pss_cons (ps_set (i := 3) nd rfl (by first | exact Or.inl rfl | exact Or.inr rfl) (pe_callB call_len_seq (by rfl) T.len PySem.boot_len (pa_cons (pv 0) pa_nil)))
      (pss_cons (ps_if (pt_cmpR (op_neD hr.units) (pe_lc (own := [("row", 8)]) (g := (gName 8)) (tt := tYes) (te := (tCB (rLenQ K) (tCons (tVar 8) tNil))) rfl nd (pi_list (pv 2)) (blkOk_by (own := [("row", 8)]) (N := N__law_sound) (sc := defScope s__law_sound) (by decide +kernel)) (fun _ _ _ _ _ => (pg_name (i := 8) nd rfl (by first | exact Or.inl rfl | exact Or.inr rfl))) (fun _ _ _ _ _ => pts_nil) (fun _ _ _ _ _ => (pe_callB call_len_seq (by rfl) T.len PySem.boot_len (pa_cons (pv 8) pa_nil)))) (pe_lc (own := [("i", 4)]) (g := (gName 4)) (tt := tYes) (te := (tOp (rI0 fun i j => .int (i - j)) (tVar 3) (tVar 4))) rfl nd (pi_range1 (by rfl) T.range (pa_cons (pv 3) pa_nil)) (blkOk_by (own := [("i", 4)]) (N := N__law_sound) (sc := defScope s__law_sound) (by decide +kernel)) (fun _ _ _ _ _ => (pg_name (i := 4) nd rfl (by first | exact Or.inl rfl | exact Or.inr rfl))) (fun _ _ _ _ _ => pts_nil) (fun _ _ _ _ _ => (pe_op op_sub (pv 3) (pv 4)))) (nomark _)) (pss_one (ps_ret pe_bl)) pss_nil)
      (pss_cons (ps_for PassesOwn.never rfl (pi_range1 (by rfl) T.range (pa_cons (pv 3) pa_nil)) (pg_name (i := 4) nd rfl (by first | exact Or.inl rfl | exact Or.inr rfl)) (pss_one (ps_for PassesOwn.never rfl (pi_range2 (by rfl) T.range (pa_cons (pv 4) (pa_cons (pv 3) pa_nil))) (pg_name (i := 5) nd rfl (by first | exact Or.inl rfl | exact Or.inr rfl)) (pss_cons (ps_set (i := 6) nd rfl (by first | exact Or.inl rfl | exact Or.inr rfl) (pe_callC c__law_bound hr pass0 (pa_cons (pv 0) (pa_cons (pv 1) (pa_cons (pv 2) (pa_cons (pv 4) (pa_cons (pv 5) pa_nil)))))))
      (pss_cons (ps_set (i := 7) nd rfl (by first | exact Or.inl rfl | exact Or.inr rfl) (pe_ix ix_list (pe_ix ix_list (pv 2) (pv 4) (fun _ _ => rfl)) (pe_op op_sub (pv 5) (pv 4)) (fun _ _ => rfl)))
      (pss_one (ps_if (PW.pt (pw_or (pt_cmpR op_lt (pv 7) pe_int (nomark _)) (pw_or1 (PW.pt (pw_and (pt_cmpR op_notN (pv 6) pe_non (nomark _)) (pw_and1 (pt_cmpR op_gt (pv 7) (pv 6) (nomark _)))))))) (pss_one (ps_ret pe_bl)) pss_nil)))))))
      (pss_one (ps_ret pe_bl)))))
/-! _law_work -/
abbrev s__law_work : Stmt := top 40
abbrev N__law_work : List Str := ["tree", "wish", "stock", "prices", "whole", "size", "many", "number", "opening"]
theorem sc__law_work : FnScope N__law_work ["tree", "wish", "stock"] (defScope s__law_work) := ⟨rfl, rfl, rfl, by decide +kernel, rfl, by decide +kernel, by decide +kernel⟩
def t__law_work (K : PySem.W.Frag) (sp__law_met : Sp) : TS :=
  (tSeq (tAsg (tCB (rDictQ K) (tCons (tVar 2) tNil)) (gName 3))
      (tSeq (tAsg (tC (.int 0)) (gName 4))
      (tSeq (tFor (iList K (tVar 1)) (gTup K 3 (gCons (gName 5) (gCons (gName 6) (gCons (gName 7) gNil)))) (tAsg (tOp (rI0 fun i j => .int (i + j)) (tVar 4) (tOp (rI CMulW fun i j => .int (i * j)) (tVar 6) (tCB (rSum K) (tCons (tLc (iList K (tOp (rIxT K) (tCall sp__law_met [] E0 (tCons (tVar 0) (tCons (tVar 5) tNil))) (tC (.int 0)))) (gName 8) tYes (tDGet (tVar 3) (tVar 8)) [8]) tNil)))) (gName 4)))
      (tRet (tVar 4)))))
theorem ps__law_work {P : Program} {w : World} {K : PySem.W.Frag} {mg : Str → Option Value} {base : Heap} {f : Addr} {k : Nat} (T : Txt mg) {l__law_met : Nat} {sp__law_met : Sp} (c__law_met : Cal P w K mg base CX0 l__law_met "_law_met" ["tree", "size"] sp__law_met) (h__law_met : l__law_met ≤ k) (cdv : Value) (A : Around) (outer : List PySem.Env) (s : Shared) (H : Hp) (E : XK)
    (hr : Room k (A.deeper (envOfC "_law_work" (defScope s__law_work) s.heap.objs.size f cdv))) : PSs (cxOf CX0 P w K mg base N__law_work "_law_work" (defScope s__law_work) f cdv A outer s H E).nox (defBody s__law_work) (t__law_work K sp__law_met) := by
  have nd := sc__law_work.nd
  exact (pss_cons (ps_set (i := 3) nd rfl (by first | exact Or.inl rfl | exact Or.inr rfl) (pe_callTy (call_dictP rfl) (by rfl) T.dict (by decide +kernel) (pa_cons (pv 2) pa_nil)))
      (pss_cons (ps_set (i := 4) nd rfl (by first | exact Or.inl rfl | exact Or.inr rfl) pe_int)
      (pss_cons (ps_for PassesOwn.never rfl (pi_list (pv 1)) (pg_tup rfl (pgs_cons (pg_name (i := 5) nd rfl (by first | exact Or.inl rfl | exact Or.inr rfl)) (pgs_cons (pg_name (i := 6) nd rfl (by first | exact Or.inl rfl | exact Or.inr rfl)) (pgs_cons (pg_name (i := 7) nd rfl (by first | exact Or.inl rfl | exact Or.inr rfl)) pgs_nil)))) (pss_one (ps_set (i := 4) nd rfl (by first | exact Or.inl rfl | exact Or.inr rfl) (pe_op op_add (pv 4) (pe_op op_mulW (pv 6) (pe_callB (cr_sum rfl) (by rfl) T.sum (by decide +kernel) (pa_cons (pe_lc (own := [("opening", 8)]) (g := (gName 8)) (tt := tYes) (te := (tDGet (tVar 3) (tVar 8))) rfl nd (pi_list (pe_ix ix_tup (pe_callC c__law_met hr pass0 (pa_cons (pv 0) (pa_cons (pv 5) pa_nil))) pe_int (fun _ _ => rfl))) (blkOk_by (own := [("opening", 8)]) (N := N__law_work) (sc := defScope s__law_work) (by decide +kernel)) (fun _ _ _ _ _ => (pg_name (i := 8) nd rfl (by first | exact Or.inl rfl | exact Or.inr rfl))) (fun _ _ _ _ _ => pts_nil) (fun _ _ _ _ _ => (pe_dget (hu_of hr) (pv 3) (pv 8) (fun _ _ => rfl)))) pa_nil)))))))
      (pss_one (ps_ret (pv 4))))))
/-! _law_numbers -/
abbrev s__law_numbers : Stmt := top 41
abbrev N__law_numbers : List Str := ["table", "row", "number"]
theorem sc__law_numbers : FnScope N__law_numbers ["table"] (defScope s__law_numbers) := ⟨rfl, rfl, rfl, by decide +kernel, rfl, by decide +kernel, by decide +kernel⟩
def t__law_numbers (K : PySem.W.Frag) (sp__law_whole : Sp) : TS :=
  (tSeq (tIfS (tNot (tB (tCB (rIsi K) (tCons (tVar 0) (tCons (tC (.ty "list")) tNil))))) (tRet (tC (.bl false))) tNext)
      (tSeq (tFor (iList K (tVar 0)) (gName 1) (tIfS (tOr (tNot (tB (tCB (rIsi K) (tCons (tVar 1) (tCons (tC (.ty "list")) tNil))))) (tTest (tOp (rI0 fun i j => .bl (decide (j < i))) (tCB (rLenQ K) (tCons (tLc (iList K (tVar 1)) (gName 2) (tNot (tB (tCall sp__law_whole [] E0 (tCons (tVar 2) tNil)))) (tVar 2) [2]) tNil)) (tC (.int 0))))) (tRet (tC (.bl false))) tNext))
      (tRet (tC (.bl true)))))
theorem ps__law_numbers {P : Program} {w : World} {K : PySem.W.Frag} {mg : Str → Option Value} {base : Heap} {f : Addr} {k : Nat} (T : Txt mg) {l__law_whole : Nat} {sp__law_whole : Sp} (c__law_whole : Cal P w K mg base CX0 l__law_whole "_law_whole" ["found"] sp__law_whole) (h__law_whole : l__law_whole ≤ k) (cdv : Value) (A : Around) (outer : List PySem.Env) (s : Shared) (H : Hp) (E : XK)
    (hr : Room k (A.deeper (envOfC "_law_numbers" (defScope s__law_numbers) s.heap.objs.size f cdv))) : PSs (cxOf CX0 P w K mg base N__law_numbers "_law_numbers" (defScope s__law_numbers) f cdv A outer s H E).nox (defBody s__law_numbers) (t__law_numbers K sp__law_whole) := by
  have nd := sc__law_numbers.nd
  exact (pss_cons (ps_if (pt_not (pt_val (pe_callB call_isi (by rfl) T.isinstance (by decide +kernel) (pa_cons (pv 0) (pa_cons (pe_bltn (v := .ty "list") (by rfl) T.list (by decide +kernel) rfl) pa_nil))))) (pss_one (ps_ret pe_bl)) pss_nil)
      (pss_cons (ps_for PassesOwn.never rfl (pi_list (pv 0)) (pg_name (i := 1) nd rfl (by first | exact Or.inl rfl | exact Or.inr rfl)) (pss_one (ps_if (PW.pt (pw_or (pt_not (pt_val (pe_callB call_isi (by rfl) T.isinstance (by decide +kernel) (pa_cons (pv 1) (pa_cons (pe_bltn (v := .ty "list") (by rfl) T.list (by decide +kernel) rfl) pa_nil))))) (pw_or1 (pt_cmpR op_gt (pe_callB call_len_seq (by rfl) T.len PySem.boot_len (pa_cons (pe_lc (own := [("number", 2)]) (g := (gName 2)) (tt := (tNot (tB (tCall sp__law_whole [] E0 (tCons (tVar 2) tNil))))) (te := (tVar 2)) rfl nd (pi_list (pv 1)) (blkOk_by (own := [("number", 2)]) (N := N__law_numbers) (sc := defScope s__law_numbers) (by decide +kernel)) (fun _ _ _ _ _ => (pg_name (i := 2) nd rfl (by first | exact Or.inl rfl | exact Or.inr rfl))) (fun _ _ _ _ _ => (pts_one (pt_not (pt_val (pe_callC c__law_whole hr pass0 (pa_cons (pv 2) pa_nil)))))) (fun _ _ _ _ _ => (pv 2))) pa_nil)) pe_int (nomark _))))) (pss_one (ps_ret pe_bl)) pss_nil)))
      (pss_one (ps_ret pe_bl))))
/-! _law_holds -/
abbrev s__law_holds : Stmt := top 42
abbrev N__law_holds : List Str := ["found", "wish", "stock", "cell", "k"]
theorem sc__law_holds : FnScope N__law_holds ["found", "wish", "stock", "cell"] (defScope s__law_holds) := ⟨rfl, rfl, rfl, by decide +kernel, rfl, by decide +kernel, by decide +kernel⟩
def t__law_holds (K : PySem.W.Frag) (sp__law_whole : Sp) (sp__law_numbers : Sp) (sp__law_served : Sp) (sp__law_work : Sp) (sp__law_sound : Sp) (sp__law_tree_by : Sp) : TS :=
  (tSeq (tIfS (tOr (tTest (tOp rNe (tCB (rLenQ K) (tCons (tVar 0) tNil)) (tC (.int 4)))) (tOr (tTest (tOp rNe (tOp (rIxT K) (tVar 0) (tC (.int 0))) (tC (.str "tree")))) (tOr (tNot (tB (tCall sp__law_whole [] E0 (tCons (tOp (rIxT K) (tVar 0) (tC (.int 2))) tNil)))) (tNot (tB (tCall sp__law_numbers [] E0 (tCons (tOp (rIxT K) (tVar 0) (tC (.int 3))) tNil))))))) (tRet (tC (.bl false))) tNext)
      (tSeq (tIfS (tOr (tNot (tB (tCall sp__law_served [] E0 (tCons (tOp (rIxT K) (tVar 0) (tC (.int 1))) (tCons (tVar 1) (tCons (tVar 2) tNil)))))) (tTest (tOp rNe (tCall sp__law_work [] E0 (tCons (tOp (rIxT K) (tVar 0) (tC (.int 1))) (tCons (tVar 1) (tCons (tVar 2) tNil)))) (tOp (rIxT K) (tVar 0) (tC (.int 2)))))) (tRet (tC (.bl false))) tNext)
      (tSeq (tIfS (tOr (tNot (tB (tCall sp__law_sound [] E0 (tCons (tVar 1) (tCons (tVar 2) (tCons (tOp (rIxT K) (tVar 0) (tC (.int 3))) tNil)))))) (tTest (tOp rNe (tOp (rIxL K) (tOp (rIxL K) (tOp (rIxT K) (tVar 0) (tC (.int 3))) (tC (.int 0))) (tUn (rU fun i => .int (-i)) (tC (.int 1)))) (tOp (rIxT K) (tVar 0) (tC (.int 2)))))) (tRet (tC (.bl false))) tNext)
      (tSeq (tFor (iRng1 (tCons (tC (.int 4)) tNil)) (gName 4) (tIfS (tTest (tOp (rI0 fun i j => .bl (decide (i < j))) (tCall sp__law_work [] E0 (tCons (tCall sp__law_tree_by [] E0 (tCons (tVar 1) (tCons (tVar 2) (tCons (tOp (rI0 fun i j => .int (i + j)) (tOp (rI CDivW fun i j => .int (i / j)) (tVar 3) (tOp (rI0 fun i j => .int (i + j)) (tVar 4) (tC (.int 1)))) (tOp (rI CMulW fun i j => .int (i * j)) (tC (.int 7)) (tVar 4))) tNil)))) (tCons (tVar 1) (tCons (tVar 2) tNil)))) (tOp (rIxT K) (tVar 0) (tC (.int 2))))) (tRet (tC (.bl false))) tNext))
      (tRet (tC (.bl true)))))))
theorem ps__law_holds {P : Program} {w : World} {K : PySem.W.Frag} {mg : Str → Option Value} {base : Heap} {f : Addr} {k : Nat} (T : Txt mg) {l__law_whole : Nat} {sp__law_whole : Sp} (c__law_whole : Cal P w K mg base CX0 l__law_whole "_law_whole" ["found"] sp__law_whole) (h__law_whole : l__law_whole ≤ k) {l__law_numbers : Nat} {sp__law_numbers : Sp} (c__law_numbers : Cal P w K mg base CX0 l__law_numbers "_law_numbers" ["table"] sp__law_numbers) (h__law_numbers : l__law_numbers ≤ k) {l__law_served : Nat} {sp__law_served : Sp} (c__law_served : Cal P w K mg base CX0 l__law_served "_law_served" ["tree", "wish", "stock"] sp__law_served) (h__law_served : l__law_served ≤ k) {l__law_work : Nat} {sp__law_work : Sp} (c__law_work : Cal P w K mg base CX0 l__law_work "_law_work" ["tree", "wish", "stock"] sp__law_work) (h__law_work : l__law_work ≤ k) {l__law_sound : Nat} {sp__law_sound : Sp} (c__law_sound : Cal P w K mg base CX0 l__law_sound "_law_sound" ["wish", "stock", "table"] sp__law_sound) (h__law_sound : l__law_sound ≤ k) {l__law_tree_by : Nat} {sp__law_tree_by : Sp} (c__law_tree_by : Cal P w K mg base CX0 l__law_tree_by "_law_tree_by" ["wish", "stock", "cell"] sp__law_tree_by) (h__law_tree_by : l__law_tree_by ≤ k) (cdv : Value) (A : Around) (outer : List PySem.Env) (s : Shared) (H : Hp) (E : XK)
    (hr : Room k (A.deeper (envOfC "_law_holds" (defScope s__law_holds) s.heap.objs.size f cdv))) : PSs (cxOf CX0 P w K mg base N__law_holds "_law_holds" (defScope s__law_holds) f cdv A outer s H E).nox (defBody s__law_holds) (t__law_holds K sp__law_whole sp__law_numbers sp__law_served sp__law_work sp__law_sound sp__law_tree_by) := by
  have nd := sc__law_holds.nd
  exact (pss_cons (ps_if (PW.pt (pw_or (pt_cmpR op_ne (pe_callB call_len_seq (by rfl) T.len PySem.boot_len (pa_cons (pv 0) pa_nil)) pe_int (nomark _)) (pw_or (pt_cmpR op_ne (pe_ix ix_tup (pv 0) pe_int (fun _ _ => rfl)) pe_str (nomark _)) (pw_or (pt_not (pt_val (pe_callC c__law_whole hr pass0 (pa_cons (pe_ix ix_tup (pv 0) pe_int (fun _ _ => rfl)) pa_nil)))) (pw_or1 (pt_not (pt_val (pe_callC c__law_numbers hr pass0 (pa_cons (pe_ix ix_tup (pv 0) pe_int (fun _ _ => rfl)) pa_nil))))))))) (pss_one (ps_ret pe_bl)) pss_nil)
      (pss_cons (ps_if (PW.pt (pw_or (pt_not (pt_val (pe_callC c__law_served hr pass0 (pa_cons (pe_ix ix_tup (pv 0) pe_int (fun _ _ => rfl)) (pa_cons (pv 1) (pa_cons (pv 2) pa_nil)))))) (pw_or1 (pt_cmpR op_ne (pe_callC c__law_work hr pass0 (pa_cons (pe_ix ix_tup (pv 0) pe_int (fun _ _ => rfl)) (pa_cons (pv 1) (pa_cons (pv 2) pa_nil)))) (pe_ix ix_tup (pv 0) pe_int (fun _ _ => rfl)) (nomark _))))) (pss_one (ps_ret pe_bl)) pss_nil)
      (pss_cons (ps_if (PW.pt (pw_or (pt_not (pt_val (pe_callC c__law_sound hr pass0 (pa_cons (pv 1) (pa_cons (pv 2) (pa_cons (pe_ix ix_tup (pv 0) pe_int (fun _ _ => rfl)) pa_nil)))))) (pw_or1 (pt_cmpR op_ne (pe_ix ix_list (pe_ix ix_list (pe_ix ix_tup (pv 0) pe_int (fun _ _ => rfl)) pe_int (fun _ _ => rfl)) (pe_un un_neg pe_int) (fun _ _ => rfl)) (pe_ix ix_tup (pv 0) pe_int (fun _ _ => rfl)) (nomark _))))) (pss_one (ps_ret pe_bl)) pss_nil)
      (pss_cons (ps_for PassesOwn.never rfl (pi_range1 (by rfl) T.range (pa_cons pe_int pa_nil)) (pg_name (i := 4) nd rfl (by first | exact Or.inl rfl | exact Or.inr rfl)) (pss_one (ps_if (pt_cmpR op_lt (pe_callC c__law_work hr pass0 (pa_cons (pe_callC c__law_tree_by hr pass0 (pa_cons (pv 1) (pa_cons (pv 2) (pa_cons (pe_op op_add (pe_op op_fdivW (pv 3) (pe_op op_add (pv 4) pe_int)) (pe_op op_mulW pe_int (pv 4))) pa_nil)))) (pa_cons (pv 1) (pa_cons (pv 2) pa_nil)))) (pe_ix ix_tup (pv 0) pe_int (fun _ _ => rfl)) (nomark _)) (pss_one (ps_ret pe_bl)) pss_nil)))
      (pss_one (ps_ret pe_bl))))))
/-! _law_refusal -/
abbrev s__law_refusal : Stmt := top 43
abbrev N__law_refusal : List Str := ["wish", "stock", "some", "e"]
theorem sc__law_refusal : FnScope N__law_refusal ["wish", "stock"] (defScope s__law_refusal) := ⟨rfl, rfl, rfl, by decide +kernel, rfl, by decide +kernel, by decide +kernel⟩
/-! _law_refused -/
abbrev s__law_refused : Stmt := top 44
abbrev N__law_refused : List Str := ["wish", "stock", "cell", "bad", "kept"]
theorem sc__law_refused : FnScope N__law_refused ["wish", "stock", "cell"] (defScope s__law_refused) := ⟨rfl, rfl, rfl, by decide +kernel, rfl, by decide +kernel, by decide +kernel⟩
def t__law_refused (K : PySem.W.Frag) (sp__law_bad_stock : Sp) (sp__law_bad_wish : Sp) (sp__law_refusal : Sp) : TS :=
  (tSeq (tAsg (tLst (tCons (tCall sp__law_bad_wish [] E0 (tCons (tVar 0) (tCons (tOp (rI (fun _ j => 0 < j) fun i j => .int (i % j)) (tVar 2) (tOp (rI CPow fun i j => .int (i ^ j.toNat)) (tC (.int 10)) (tC (.int 60)))) tNil))) (tCons (tCall sp__law_bad_stock [] E0 (tCons (tVar 1) (tCons (tOp (rI CDivW fun i j => .int (i / j)) (tOp (rI (fun _ j => 0 < j) fun i j => .int (i % j)) (tVar 2) (tOp (rI CPow fun i j => .int (i ^ j.toNat)) (tC (.int 10)) (tC (.int 60)))) (tC (.int 7))) tNil))) tNil))) (gName 3))
      (tSeq (tAsg (tLst (tCons (tCB (rListQ K) (tCons (tOp (rIxL K) (tVar 3) (tC (.int 0))) tNil)) (tCons (tCB (rListQ K) (tCons (tOp (rIxL K) (tVar 3) (tC (.int 1))) tNil)) tNil))) (gName 4))
      (tSeq (tIfS (tOr (tTest (tOp (rNeD K) (tCall sp__law_refusal [] E0 (tCons (tOp (rIxL K) (tVar 3) (tC (.int 0))) (tCons (tCB (rListQ K) (tCons (tVar 1) tNil)) tNil))) (tLst (tCons (tC (.str "wish")) tNil)))) (tTest (tOp (rNeD K) (tCall sp__law_refusal [] E0 (tCons (tOp (rIxL K) (tVar 3) (tC (.int 0))) (tCons (tOp (rIxL K) (tVar 3) (tC (.int 1))) tNil))) (tLst (tCons (tC (.str "wish")) tNil))))) (tRet (tC (.bl false))) tNext)
      (tRet (tAndV (tOp (rEqD K) (tCall sp__law_refusal [] E0 (tCons (tCB (rListQ K) (tCons (tVar 0) tNil)) (tCons (tOp (rIxL K) (tVar 3) (tC (.int 1))) tNil))) (tLst (tCons (tC (.str "stock")) tNil))) (tOp (rEqD K) (tVar 3) (tVar 4)))))))
theorem ps__law_refused {P : Program} {w : World} {K : PySem.W.Frag} {mg : Str → Option Value} {base : Heap} {f : Addr} {k : Nat} (T : Txt mg) {l__law_bad_stock : Nat} {sp__law_bad_stock : Sp} (c__law_bad_stock : Cal P w K mg base CX0 l__law_bad_stock "_law_bad_stock" ["stock", "cell"] sp__law_bad_stock) (h__law_bad_stock : l__law_bad_stock ≤ k) {l__law_bad_wish : Nat} {sp__law_bad_wish : Sp} (c__law_bad_wish : Cal P w K mg base CX0 l__law_bad_wish "_law_bad_wish" ["wish", "cell"] sp__law_bad_wish) (h__law_bad_wish : l__law_bad_wish ≤ k) {l__law_refusal : Nat} {sp__law_refusal : Sp} (c__law_refusal : Cal P w K mg base CX0 l__law_refusal "_law_refusal" ["wish", "stock"] sp__law_refusal) (h__law_refusal : l__law_refusal ≤ k) (cdv : Value) (A : Around) (outer : List PySem.Env) (s : Shared) (H : Hp) (E : XK)
    (hr : Room k (A.deeper (envOfC "_law_refused" (defScope s__law_refused) s.heap.objs.size f cdv))) : PSs (cxOf CX0 P w K mg base N__law_refused "_law_refused" (defScope s__law_refused) f cdv A outer s H E).nox (defBody s__law_refused) (t__law_refused K sp__law_bad_stock sp__law_bad_wish sp__law_refusal) := by
  have nd := sc__law_refused.nd
  exact (pss_cons (ps_set (i := 3) nd rfl (by first | exact Or.inl rfl | exact Or.inr rfl) (pe_lst (pa_cons (pe_callC c__law_bad_wish hr pass0 (pa_cons (pv 0) (pa_cons (pe_op op_mod (pv 2) (pe_op op_pow pe_int pe_int)) pa_nil))) (pa_cons (pe_callC c__law_bad_stock hr pass0 (pa_cons (pv 1) (pa_cons (pe_op op_fdivW (pe_op op_mod (pv 2) (pe_op op_pow pe_int pe_int)) pe_int) pa_nil))) pa_nil))))
      (pss_cons (ps_set (i := 4) nd rfl (by first | exact Or.inl rfl | exact Or.inr rfl) (pe_lst (pa_cons (pe_callTy call_list_of (by rfl) T.list (by decide +kernel) (pa_cons (pe_ix ix_list (pv 3) pe_int (fun _ _ => rfl)) pa_nil)) (pa_cons (pe_callTy call_list_of (by rfl) T.list (by decide +kernel) (pa_cons (pe_ix ix_list (pv 3) pe_int (fun _ _ => rfl)) pa_nil)) pa_nil))))
      (pss_cons (ps_if (PW.pt (pw_or (pt_cmpR (op_neD hr.units) (pe_callC c__law_refusal hr pass0 (pa_cons (pe_ix ix_list (pv 3) pe_int (fun _ _ => rfl)) (pa_cons (pe_callTy call_list_of (by rfl) T.list (by decide +kernel) (pa_cons (pv 1) pa_nil)) pa_nil))) (pe_lst (pa_cons pe_str pa_nil)) (nomark _)) (pw_or1 (pt_cmpR (op_neD hr.units) (pe_callC c__law_refusal hr pass0 (pa_cons (pe_ix ix_list (pv 3) pe_int (fun _ _ => rfl)) (pa_cons (pe_ix ix_list (pv 3) pe_int (fun _ _ => rfl)) pa_nil))) (pe_lst (pa_cons pe_str pa_nil)) (nomark _))))) (pss_one (ps_ret pe_bl)) pss_nil)
      (pss_one (ps_ret (pe_and (pe_cmpR (op_eqD hr.units) (pe_callC c__law_refusal hr pass0 (pa_cons (pe_callTy call_list_of (by rfl) T.list (by decide +kernel) (pa_cons (pv 0) pa_nil)) (pa_cons (pe_ix ix_list (pv 3) pe_int (fun _ _ => rfl)) pa_nil))) (pe_lst (pa_cons pe_str pa_nil)) (nomark _)) (pe_one (pe_cmpR (op_eqD hr.units) (pv 3) (pv 4) (nomark _)))))))))
/-! law -/
abbrev s_law : Stmt := top 45
abbrev N_law : List Str := ["script", "wish", "stock", "handed", "found", "shut", "kept", "again", "row"]
theorem sc_law : FnScope N_law ["script"] (defScope s_law) := ⟨rfl, rfl, rfl, by decide +kernel, rfl, by decide +kernel, by decide +kernel⟩
def t_law (K : PySem.W.Frag) (sp__law_wish : Sp) (sp__law_cell_at : Sp) (sp__law_stock : Sp) (sp_least_tree : Sp) (sp__law_shut : Sp) (sp__law_refused : Sp) (sp__law_holds : Sp) : TS :=
  (tSeq (tAsg (tCall sp__law_wish [] E0 (tCons (tStepL K (tVar 0) (tPart (tC (.int 3)))) (tCons (tOp (rI0 fun i j => .int (i + j)) (tC (.int 2)) (tOp (rI (fun _ j => 0 < j) fun i j => .int (i % j)) (tCall sp__law_cell_at [] E0 (tCons (tVar 0) (tCons (tC (.int 0)) tNil))) (tC (.int 5)))) tNil))) (gName 1))
      (tSeq (tAsg (tCall sp__law_stock [] E0 (tCons (tStepL K (tVar 0) (tPart (tC (.int 4)))) (tCons (tVar 1) (tCons (tOp (rI0 fun i j => .bl (decide (j < i))) (tOp (rI (fun _ j => 0 < j) fun i j => .int (i % j)) (tOp (rI CDivW fun i j => .int (i / j)) (tCall sp__law_cell_at [] E0 (tCons (tVar 0) (tCons (tC (.int 0)) tNil))) (tC (.int 5))) (tC (.int 4))) (tC (.int 0))) tNil)))) (gName 2))
      (tSeq (tAsg (tLst (tCons (tCB (rListQ K) (tCons (tVar 1) tNil)) (tCons (tCB (rListQ K) (tCons (tVar 2) tNil)) tNil))) (gName 3))
      (tSeq (tAsg (tCall sp_least_tree [] E0 (tCons (tOp (rIxL K) (tVar 3) (tC (.int 0))) (tCons (tOp (rIxL K) (tVar 3) (tC (.int 1))) tNil))) (gName 4))
      (tSeq (tAsg (tCall sp__law_shut [] E0 (tCons (tVar 1) (tCons (tVar 2) tNil))) (gName 5))
      (tSeq (tIfS (tOr (tNot (tB (tCB (rIsi K) (tCons (tVar 4) (tCons (tC (.ty "tuple")) tNil))))) (tTest (tOp (rNeD K) (tVar 3) (tLst (tCons (tVar 1) (tCons (tVar 2) tNil)))))) (tRet (tC (.bl false))) tNext)
      (tSeq (tIfS (tTest (tOp rNotN (tVar 5) (tC .non))) (tRet (tAndV (tOp (rEqD K) (tVar 4) (tTup (tCons (tC (.str "shut")) (tCons (tVar 5) tNil)))) (tCall sp__law_refused [] E0 (tCons (tVar 1) (tCons (tVar 2) (tCons (tCall sp__law_cell_at [] E0 (tCons (tVar 0) (tCons (tC (.int 2)) tNil))) tNil)))))) tNext)
      (tSeq (tIfS (tNot (tB (tCall sp__law_holds [] E0 (tCons (tVar 4) (tCons (tVar 1) (tCons (tVar 2) (tCons (tOp (rI (fun _ j => 0 < j) fun i j => .int (i % j)) (tCall sp__law_cell_at [] E0 (tCons (tVar 0) (tCons (tC (.int 1)) tNil))) (tOp (rI CPow fun i j => .int (i ^ j.toNat)) (tC (.int 10)) (tC (.int 60)))) tNil))))))) (tRet (tC (.bl false))) tNext)
      (tSeq (tAsg (tLc (iList K (tOp (rIxT K) (tVar 4) (tC (.int 3)))) (gName 8) tYes (tCB (rListQ K) (tCons (tVar 8) tNil)) [8]) (gName 6))
      (tSeq (tDrop (tBM K "list" rAppend (tOp (rIxL K) (tOp (rIxT K) (tVar 4) (tC (.int 3))) (tC (.int 0))) (tCons (tC (.int 1)) tNil)))
      (tSeq (tDrop (tBM K "list" rAppend (tOp (rIxT K) (tVar 4) (tC (.int 3))) (tCons (tLst tNil) tNil)))
      (tSeq (tAsg (tCall sp_least_tree [] E0 (tCons (tOp (rIxL K) (tVar 3) (tC (.int 0))) (tCons (tOp (rIxL K) (tVar 3) (tC (.int 1))) tNil))) (gName 7))
      (tSeq (tIfS (tOr (tTest (tOp (rNeD K) (tSl (rSlT K) (tVar 7) (tPart (tC (.int 1))) (tPart (tC (.int 3)))) (tSl (rSlT K) (tVar 4) (tPart (tC (.int 1))) (tPart (tC (.int 3)))))) (tTest (tOp (rNeD K) (tOp (rIxT K) (tVar 7) (tC (.int 3))) (tVar 6)))) (tRet (tC (.bl false))) tNext)
      (tRet (tCall sp__law_refused [] E0 (tCons (tVar 1) (tCons (tVar 2) (tCons (tCall sp__law_cell_at [] E0 (tCons (tVar 0) (tCons (tC (.int 2)) tNil))) tNil))))))))))))))))))
theorem ps_law {P : Program} {w : World} {K : PySem.W.Frag} {mg : Str → Option Value} {base : Heap} {f : Addr} {k : Nat} (T : Txt mg) {l__law_wish : Nat} {sp__law_wish : Sp} (c__law_wish : Cal P w K mg base CX0 l__law_wish "_law_wish" ["cells", "kinds"] sp__law_wish) (h__law_wish : l__law_wish ≤ k) {l__law_cell_at : Nat} {sp__law_cell_at : Sp} (c__law_cell_at : Cal P w K mg base CX0 l__law_cell_at "_law_cell_at" ["script", "k"] sp__law_cell_at) (h__law_cell_at : l__law_cell_at ≤ k) {l__law_stock : Nat} {sp__law_stock : Sp} (c__law_stock : Cal P w K mg base CX0 l__law_stock "_law_stock" ["cells", "wish", "whole"] sp__law_stock) (h__law_stock : l__law_stock ≤ k) {l_least_tree : Nat} {sp_least_tree : Sp} (c_least_tree : Cal P w K mg base (L2.CX P w) l_least_tree "least_tree" ["wish", "stock"] sp_least_tree) (h_least_tree : l_least_tree ≤ k) {l__law_shut : Nat} {sp__law_shut : Sp} (c__law_shut : Cal P w K mg base CX0 l__law_shut "_law_shut" ["wish", "stock"] sp__law_shut) (h__law_shut : l__law_shut ≤ k) {l__law_refused : Nat} {sp__law_refused : Sp} (c__law_refused : Cal P w K mg base CX0 l__law_refused "_law_refused" ["wish", "stock", "cell"] sp__law_refused) (h__law_refused : l__law_refused ≤ k) {l__law_holds : Nat} {sp__law_holds : Sp} (c__law_holds : Cal P w K mg base CX0 l__law_holds "_law_holds" ["found", "wish", "stock", "cell"] sp__law_holds) (h__law_holds : l__law_holds ≤ k) (cdv : Value) (A : Around) (outer : List PySem.Env) (s : Shared) (H : Hp) (E : XK)
    (hr : Room k (A.deeper (envOfC "law" (defScope s_law) s.heap.objs.size f cdv))) : PSs (cxOf CX0 P w K mg base N_law "law" (defScope s_law) f cdv A outer s H E).nox (defBody s_law) (t_law K sp__law_wish sp__law_cell_at sp__law_stock sp_least_tree sp__law_shut sp__law_refused sp__law_holds) := by
  have nd := sc_law.nd
  exact (pss_cons (ps_set (i := 1) nd rfl (by first | exact Or.inl rfl | exact Or.inr rfl) (pe_callC c__law_wish hr pass0 (pa_cons (pe_stepL (pv 0) (po_some pe_int)) (pa_cons (pe_op op_add pe_int (pe_op op_mod (pe_callC c__law_cell_at hr pass0 (pa_cons (pv 0) (pa_cons pe_int pa_nil))) pe_int)) pa_nil))))
      (pss_cons (ps_set (i := 2) nd rfl (by first | exact Or.inl rfl | exact Or.inr rfl) (pe_callC c__law_stock hr pass0 (pa_cons (pe_stepL (pv 0) (po_some pe_int)) (pa_cons (pv 1) (pa_cons (pe_cmpR op_gt (pe_op op_mod (pe_op op_fdivW (pe_callC c__law_cell_at hr pass0 (pa_cons (pv 0) (pa_cons pe_int pa_nil))) pe_int) pe_int) pe_int (nomark _)) pa_nil)))))
      (pss_cons (ps_set (i := 3) nd rfl (by first | exact Or.inl rfl | exact Or.inr rfl) (pe_lst (pa_cons (pe_callTy call_list_of (by rfl) T.list (by decide +kernel) (pa_cons (pv 1) pa_nil)) (pa_cons (pe_callTy call_list_of (by rfl) T.list (by decide +kernel) (pa_cons (pv 2) pa_nil)) pa_nil))))
      (pss_cons (ps_set (i := 4) nd rfl (by first | exact Or.inl rfl | exact Or.inr rfl) (pe_callC c_least_tree hr passL (pa_cons (pe_ix ix_list (pv 3) pe_int (fun _ _ => rfl)) (pa_cons (pe_ix ix_list (pv 3) pe_int (fun _ _ => rfl)) pa_nil))))
      (pss_cons (ps_set (i := 5) nd rfl (by first | exact Or.inl rfl | exact Or.inr rfl) (pe_callC c__law_shut hr pass0 (pa_cons (pv 1) (pa_cons (pv 2) pa_nil))))
      (pss_cons (ps_if (PW.pt (pw_or (pt_not (pt_val (pe_callB call_isi (by rfl) T.isinstance (by decide +kernel) (pa_cons (pv 4) (pa_cons (pe_bltn (v := .ty "tuple") (by rfl) T.tuple (by decide +kernel) rfl) pa_nil))))) (pw_or1 (pt_cmpR (op_neD hr.units) (pv 3) (pe_lst (pa_cons (pv 1) (pa_cons (pv 2) pa_nil))) (nomark _))))) (pss_one (ps_ret pe_bl)) pss_nil)
      (pss_cons (ps_if (pt_cmpR op_notN (pv 5) pe_non (nomark _)) (pss_one (ps_ret (pe_and (pe_cmpR (op_eqD hr.units) (pv 4) (pe_tup (pa_cons pe_str (pa_cons (pv 5) pa_nil))) (nomark _)) (pe_one (pe_callC c__law_refused hr pass0 (pa_cons (pv 1) (pa_cons (pv 2) (pa_cons (pe_callC c__law_cell_at hr pass0 (pa_cons (pv 0) (pa_cons pe_int pa_nil))) pa_nil)))))))) pss_nil)
      (pss_cons (ps_if (pt_not (pt_val (pe_callC c__law_holds hr pass0 (pa_cons (pv 4) (pa_cons (pv 1) (pa_cons (pv 2) (pa_cons (pe_op op_mod (pe_callC c__law_cell_at hr pass0 (pa_cons (pv 0) (pa_cons pe_int pa_nil))) (pe_op op_pow pe_int pe_int)) pa_nil))))))) (pss_one (ps_ret pe_bl)) pss_nil)
      (pss_cons (ps_setLc (i := 6) (own := [("row", 8)]) (g := (gName 8)) (tt := tYes) (te := (tCB (rListQ K) (tCons (tVar 8) tNil))) rfl nd rfl rfl (sw_true rfl rfl rfl (by decide +kernel)) (pi_list (pe_ix ix_tup (pv 4) pe_int (fun _ _ => rfl))) (blkOk_by (own := [("row", 8)]) (N := N_law) (sc := defScope s_law) (by decide +kernel)) (fun _ _ _ _ _ => (pg_name (i := 8) nd rfl (by first | exact Or.inl rfl | exact Or.inr rfl))) (fun _ _ _ _ _ => pts_nil) (fun _ _ _ _ _ => (pe_callTy call_list_of (by rfl) T.list (by decide +kernel) (pa_cons (pv 8) pa_nil))))
      (pss_cons (ps_expr (pe_bm PySem.F.plainAttrs_list PySem.F.slot_list_append PySem.F.type_list_append mt_append (pe_ix ix_list (pe_ix ix_tup (pv 4) pe_int (fun _ _ => rfl)) pe_int (fun _ _ => rfl)) (pa_cons pe_int pa_nil)))
      (pss_cons (ps_expr (pe_bm PySem.F.plainAttrs_list PySem.F.slot_list_append PySem.F.type_list_append mt_append (pe_ix ix_tup (pv 4) pe_int (fun _ _ => rfl)) (pa_cons (pe_lst pa_nil) pa_nil)))
      (pss_cons (ps_set (i := 7) nd rfl (by first | exact Or.inl rfl | exact Or.inr rfl) (pe_callC c_least_tree hr passL (pa_cons (pe_ix ix_list (pv 3) pe_int (fun _ _ => rfl)) (pa_cons (pe_ix ix_list (pv 3) pe_int (fun _ _ => rfl)) pa_nil))))
      (pss_cons (ps_if (PW.pt (pw_or (pt_cmpR (op_neD hr.units) (pe_slice sl_tup (pv 7) (po_some pe_int) (po_some pe_int)) (pe_slice sl_tup (pv 4) (po_some pe_int) (po_some pe_int)) (nomark _)) (pw_or1 (pt_cmpR (op_neD hr.units) (pe_ix ix_tup (pv 7) pe_int (fun _ _ => rfl)) (pv 6) (nomark _))))) (pss_one (ps_ret pe_bl)) pss_nil)
      (pss_one (ps_ret (pe_callC c__law_refused hr pass0 (pa_cons (pv 1) (pa_cons (pv 2) (pa_cons (pe_callC c__law_cell_at hr pass0 (pa_cons (pv 0) (pa_cons pe_int pa_nil))) pa_nil)))))))))))))))))))
end K58
set_option Elab.async false
set_option linter.all false
set_option maxRecDepth 100000
set_option maxHeartbeats 1000000
namespace K58
open PySem PySem.Spec PyProof.Rows L2
/-! ### promises by a datum of one's own -/
def spF (K : PySem.W.Frag) {α : Type} (args : α → List Item) (pre : α → Prop) (post : α → Hp → V → Hp → Hp → Prop) (exc : α → Addr → Prop) : Sp := fun vs H Q E =>
  ∃ (a : α) (B : Hp), Same B H ∧ Paired (ArgOk K B H) vs (args a) ∧ pre a ∧ (∀ v B2 H2, post a H v B2 H2 → Stp B H B2 H2 → Q v H2) ∧ ∀ C H2, exc a C → Same H H2 → E (.ref C) none H2
def pdat (K : PySem.W.Frag) {α : Type} (post : α → PyData → Prop) : α → Hp → V → Hp → Hp → Prop := fun a _ v B _ => ∃ d, post a d ∧ Dp K B v d
def noex {α : Type} : α → Addr → Prop := fun _ _ => False
abbrev spD (K : PySem.W.Frag) {α : Type} (args : α → List Item) (pre : α → Prop) (post : α → PyData → Prop) : Sp := spF K args pre (pdat K post) noex
/-- what a def's body is to reach: P of the data that come back -/
abbrev poD (K : PySem.W.Frag) (P : PyData → Prop) : Po := { nx := fun _ => P .none, rt := rtP K P }
section
variable {K : PySem.W.Frag} {H0 : Hp} {Γ : List Item} {P : PyData → Prop} {φ : Po} {α : Type} {args : α → List Item} {pre : α → Prop} {exc : α → Addr → Prop}
theorem ev_callF {post : α → PyData → Prop} {X : XK} {ta : TA} (a : α) (h : EvA K H0 ta Γ (fun t => t = args a)) (hp : pre a) (hr : ∀ d, post a d → P d) (hx : ∀ C H2, exc a C → Same H0 H2 → X (.ref C) none H2) : EvP K H0 (tCall (spF K args pre (pdat K post) exc) [] X ta) Γ P := fun B H σ E Q q =>
  h B H σ E _ fun vs ts B1 H1 e s1 hs => by
    subst e
    rw [List.append_nil]
    exact ⟨a, B1, s1.ob, hs, hp, fun v B2 H2 ⟨d, p, hd⟩ s2 => q v d B2 H2 (hr d p) (s1.trans s2) hd, fun C H2 c e => hx C H2 c ((E.oh.trans s1.eh).trans e)⟩
theorem ev_callD {post : α → PyData → Prop} {X : XK} {ta : TA} (a : α) (h : EvA K H0 ta Γ (fun t => t = args a)) (hp : pre a) (hr : ∀ d, post a d → P d) : EvP K H0 (tCall (spD K args pre post) [] X ta) Γ P := ev_callF a h hp hr fun _ _ z => z.elim
/-- the arguments known in part -/
theorem ev_callA {post : α → PyData → Prop} {X : XK} {ta : TA} {A : List Item → Prop} (h : EvA K H0 ta Γ A) (w : ∀ ts, A ts → ∃ a, ts = args a ∧ pre a ∧ ∀ d, post a d → P d) : EvP K H0 (tCall (spD K args pre post) [] X ta) Γ P := fun B H σ E Q q =>
  h B H σ E _ fun vs ts B1 H1 e s1 hs => by
    obtain ⟨a, rfl, hp, hr⟩ := w ts e
    rw [List.append_nil]
    exact ⟨a, B1, s1.ob, hs, hp, fun v B2 H2 ⟨d, p, hd⟩ s2 => q v d B2 H2 (hr d p) (s1.trans s2) hd, fun C H2 c e => c.elim⟩
end
section
variable {P : Program} {w : World} {K : PySem.W.Frag} {mg : Str → Option Value} {base : Heap} {x qual : Str} {st : Stmt} {f : Addr} {fd : FuncData} {N ps : List Str} {k : Nat} {α : Type} {args : α → List Item} {pre : α → Prop}
theorem okF0 {post : α → Hp → V → Hp → Hp → Prop} (F : Fun K x qual st f fd) (S : FnScope N ps (defScope st)) (hlen : ∀ a, (args a).length = ps.length) (hN : ps.length ≤ N.length)
    (t : TS) (hps : ∀ (cdv : Value) (A : Around) (outer : List PySem.Env) (s : Shared) (H : Hp) (E : XK), Room k (A.deeper (envOfC qual (defScope st) s.heap.objs.size f cdv)) → PSs (cxOf CX0 P w K mg base N qual (defScope st) f cdv A outer s H E).nox (defBody st) t)
    (body : ∀ (H : Hp) a, pre a → Sx K H t (args a ++ List.replicate (N.length - (args a).length) .no) { nx := fun _ => ∀ B' H', post a H .non B' H', rt := post a H }) : FnOk P w K mg base CX0 (k + 1) f fd ps (spF K args pre post noex) := by
  refine F.ok S (fun vs H Q E ⟨a, B, _, hs, hp, _⟩ => by rw [Paired.length hs, hlen a]) fun cdv A outer s H vs Q E hr ⟨a, B, ob, hs, hp, q, _⟩ => ?_
  have ln := Paired.length hs
  have hl := hlen a
  refine ⟨t, hps cdv A outer s H E hr, body H a hp B H (L2.start N vs) _ (sit_start ob hs (by omega)) ⟨fun Γ σ B' H' p r S' => q .non B' H' (p B' H') ⟨r.eb, S'.oh, S'.ob, r.fr⟩, fun v B' H' p r o1 o2 => q v B' H' p ⟨r.eb, o2, o1, r.fr⟩, fun _ _ _ _ z => z.elim, fun _ _ _ _ z => z.elim⟩⟩
theorem okFX {post : α → Hp → V → Hp → Hp → Prop} {exc : α → Addr → Prop} (F : Fun K x qual st f fd) (S : FnScope N ps (defScope st)) (hlen : ∀ a, (args a).length = ps.length) (hN : ps.length ≤ N.length)
    (t : XK → TS) (hps : ∀ (cdv : Value) (A : Around) (outer : List PySem.Env) (s : Shared) (H : Hp) (E : XK), Room k (A.deeper (envOfC qual (defScope st) s.heap.objs.size f cdv)) → PSs (cxOf (L2.CX P w) P w K mg base N qual (defScope st) f cdv A outer s H E) (defBody st) (t E))
    (body : ∀ (H : Hp) (E : XK) a, pre a → (∀ C H2, exc a C → Same H H2 → E (.ref C) none H2) → Sx K H (t E) (args a ++ List.replicate (N.length - (args a).length) .no) { nx := fun _ => ∀ B' H', post a H .non B' H', rt := post a H }) : FnOk P w K mg base (L2.CX P w) (k + 1) f fd ps (spF K args pre post exc) := by
  refine F.okX S (fun vs H Q E ⟨a, B, _, hs, hp, _⟩ => by rw [Paired.length hs, hlen a]) fun cdv A outer s H vs Q E hr ⟨a, B, ob, hs, hp, q, hx⟩ => ?_
  have ln := Paired.length hs
  have hl := hlen a
  refine ⟨t E, hps cdv A outer s H E hr, body H E a hp hx B H (L2.start N vs) _ (sit_start ob hs (by omega)) ⟨fun Γ σ B' H' p r S' => q .non B' H' (p B' H') ⟨r.eb, S'.oh, S'.ob, r.fr⟩, fun v B' H' p r o1 o2 => q v B' H' p ⟨r.eb, o2, o1, r.fr⟩, fun _ _ _ _ z => z.elim, fun _ _ _ _ z => z.elim⟩⟩
/-- by data -/
theorem okD0 {post : α → PyData → Prop} (F : Fun K x qual st f fd) (S : FnScope N ps (defScope st)) (hlen : ∀ a, (args a).length = ps.length) (hN : ps.length ≤ N.length)
    (t : TS) (hps : ∀ (cdv : Value) (A : Around) (outer : List PySem.Env) (s : Shared) (H : Hp) (E : XK), Room k (A.deeper (envOfC qual (defScope st) s.heap.objs.size f cdv)) → PSs (cxOf CX0 P w K mg base N qual (defScope st) f cdv A outer s H E).nox (defBody st) t)
    (body : ∀ (H : Hp) a, pre a → Sx K H t (args a ++ List.replicate (N.length - (args a).length) .no) (poD K (post a))) : FnOk P w K mg base CX0 (k + 1) f fd ps (spD K args pre post) :=
  okF0 F S hlen hN t hps fun H a hp => (body H a hp).imp (fun Γ p B' H' => ⟨.none, p, .non⟩) (fun v B H' q => q) (fun _ z => z) (fun _ z => z)
theorem okDX {post : α → PyData → Prop} {exc : α → Addr → Prop} (F : Fun K x qual st f fd) (S : FnScope N ps (defScope st)) (hlen : ∀ a, (args a).length = ps.length) (hN : ps.length ≤ N.length)
    (t : XK → TS) (hps : ∀ (cdv : Value) (A : Around) (outer : List PySem.Env) (s : Shared) (H : Hp) (E : XK), Room k (A.deeper (envOfC qual (defScope st) s.heap.objs.size f cdv)) → PSs (cxOf (L2.CX P w) P w K mg base N qual (defScope st) f cdv A outer s H E) (defBody st) (t E))
    (body : ∀ (H : Hp) (E : XK) a, pre a → (∀ C H2, exc a C → Same H H2 → E (.ref C) none H2) → Sx K H (t E) (args a ++ List.replicate (N.length - (args a).length) .no) (poD K (post a))) : FnOk P w K mg base (L2.CX P w) (k + 1) f fd ps (spF K args pre (pdat K post) exc) :=
  okFX F S hlen hN t hps fun H E a hp hx => (body H E a hp hx).imp (fun Γ p B' H' => ⟨.none, p, .non⟩) (fun v B H' q => q) (fun _ z => z) (fun _ z => z)
theorem Cal.of {CX : CXT} {sp : Sp} (F : Fun K x qual st f fd) (h : FnOk P w K mg base CX k f fd ps sp) (m : mg x = some (.ref f))
    (hb : ∀ (kV doc pm : Value) (an : Option Addr) (cdv ct : Value) (us : List Value), us.length = ps.length → bindArgs (PySem.W.fnOf x qual (defArgs st) (defBody st) (defScope st) .none kV doc pm an cdv ct) ⟨us, []⟩ = pure (ps.zip us)) : Cal P w K mg base CX k x ps sp := ⟨⟨f, fd, h, m, F.kp, F.binds hb⟩⟩
end

/-! ### the data of the law -/
abbrev Tri := Int × Int × Int
abbrev encT (x : Tri) : PyData := .tuple [.int x.1, .int x.2.1, .int x.2.2]
abbrev wishD (W : List Tri) : PyData := .list (W.map encT)
abbrev stockD (S : List (Int × Int)) : PyData := .list (S.map encP)
def inb (n : Int) : Bool := decide (1 ≤ n) && decide (n ≤ 1000000000000000000000000000000000000000000000000000000000000)
def okW : Int → List Tri → Bool
  | _, [] => true
  | last, (s, m, n) :: r => inb s && inb m && decide (last < s) && decide (0 ≤ n) && decide (n ≤ 5) && okW s r
def wishOk (W : List Tri) : Bool := decide (1 ≤ W.length ∧ W.length ≤ 20) && okW 0 W
def okS : Int → List (Int × Int) → Bool
  | _, [] => true
  | last, (o, p) :: r => inb o && decide (last < o) && decide (0 ≤ p) && decide (p ≤ 1000000000000000000000000000000000000000000000000000000000000) && okS o r
def stockOk (S : List (Int × Int)) : Bool := decide (S.length ≤ 30) && okS 0 S
end K58
set_option Elab.async false
set_option linter.all false
set_option maxRecDepth 100000
set_option maxHeartbeats 1000000
namespace K58
open PySem PySem.Spec PyProof.Rows L2
section
variable {K : PySem.W.Frag} {H0 : Hp} {Γ : List Item} {te : TE}
theorem et_yes : EvT K H0 tYes Γ true := fun B H σ E Q q => q B H (Stp.refl E.ob)
theorem en_map {α : Type} {wi : TI} {g : TG} {vs : List Nat} {enc out : α → PyData} (xs : List α) (hw : Wk K H0 wi Γ (xs.map enc)) (hl : xs.length < 100000)
    (hs : ∀ x ∈ xs, ∃ js Γ2, Tg K H0 g js (enc x) (wipeI Γ vs) Γ2 ∧ (∀ j ∈ js, j ∈ vs) ∧ Ev K H0 te Γ2 (out x)) : EvN K H0 (tLc wi g tYes te vs) Γ (xs.map out) := by
  have h := en_lc (te := te) (tt := tYes) (out := out) (keep := fun _ => true) xs hw hl fun x hx => by
    obtain ⟨js, Γ2, a, b, c⟩ := hs x hx
    exact ⟨js, Γ2, a, b, et_yes, fun _ => c⟩
  rw [List.filter_eq_self.mpr (fun _ _ => rfl)] at h
  exact h
end
/-! ### the wish by its places -/
def tri (W : List Tri) (i : Nat) : Tri := W.getD i (0, 0, 0)
def siz (W : List Tri) (i : Nat) : Int := (tri W i).1
def man (W : List Tri) (i : Nat) : Int := (tri W i).2.1
def bin (W : List Tri) (i : Nat) : Int := (tri W i).2.2
def betw (S : List (Int × Int)) (lo hi : Int) : List (Int × Int) := S.filter fun p => decide (lo ≤ p.1) && decide (p.1 < hi)
def shutP (W : List Tri) (S : List (Int × Int)) (i : Nat) : Bool := (!decide (bin W i = bin W (i + 1))) && (betw S (siz W i) (siz W (i + 1))).isEmpty
def firstShut (W : List Tri) (S : List (Int × Int)) : Option Nat := (List.range (W.length - 1)).find? (shutP W S)
def cutsAt (W : List Tri) (S : List (Int × Int)) (i : Nat) : List (Int × Int) := (((betw S (siz W i) (siz W (i + 1))).map fun p => (p.2, p.1)).mergeSort (PySem.W.dataLe false encP)).take 1
abbrev pairsD (l : List (Int × Int)) : PyData := .list (l.map encP)
def cutsD (W : List Tri) (S : List (Int × Int)) : PyData := .list ((List.range (W.length - 1)).map fun i => pairsD (cutsAt W S i))
def slc (W : List Tri) (i j : Nat) : List Tri := cutG W (some (i : Int)) (some ((j : Int) + 1))
def grains (W : List Tri) (i j : Nat) : Int := ((slc W i j).map fun t => t.2.1).sum
def bins (W : List Tri) (i j : Nat) : List Int := (slc W i j).map fun t => t.2.2
def oneBin (W : List Tri) (i j : Nat) : Bool := decide (((PyProof.Rows.firstMet (fun k => (bins W i j).getD k 0) (bins W i j).length).length : Int) = 1)
theorem at_map {α : Type} (f : α → PyData) (l : List α) (d : α) {i : Nat} (h : i < l.length) : atI (l.map f) (i : Int) = some (f (l.getD i d)) := by
  refine atI_nat ?_
  rw [List.getElem?_map, List.getD_eq_getElem?_getD, List.getElem?_eq_getElem h] <;> rfl
theorem at_W {W : List Tri} {i : Nat} (h : i < W.length) : atI (W.map encT) (i : Int) = some (encT (tri W i)) := at_map encT W _ h
theorem at_W1 {W : List Tri} {i : Nat} (h : i + 1 < W.length) : atI (W.map encT) ((i : Int) + 1) = some (encT (tri W (i + 1))) := at_map encT W _ h
theorem sIx_le {n i : Nat} (h : i ≤ n) : HT.sIx n 0 (some (i : Int)) = i := by rw [HT.sIx_nat]; omega
theorem slc_eq {W : List Tri} {i j : Nat} (hij : i ≤ j) (hj : j < W.length) : slc W i j = (W.drop i).take (j + 1 - i) := by
  unfold slc cutG
  have e : HT.sIx W.length W.length (some ((j : Int) + 1)) = j + 1 := by
    have := HT.sIx_nat W.length W.length (j + 1)
    rw [show ((j : Int) + 1) = ((j + 1 : Nat) : Int) from rfl, this]
    omega
  rw [e, sIx_le (by omega)]
theorem cut_len {α : Type} (xs : List α) (lo hi : Option Int) : (cutG xs lo hi).length ≤ xs.length := by
  unfold cutG
  rw [List.length_take, List.length_drop]
  omega
/-! ### == of the data here -/
theorem eqv_int (n : Int) : PyData.eqv (.int n) (.int n) = true := by simp [PyData.eqv]
mutual
/-- data whose == is equality -/
def flat : PyData → Bool
  | .none => true
  | .bool _ => true
  | .int _ => true
  | .str _ => true
  | .list xs => flatAll xs
  | .tuple xs => flatAll xs
  | .dict _ => false
def flatAll : List PyData → Bool
  | [] => true
  | x :: xs => flat x && flatAll xs
end
mutual
theorem eqv_self : ∀ d : PyData, flat d = true → PyData.eqv d d = true
  | .none, _ => by simp [PyData.eqv]
  | .bool b, _ => by simp [PyData.eqv]
  | .int n, _ => by simp [PyData.eqv]
  | .str x, _ => by simp [PyData.eqv]
  | .list xs, h => by rw [PyData.eqv]; exact eqvAll_self xs (by simpa [flat] using h)
  | .tuple xs, h => by rw [PyData.eqv]; exact eqvAll_self xs (by simpa [flat] using h)
  | .dict _, h => by simp [flat] at h
theorem eqvAll_self : ∀ xs : List PyData, flatAll xs = true → PyData.eqvAll xs xs = true
  | [], _ => by simp [PyData.eqvAll]
  | x :: xs, h => by
    simp only [flatAll, Bool.and_eq_true] at h
    rw [PyData.eqvAll, eqv_self x h.1, eqvAll_self xs h.2]; rfl
end
/-- no texts but short ones: depth is all that is asked -/
theorem canLayAll_map {α : Type} (f : α → PyData) (hf : ∀ x, PyData.canLay0 (f x) = true) : ∀ l : List α, PyData.canLayAll0 (l.map f) = true
  | [] => by simp [PyData.canLayAll0]
  | x :: l => by rw [List.map_cons, PyData.canLayAll0, hf x, canLayAll_map f hf l]; rfl
theorem depthAll_map {α : Type} (f : α → PyData) (k : Nat) (hf : ∀ x, (f x).depth ≤ k) : ∀ l : List α, PyData.depthAll (l.map f) ≤ k
  | [] => by simp [PyData.depthAll]
  | x :: l => by
    rw [List.map_cons, PyData.depthAll]
    have h1 := hf x
    have h2 := depthAll_map f k hf l
    omega
theorem flatAll_map {α : Type} (f : α → PyData) (hf : ∀ x, flat (f x) = true) : ∀ l : List α, flatAll (l.map f) = true
  | [] => by simp [flatAll]
  | x :: l => by rw [List.map_cons, flatAll, hf x, flatAll_map f hf l]; rfl
theorem lay_P (p : Int × Int) : PyData.canLay0 (encP p) = true := by simp [encP, PyData.canLay0, PyData.canLayAll0]
theorem lay_T (p : Tri) : PyData.canLay0 (encT p) = true := by simp [encT, PyData.canLay0, PyData.canLayAll0]
theorem dep_P (p : Int × Int) : (encP p).depth = 1 := by simp [encP, PyData.depth, PyData.depthAll]
theorem dep_T (p : Tri) : (encT p).depth = 1 := by simp [encT, PyData.depth, PyData.depthAll]
theorem flat_P (p : Int × Int) : flat (encP p) = true := by simp [encP, flat, flatAll]
theorem flat_T (p : Tri) : flat (encT p) = true := by simp [encT, flat, flatAll]
theorem shaped_of {d : PyData} (h1 : PyData.canLay0 d = true) (h2 : d.depth ≤ 64) : SeqAt.shaped d = true := by unfold SeqAt.shaped; rw [h1, decide_eq_true h2]; rfl
theorem lay_list {xs : List PyData} (h : PyData.canLayAll0 xs = true) : PyData.canLay0 (.list xs) = true := by simpa [PyData.canLay0] using h
theorem dep_list {xs : List PyData} {k : Nat} (h : PyData.depthAll xs ≤ k) : (PyData.list xs).depth ≤ k + 1 := by rw [PyData.depth]; omega
theorem shaped_pairs (l : List (Int × Int)) : SeqAt.shaped (pairsD l) = true :=
  shaped_of (lay_list (canLayAll_map _ lay_P l)) (Nat.le_trans (dep_list (depthAll_map _ 1 (fun x => by rw [dep_P] <;> omega) l)) (by decide))
theorem eqv_nil (l : List (Int × Int)) : PyData.eqv (pairsD l) (.list []) = l.isEmpty := by
  cases l with
  | nil => simp [PyData.eqv, PyData.eqvAll]
  | cons x l => simp [PyData.eqv, PyData.eqvAll]
end K58
set_option Elab.async false
set_option linter.all false
set_option maxRecDepth 100000
set_option maxHeartbeats 1000000
namespace K58
open PySem PySem.Spec PyProof.Rows L2
section
variable {K : PySem.W.Frag} {H0 : Hp}
/-! in_bounds -/
abbrev sp_in_bounds (K : PySem.W.Frag) : Sp := spD K (fun n : Int => [.dat (.int n)]) (fun _ => True) (fun n d => d = .bool (inb n))
theorem rd_in_bounds (n : Int) : Sx K H0 (t_in_bounds K) ([.dat (.int n)] ++ List.replicate (N_in_bounds.length - 1) .no) (poD K fun d => d = .bool (inb n)) :=
  sx_retP (ev_chain ev_int (ev_var rfl) rv_IB (fun _ => ev_int) (fun _ => rv_IB)) (fun d e => e) rfl
/-! check_wish -/
abbrev sp_check_wish (K : PySem.W.Frag) (C : Addr) : Sp := spF K (fun W : List Tri => [.dat (wishD W)]) (fun _ => True) (pdat K fun W d => wishOk W = true ∧ d = .none) (fun W D => wishOk W = false ∧ D = C)
theorem rd_check_wish {C : Addr} {E : XK} (W : List Tri) (hx : ∀ D H2, (wishOk W = false ∧ D = C) → Same H0 H2 → E (.ref D) none H2) :
    Sx K H0 (t_check_wish K (sp_in_bounds K) C E) ([.dat (wishD W)] ++ List.replicate (N_check_wish.length - 1) .no) (poD K fun d => wishOk W = true ∧ d = .none) := by
  have hl : (W.map encT).length = W.length := List.length_map _
  refine sx_seq (sx_if (et_or (et_test (ev_op (ev_lenL (ev_var rfl)) ev_int rv_IB)) fun _ => et_test (ev_op (ev_lenL (ev_var rfl)) ev_int rv_IB)) (fun hb => ?_) (fun hb => sx_next ?_))
  · refine fun B H σ D E' hd => hx C H ⟨?_, rfl⟩ E'.oh
    rw [hl] at hb
    unfold wishOk
    have : ¬ (1 ≤ W.length ∧ W.length ≤ 20) := by
      simp only [Bool.or_eq_true, decide_eq_true_eq] at hb
      omega
    rw [decide_eq_false this]; rfl
  rw [hl] at hb
  have hlen : 1 ≤ W.length ∧ W.length ≤ 20 := by
    simp only [Bool.or_eq_false_iff, decide_eq_false_iff_not] at hb
    omega
  refine sx_seq (sx_asg ev_int ?_)
  refine sx_for W (wk_list (ev_var rfl)) (fun pre Γ => ∃ a b c last, Γ = [.dat (wishD W), .dat (.int last), a, b, c] ∧ ∀ rest, okW 0 (pre ++ rest) = okW last rest) ⟨.no, .no, .no, 0, rfl, fun _ => rfl⟩ ?_ ?_
  · rintro pre ⟨s, m, n⟩ post Γ1 hW ⟨a, b, c, last, rfl, hk⟩
    refine ⟨_, _, tg_tup (tgs_cons tg_name (tgs_cons tg_name (tgs_cons tg_name tgs_nil))) rfl, ?_⟩
    have call : ∀ {i : Nat} {x : Int} {Γ : List Item}, Γ[i]? = some (.dat (.int x)) → EvT K H0 (tB (tCall (sp_in_bounds K) [] E0 (tCons (tVar i) tNil))) Γ (inb x) := fun {i x Γ} h =>
      et_B ((ev_callD (P := fun d => d = .bool (inb x)) x (ea_cons (ev_var h) ea_nil) trivial fun d e => e))
    refine sx_seq (sx_if (et_or (et_not (call rfl)) fun _ => et_or (et_not (call rfl)) fun _ => et_or (et_test (ev_op (ev_var rfl) (ev_var rfl) rv_IB)) fun _ => et_or (et_test (ev_op (ev_var rfl) ev_int rv_IB)) fun _ => et_test (ev_op (ev_var rfl) ev_int rv_IB)) (fun hb => ?_) (fun hb => sx_next ?_))
    · refine fun B H σ D E' hd => hx C H ⟨?_, rfl⟩ E'.oh
      have e : okW 0 W = false := by
        rw [hW, hk]
        unfold okW
        simp only [Bool.or_eq_true, Bool.not_eq_true', decide_eq_true_eq] at hb
        rcases hb with hb | hb | hb | hb | hb
        · rw [hb]; rfl
        · rw [hb]; simp
        · rw [decide_eq_false (show ¬ last < s by omega)]; simp
        · rw [decide_eq_false (show ¬ (0 : Int) ≤ n by omega)]; simp
        · rw [decide_eq_false (show ¬ n ≤ 5 by omega)]; simp
      unfold wishOk
      rw [e, Bool.and_false]
    · refine sx_asg (ev_var rfl) ⟨_, _, _, s, rfl, fun rest => ?_⟩
      rw [List.append_assoc, hk]
      show okW last ((s, m, n) :: rest) = okW s rest
      simp only [Bool.or_eq_false_iff, Bool.not_eq_false', decide_eq_false_iff_not] at hb
      obtain ⟨h1, h2, h3, h4, h5⟩ := hb
      unfold okW
      rw [h1, h2, decide_eq_true (show last < s by omega), decide_eq_true (show (0 : Int) ≤ n by omega), decide_eq_true (show n ≤ 5 by omega)]
      cases rest <;> rfl
  · rintro Γ1 ⟨a, b, c, last, rfl, hk⟩
    refine ⟨?_, rfl⟩
    unfold wishOk
    rw [decide_eq_true hlen, Bool.true_and]
    have := hk []
    rw [List.append_nil] at this
    rw [this]; rfl
end
end K58
set_option Elab.async false
set_option linter.all false
set_option maxRecDepth 100000
set_option maxHeartbeats 1000000
namespace K58
open PySem PySem.Spec PyProof.Rows L2
section
variable {K : PySem.W.Frag} {H0 : Hp}
theorem len_ok {α : Type} {l : List α} (h : Nat.ble l.length 100000 = true) : l.length ≤ 100000 := Nat.le_of_ble_eq_true h
/-! check_stock -/
abbrev sp_check_stock (K : PySem.W.Frag) (C : Addr) : Sp := spF K (fun S : List (Int × Int) => [.dat (stockD S)]) (fun _ => True) (pdat K fun S d => stockOk S = true ∧ d = .none) (fun S D => stockOk S = false ∧ D = C)
theorem ev_inb {i : Nat} {x : Int} {Γ : List Item} (h : Γ[i]? = some (.dat (.int x))) : EvT K H0 (tB (tCall (sp_in_bounds K) [] E0 (tCons (tVar i) tNil))) Γ (inb x) :=
  et_B (ev_callD (P := fun d => d = .bool (inb x)) x (ea_cons (ev_var h) ea_nil) trivial fun d e => e)
theorem rd_check_stock {C : Addr} {E : XK} (S : List (Int × Int)) (hx : ∀ D H2, (stockOk S = false ∧ D = C) → Same H0 H2 → E (.ref D) none H2) :
    Sx K H0 (t_check_stock K (sp_in_bounds K) C E) ([.dat (stockD S)] ++ List.replicate (N_check_stock.length - 1) .no) (poD K fun d => stockOk S = true ∧ d = .none) := by
  have hl : (S.map encP).length = S.length := List.length_map _
  refine sx_seq (sx_if (et_test (ev_op (ev_lenL (ev_var rfl)) ev_int rv_IB)) (fun hb => ?_) (fun hb => sx_next ?_))
  · refine fun B H σ D E' hd => hx C H ⟨?_, rfl⟩ E'.oh
    rw [hl] at hb
    unfold stockOk
    have : ¬ (S.length ≤ 30) := by
      have := of_decide_eq_true hb
      omega
    rw [decide_eq_false this]; rfl
  rw [hl] at hb
  have hlen : S.length ≤ 30 := by
    have := of_decide_eq_false hb
    omega
  refine sx_seq (sx_asg ev_int ?_)
  refine sx_for S (wk_list (ev_var rfl)) (fun pre Γ => ∃ a b last, Γ = [.dat (stockD S), .dat (.int last), a, b] ∧ ∀ rest, okS 0 (pre ++ rest) = okS last rest) ⟨.no, .no, 0, rfl, fun _ => rfl⟩ ?_ ?_
  · rintro pre ⟨o, p⟩ post Γ1 hS ⟨a, b, last, rfl, hk⟩
    refine ⟨_, _, tg_tup (tgs_cons tg_name (tgs_cons tg_name tgs_nil)) rfl, ?_⟩
    refine sx_seq (sx_if (et_or (et_not (ev_inb rfl)) fun _ => et_or (et_test (ev_op (ev_var rfl) (ev_var rfl) rv_IB)) fun _ => et_or (et_test (ev_op (ev_var rfl) ev_int rv_IB)) fun _ => et_test (ev_op (ev_var rfl) ev_int rv_IB)) (fun hb => ?_) (fun hb => sx_next ?_))
    · refine fun B H σ D E' hd => hx C H ⟨?_, rfl⟩ E'.oh
      have e : okS 0 S = false := by
        rw [hS, hk]
        unfold okS
        simp only [Bool.or_eq_true, Bool.not_eq_true', decide_eq_true_eq] at hb
        rcases hb with hb | hb | hb | hb
        · rw [hb]; rfl
        · rw [decide_eq_false (show ¬ last < o by omega)]; simp
        · rw [decide_eq_false (show ¬ (0 : Int) ≤ p by omega)]; simp
        · rw [decide_eq_false (show ¬ p ≤ 1000000000000000000000000000000000000000000000000000000000000 by omega)]; simp
      unfold stockOk
      rw [e, Bool.and_false]
    · refine sx_asg (ev_var rfl) ⟨_, _, o, rfl, fun rest => ?_⟩
      rw [List.append_assoc, hk]
      show okS last ((o, p) :: rest) = okS o rest
      simp only [Bool.or_eq_false_iff, Bool.not_eq_false', decide_eq_false_iff_not] at hb
      obtain ⟨h1, h3, h4, h5⟩ := hb
      unfold okS
      rw [h1, decide_eq_true (show last < o by omega), decide_eq_true (show (0 : Int) ≤ p by omega), decide_eq_true (show p ≤ 1000000000000000000000000000000000000000000000000000000000000 by omega)]
      cases rest <;> rfl
  · rintro Γ1 ⟨a, b, last, rfl, hk⟩
    refine ⟨?_, rfl⟩
    unfold stockOk
    rw [decide_eq_true hlen, Bool.true_and]
    have := hk []
    rw [List.append_nil] at this
    rw [this]; rfl
/-! between -/
abbrev sp_between (K : PySem.W.Frag) : Sp := spD K (fun a : List (Int × Int) × Int × Int => [.dat (stockD a.1), .dat (.int a.2.1), .dat (.int a.2.2)]) (fun a => a.1.length ≤ 1000) (fun a d => d = stockD (betw a.1 a.2.1 a.2.2))
theorem rd_between (a : List (Int × Int) × Int × Int) (h : a.1.length ≤ 1000) : Sx K H0 (t_between K) ([.dat (stockD a.1), .dat (.int a.2.1), .dat (.int a.2.2)] ++ List.replicate (N_between.length - 3) .no) (poD K fun d => d = stockD (betw a.1 a.2.1 a.2.2)) := by
  obtain ⟨S, lo, hi⟩ := a
  refine sx_retP (en_lc (out := encP) (keep := fun p : Int × Int => decide (lo ≤ p.1) && decide (p.1 < hi)) S (wk_list (ev_var rfl)) (Nat.lt_of_le_of_lt h (by decide)) fun p hp => ?_).ev (fun d e => e) rfl
  exact ⟨_, _, tg_name, fun j h => h, et_test (ev_chain (ev_var rfl) (ev_op (ev_var rfl) ev_int (rv_ixT rfl)) rv_IB (fun _ => ev_var rfl) (fun _ => rv_IB)), fun _ => ev_var rfl⟩
theorem ev_between {t1 t2 t3 : TE} {Γ : List Item} {S : List (Int × Int)} {lo hi : Int} (h : S.length ≤ 1000) (h1 : Ev K H0 t1 Γ (stockD S)) (h2 : Ev K H0 t2 Γ (.int lo)) (h3 : Ev K H0 t3 Γ (.int hi)) : Ev K H0 (tCall (sp_between K) [] E0 (tCons t1 (tCons t2 (tCons t3 tNil)))) Γ (stockD (betw S lo hi)) :=
  ev_callD (S, lo, hi) (ea_cons h1 (ea_cons h2 (ea_cons h3 ea_nil))) h fun d e => e
/-! wish[place][k], wish[place + 1][k] -/
theorem ev_W {Γ : List Item} {t1 t2 : TE} {W : List Tri} {i : Nat} (hi : i < W.length) (h1 : Ev K H0 t1 Γ (wishD W)) (h2 : Ev K H0 t2 Γ (.int (i : Nat))) : Ev K H0 (tOp (rIxL K) t1 t2) Γ (encT (tri W i)) := ev_op h1 h2 (rv_ixL (at_W hi))
theorem ev_siz {Γ : List Item} {t : TE} {W : List Tri} {i : Nat} (h : Ev K H0 t Γ (encT (tri W i))) : Ev K H0 (tOp (rIxT K) t (tC (.int 0))) Γ (.int (siz W i)) := ev_op h ev_int (rv_ixT rfl)
theorem ev_man {Γ : List Item} {t : TE} {W : List Tri} {i : Nat} (h : Ev K H0 t Γ (encT (tri W i))) : Ev K H0 (tOp (rIxT K) t (tC (.int 1))) Γ (.int (man W i)) := ev_op h ev_int (rv_ixT rfl)
theorem ev_binW {Γ : List Item} {t : TE} {W : List Tri} {i : Nat} (h : Ev K H0 t Γ (encT (tri W i))) : Ev K H0 (tOp (rIxT K) t (tC (.int 2))) Γ (.int (bin W i)) := ev_op h ev_int (rv_ixT rfl)
theorem ev_succ {Γ : List Item} {t : TE} {i : Nat} (h : Ev K H0 t Γ (.int (i : Nat))) : Ev K H0 (tOp (rI0 fun i j => .int (i + j)) t (tC (.int 1))) Γ (.int ((i + 1 : Nat) : Int)) := ev_op h ev_int rv_II
theorem ev_lenW {Γ : List Item} {t : TE} {α : Type} {f : α → PyData} {l : List α} (h : Ev K H0 t Γ (.list (l.map f))) : Ev K H0 (tCB (rLenQ K) (tCons t tNil)) Γ (.int (l.length : Nat)) := (ev_lenL h).is (by rw [List.length_map])
theorem ev_pred {Γ : List Item} {t : TE} {n : Nat} (h : Ev K H0 t Γ (.int (n : Nat))) : Ev K H0 (tOp (rI0 fun i j => .int (i - j)) t (tC (.int 1))) Γ (.int ((n : Int) - 1)) := ev_op h ev_int rv_II
theorem wk_pred {Γ : List Item} {t : TE} {n : Nat} (h : Ev K H0 t Γ (.int (n : Nat))) (hn : n ≤ 1000) : Wk K H0 (iRng1 (tCons (tOp (rI0 fun i j => .int (i - j)) t (tC (.int 1))) tNil)) Γ ((List.range (n - 1)).map fun k : Nat => .int k) := by
  have h2 := wk_rng1 (ev_pred h) (by omega) (by omega)
  rw [show ((n : Int) - 1).toNat = n - 1 by omega] at h2
  exact h2
/-! borders_of -/
abbrev borders (W : List Tri) : List Nat := (List.range (W.length - 1)).filter fun i => !decide (bin W i = bin W (i + 1))
abbrev sp_borders_of (K : PySem.W.Frag) : Sp := spD K (fun W : List Tri => [.dat (wishD W)]) (fun W => W.length ≤ 1000) (fun W d => d = .list ((borders W).map fun i : Nat => .int i))
theorem rd_borders_of (W : List Tri) (h : W.length ≤ 1000) : Sx K H0 (t_borders_of K) ([.dat (wishD W)] ++ List.replicate (N_borders_of.length - 1) .no) (poD K fun d => d = .list ((borders W).map fun i : Nat => .int i)) := by
  refine sx_retP (en_lc (out := fun i : Nat => .int i) (keep := fun i => !decide (bin W i = bin W (i + 1))) (List.range (W.length - 1)) (wk_pred (ev_lenW (ev_var rfl)) h) (by rw [List.length_range]; omega) fun i hi => ?_).ev (fun d e => e) rfl
  have hi' : i < W.length - 1 := List.mem_range.mp hi
  exact ⟨_, _, tg_name, fun j h => h, et_test (ev_op (ev_binW (ev_W (by omega) (ev_var rfl) (ev_var rfl))) (ev_binW (ev_W (by omega) (ev_var rfl) (ev_succ (ev_var rfl)))) rv_neI), fun _ => ev_var rfl⟩
/-! shut_border -/
abbrev sp_shut_border (K : PySem.W.Frag) : Sp := spD K (fun a : List Tri × List (Int × Int) => [.dat (wishD a.1), .dat (stockD a.2)]) (fun a => a.1.length ≤ 1000 ∧ a.2.length ≤ 1000)
  (fun a d => d = match firstShut a.1 a.2 with | none => .list [] | some i => .list [encP (siz a.1 i, siz a.1 (i + 1))])
theorem rd_shut_border (a : List Tri × List (Int × Int)) (h : a.1.length ≤ 1000 ∧ a.2.length ≤ 1000) : Sx K H0 (t_shut_border K (sp_borders_of K) (sp_between K)) ([.dat (wishD a.1), .dat (stockD a.2)] ++ List.replicate (N_shut_border.length - 2) .no)
    (poD K fun d => d = match firstShut a.1 a.2 with | none => .list [] | some i => .list [encP (siz a.1 i, siz a.1 (i + 1))]) := by
  obtain ⟨W, S⟩ := a
  obtain ⟨h1, h2⟩ := h
  have h1 : W.length ≤ 1000 := h1
  have h2 : S.length ≤ 1000 := h2
  have fs : firstShut W S = (borders W).find? fun i => (betw S (siz W i) (siz W (i + 1))).isEmpty := by
    unfold firstShut shutP borders
    rw [List.find?_filter]
    congr 1
    funext i
    simp
    rw [show (betw S (siz W i) (siz W (i + 1))).isEmpty = decide (betw S (siz W i) (siz W (i + 1)) = []) from by cases betw S (siz W i) (siz W (i + 1)) <;> simp]
  refine sx_seq (sx_for (borders W) (wk_list (ev_callD W (ea_cons (ev_var rfl) ea_nil) h1 fun d e => e)) (fun pre Γ => ∃ c, Γ = [.dat (wishD W), .dat (stockD S), c] ∧ ∀ i ∈ pre, (betw S (siz W i) (siz W (i + 1))).isEmpty = false) ⟨.no, rfl, fun _ h => nomatch h⟩ ?_ ?_)
  · rintro pre i post Γ1 hb ⟨c, rfl, hp⟩
    have hm : i ∈ borders W := by rw [hb]; simp
    have hi : i < W.length - 1 := List.mem_range.mp (List.mem_filter.mp hm).1
    have w0 : Ev K H0 (tOp (rIxT K) (tOp (rIxL K) (tVar 0) (tVar 2)) (tC (.int 0))) [.dat (wishD W), .dat (stockD S), .dat (.int (i : Nat))] (.int (siz W i)) := ev_siz (ev_W (by omega) (ev_var rfl) (ev_var rfl))
    have w1 : Ev K H0 (tOp (rIxT K) (tOp (rIxL K) (tVar 0) (tOp (rI0 fun i j => .int (i + j)) (tVar 2) (tC (.int 1)))) (tC (.int 0))) [.dat (wishD W), .dat (stockD S), .dat (.int (i : Nat))] (.int (siz W (i + 1))) := ev_siz (ev_W (by omega) (ev_var rfl) (ev_succ (ev_var rfl)))
    refine ⟨_, _, tg_name, ?_⟩
    refine sx_if (b := (betw S (siz W i) (siz W (i + 1))).isEmpty) ((et_test (ev_op (ev_between h2 (ev_var rfl) w0 w1) (ev_lst (ds := []) ea_nil (by decide)) (rv_eqD (shaped_pairs _) (shaped_pairs [])))).is (eqv_nil _)) (fun hb' => ?_) (fun hb' => ?_)
    · refine sx_retP (ev_lst (ds := [encP (siz W i, siz W (i + 1))]) (ea_cons (ev_tup (ds := [.int (siz W i), .int (siz W (i + 1))]) (ea_cons w0 (ea_cons w1 ea_nil)) (len_ok rfl)) ea_nil) (len_ok rfl)) (fun d e => ?_) rfl
      have : firstShut W S = some i := by
        rw [fs, hb, List.find?_append, List.find?_eq_none.mpr (fun x hx => by rw [hp x hx]; decide)]
        simp [hb']
      rw [this]
      exact e
    · refine sx_next ⟨_, rfl, fun j hj => ?_⟩
      rcases List.mem_append.mp hj with hj | hj
      · exact hp j hj
      · rw [List.mem_singleton.mp hj]; exact hb'
  · rintro Γ1 ⟨c, rfl, hp⟩
    refine sx_retP (ev_lst (ds := []) ea_nil (by decide)) (fun d e => ?_) rfl
    have : firstShut W S = none := by
      rw [fs]
      exact List.find?_eq_none.mpr (fun x hx => by rw [hp x hx]; decide)
    rw [this]
    exact e
/-! cheapest_cuts -/
abbrev sp_cheapest_cuts (K : PySem.W.Frag) : Sp := spD K (fun a : List Tri × List (Int × Int) => [.dat (wishD a.1), .dat (stockD a.2)]) (fun a => a.1.length ≤ 1000 ∧ a.2.length ≤ 1000) (fun a d => d = cutsD a.1 a.2)
theorem cut_one {α : Type} (xs : List α) : cutG xs none (some 1) = xs.take 1 := by
  unfold cutG
  rw [HT.sIx_none]
  have := HT.sIx_nat xs.length xs.length 1
  rw [show (some (1 : Int)) = some ((1 : Nat) : Int) from rfl, this, List.drop_zero]
  cases xs with
  | nil => rfl
  | cons x xs => simp
theorem rd_cheapest_cuts (a : List Tri × List (Int × Int)) (h : a.1.length ≤ 1000 ∧ a.2.length ≤ 1000) : Sx K H0 (t_cheapest_cuts K (sp_between K)) ([.dat (wishD a.1), .dat (stockD a.2)] ++ List.replicate (N_cheapest_cuts.length - 2) .no) (poD K fun d => d = cutsD a.1 a.2) := by
  obtain ⟨W, S⟩ := a
  obtain ⟨h1, h2⟩ := h
  have h1 : W.length ≤ 1000 := h1
  have h2 : S.length ≤ 1000 := h2
  refine sx_seq (sx_newL (sx_seq ?_))
  refine sx_for (List.range (W.length - 1)) (wk_pred (ev_lenW (ev_var rfl)) h1) (fun pre Γ => ∃ a b c d, Γ = [.dat (wishD W), .dat (stockD S), .lst (pre.map fun i => pairsD (cutsAt W S i)), a, b, c, d] ∧ pre.length ≤ 1000) ⟨.no, .no, .no, .no, rfl, by decide⟩ ?_ ?_
  · rintro pre i post Γ1 hb ⟨a, b, c, d, rfl, hp⟩
    have hm : i ∈ List.range (W.length - 1) := by rw [hb]; simp
    have hi : i < W.length - 1 := List.mem_range.mp hm
    have hlen : pre.length + 1 ≤ W.length - 1 := by
      have := congrArg List.length hb
      rw [List.length_range, List.length_append, List.length_cons] at this
      omega
    refine ⟨_, _, tg_name, sx_seq (sx_asg (d := pairsD ((betw S (siz W i) (siz W (i + 1))).map fun p => (p.2, p.1))) ?_ ?_)⟩
    · refine ((en_map (out := fun p : Int × Int => encP (p.2, p.1)) (betw S (siz W i) (siz W (i + 1))) (wk_list (ev_between h2 (ev_var rfl) (ev_siz (ev_W (by omega) (ev_var rfl) (ev_var rfl))) (ev_siz (ev_W (by omega) (ev_var rfl) (ev_succ (ev_var rfl)))))) ?_ fun p hp => ?_).is ?_).ev
      · exact Nat.lt_of_le_of_lt (List.length_filter_le _ _) (by show S.length < _; omega)
      · exact ⟨_, _, tg_tup (tgs_cons tg_name (tgs_cons tg_name tgs_nil)) rfl, fun j h => by simpa using h, ev_tup (ds := [.int p.2, .int p.1]) (ea_cons (ev_var rfl) (ea_cons (ev_var rfl) ea_nil)) (len_ok rfl)⟩
      · rw [List.map_map]; rfl
    · refine sx_app (ds := pre.map fun i => pairsD (cutsAt W S i)) rfl (en_slice (ev_sortedD (ev_var rfl)) eo_none (eo_some ev_int)).ev (by rw [List.length_map]; omega) fun e he => ?_
      have e2 : (pre.map fun i => pairsD (cutsAt W S i)) ++ [e] = (pre ++ [i]).map fun i => pairsD (cutsAt W S i) := by
        rw [he, List.map_append, cut_map, cut_one]; rfl
      exact ⟨.dat (.int (i : Nat)), .dat (pairsD ((betw S (siz W i) (siz W (i + 1))).map fun p => (p.2, p.1))), c, d, by rw [← e2]; rfl, by rw [List.length_append]; show pre.length + 1 ≤ 1000; omega⟩
  · rintro Γ1 ⟨a, b, c, d, rfl, hp⟩
    exact sx_retL rfl fun v B H hv => ⟨_, rfl, hv⟩
/-! grains_from, has_one_bin -/
abbrev WijArgs : List Tri × Nat × Nat → List Item := fun a => [.dat (wishD a.1), .dat (.int (a.2.1 : Nat)), .dat (.int (a.2.2 : Nat))]
theorem en_slc {Γ : List Item} {t1 t2 t3 : TE} {W : List Tri} {i j : Nat} (h1 : Ev K H0 t1 Γ (wishD W)) (h2 : Ev K H0 t2 Γ (.int (i : Nat))) (h3 : Ev K H0 t3 Γ (.int (j : Nat))) :
    Ev K H0 (tSl (rSlL K) t1 (tPart t2) (tPart (tOp (rI0 fun i j => .int (i + j)) t3 (tC (.int 1))))) Γ (wishD (slc W i j)) :=
  ((en_slice h1 (eo_some h2) (eo_some (ev_op h3 ev_int rv_II))).is (cut_map encT W _ _)).ev
abbrev sp_grains_from (K : PySem.W.Frag) : Sp := spD K WijArgs (fun a => a.1.length ≤ 1000) (fun a d => d = .int (grains a.1 a.2.1 a.2.2))
theorem rd_grains_from (a : List Tri × Nat × Nat) (h : a.1.length ≤ 1000) : Sx K H0 (t_grains_from K) (WijArgs a ++ List.replicate (N_grains_from.length - 3) .no) (poD K fun d => d = .int (grains a.1 a.2.1 a.2.2)) := by
  obtain ⟨W, i, j⟩ := a
  have h : W.length ≤ 1000 := h
  refine sx_retP (ev_sum (ns := (slc W i j).map fun t => t.2.1) ?_) (fun d e => e) rfl
  refine ((en_map (out := fun t : Tri => .int t.2.1) (slc W i j) (wk_list (en_slc (ev_var rfl) (ev_var rfl) (ev_var rfl))) (Nat.lt_of_le_of_lt (cut_len W _ _) (by show W.length < _; omega)) fun t ht => ?_).is ?_).ev
  · exact ⟨_, _, tg_name, fun j h => h, ev_op (ev_var rfl) ev_int (rv_ixT rfl)⟩
  · rw [List.map_map]; rfl
abbrev sp_has_one_bin (K : PySem.W.Frag) : Sp := spD K WijArgs (fun a => a.1.length ≤ 1000) (fun a d => d = .bool (oneBin a.1 a.2.1 a.2.2))
theorem rd_has_one_bin (a : List Tri × Nat × Nat) (h : a.1.length ≤ 1000) : Sx K H0 (t_has_one_bin K) (WijArgs a ++ List.replicate (N_has_one_bin.length - 3) .no) (poD K fun d => d = .bool (oneBin a.1 a.2.1 a.2.2)) := by
  obtain ⟨W, i, j⟩ := a
  have h : W.length ≤ 1000 := h
  have hl : (slc W i j).length ≤ 1000 := Nat.le_trans (cut_len W _ _) h
  refine sx_retP (ev_op (ev_lenSet (ns := bins W i j) ?_ (by unfold bins; rw [List.length_map]; omega)) ev_int rv_eqI) (fun d e => e) rfl
  refine ((en_map (out := fun t : Tri => .int t.2.2) (slc W i j) (wk_list (en_slc (ev_var rfl) (ev_var rfl) (ev_var rfl))) (by omega) fun t ht => ?_).is ?_).ev
  · exact ⟨_, _, tg_name, fun j h => h, ev_op (ev_var rfl) ev_int (rv_ixT rfl)⟩
  · unfold bins; rw [List.map_map]; rfl
end
end K58
set_option Elab.async false
set_option linter.all false
set_option maxRecDepth 100000
set_option maxHeartbeats 1000000
namespace K58
open PySem PySem.Spec PyProof.Rows L2
/-! ### one bin -/
theorem fm_mem (f : Nat → Int) : ∀ n x, x ∈ PyProof.Rows.firstMet f n ↔ ∃ k, k < n ∧ f k = x
  | 0, x => by rw [PyProof.Rows.firstMet_zero]; simp
  | n + 1, x => by
    have ih := fm_mem f n
    rw [PyProof.Rows.firstMet_succ]
    unfold PyProof.Rows.step_dedup
    split
    · rename_i h
      obtain ⟨y, hy, ey⟩ := List.any_eq_true.mp h
      have ey : y = f n := eq_of_beq ey
      constructor
      · intro hx
        obtain ⟨k, hk, e⟩ := (ih x).mp hx
        exact ⟨k, by omega, e⟩
      · rintro ⟨k, hk, e⟩
        by_cases q : k = n
        · subst q; rw [← e, ← ey]; exact hy
        · exact (ih x).mpr ⟨k, by omega, e⟩
    · rw [List.mem_append, ih]
      constructor
      · rintro (⟨k, hk, e⟩ | h)
        · exact ⟨k, by omega, e⟩
        · exact ⟨n, by omega, (List.mem_singleton.mp h).symm⟩
      · rintro ⟨k, hk, e⟩
        by_cases q : k = n
        · subst q; exact .inr (by rw [← e]; exact List.mem_singleton_self _)
        · exact .inl ⟨k, by omega, e⟩
theorem fm_one (f : Nat → Int) : ∀ n, (∀ k, k ≤ n → f k = f 0) → PyProof.Rows.firstMet f (n + 1) = [f 0]
  | 0, _ => by rw [PyProof.Rows.firstMet_succ, PyProof.Rows.firstMet_zero]; simp [PyProof.Rows.step_dedup]
  | n + 1, h => by
    rw [PyProof.Rows.firstMet_succ, fm_one f n (fun k hk => h k (by omega))]
    simp [PyProof.Rows.step_dedup, h (n + 1) (Nat.le_refl _)]
theorem fm_len {f : Nat → Int} {n : Nat} (hn : 1 ≤ n) : (PyProof.Rows.firstMet f n).length = 1 ↔ ∀ k, k < n → f k = f 0 := by
  obtain ⟨m, rfl⟩ : ∃ m, n = m + 1 := ⟨n - 1, by omega⟩
  constructor
  · intro h k hk
    obtain ⟨a, e⟩ := List.length_eq_one_iff.mp h
    have h1 := (fm_mem f (m + 1) (f k)).mpr ⟨k, hk, rfl⟩
    have h2 := (fm_mem f (m + 1) (f 0)).mpr ⟨0, by omega, rfl⟩
    rw [e] at h1 h2
    rw [List.mem_singleton.mp h1, List.mem_singleton.mp h2]
  · intro h
    rw [fm_one f m (fun k hk => h k (by omega))]
    rfl
theorem slc_len {W : List Tri} {i j : Nat} (hij : i ≤ j) (hj : j < W.length) : (slc W i j).length = j + 1 - i := by
  rw [slc_eq hij hj, List.length_take, List.length_drop]
  omega
theorem slc_get {W : List Tri} {i j : Nat} (hij : i ≤ j) (hj : j < W.length) {k : Nat} (hk : i + k ≤ j) : (slc W i j)[k]? = some (tri W (i + k)) := by
  rw [slc_eq hij hj, List.getElem?_take, if_pos (by omega), List.getElem?_drop]
  unfold tri
  rw [List.getD_eq_getElem?_getD, List.getElem?_eq_getElem (by omega)] <;> rfl
theorem bins_get {W : List Tri} {i j : Nat} (hij : i ≤ j) (hj : j < W.length) {k : Nat} (hk : i + k ≤ j) : (bins W i j).getD k 0 = bin W (i + k) := by
  unfold bins
  rw [List.getD_eq_getElem?_getD, List.getElem?_map, slc_get hij hj hk] <;> rfl
theorem oneBin_iff {W : List Tri} {i j : Nat} (hij : i ≤ j) (hj : j < W.length) : oneBin W i j = true ↔ ∀ k, i ≤ k → k ≤ j → bin W k = bin W i := by
  have hl : (bins W i j).length = j + 1 - i := by unfold bins; rw [List.length_map, slc_len hij hj]
  unfold oneBin
  rw [decide_eq_true_iff, show ((PyProof.Rows.firstMet (fun k => (bins W i j).getD k 0) (bins W i j).length).length : Int) = 1 ↔ (PyProof.Rows.firstMet (fun k => (bins W i j).getD k 0) (bins W i j).length).length = 1 from by omega, hl, fm_len (by omega)]
  constructor
  · intro h k h1 h2
    have := h (k - i) (by omega)
    rw [bins_get hij hj (by omega), bins_get hij hj (by omega)] at this
    rw [show i + (k - i) = k by omega] at this
    exact this
  · intro h k hk
    show (bins W i j).getD k 0 = (bins W i j).getD 0 0
    rw [bins_get hij hj (by omega), bins_get hij hj (by omega)]
    exact (h _ (by omega) (by omega)).trans (h _ (by omega) (by omega)).symm
theorem border_in {W : List Tri} {i j : Nat} (hij : i ≤ j) (hj : j < W.length) (h : oneBin W i j = false) : ∃ k, i ≤ k ∧ k < j ∧ bin W k ≠ bin W (k + 1) := by
  by_cases q : ∃ k, i ≤ k ∧ k < j ∧ bin W k ≠ bin W (k + 1)
  · exact q
  · exfalso
    have all : ∀ m, i + m ≤ j → bin W (i + m) = bin W i := by
      intro m
      induction m with
      | zero => intro _; rfl
      | succ m ih =>
        intro hm
        have h1 := ih (by omega)
        by_cases e : bin W (i + m) = bin W (i + m + 1)
        · rw [show i + (m + 1) = i + m + 1 by omega, ← e, h1]
        · exact absurd ⟨i + m, by omega, by omega, e⟩ q
    have := (oneBin_iff hij hj).mpr fun k h1 h2 => by
      have := all (k - i) (by omega)
      rw [show i + (k - i) = k by omega] at this
      exact this
    rw [this] at h
    cases h
/-! ### the cheapest meshes -/
theorem le_PP : PySem.W.dataLe false encP = fun p q => decide (p.1 < q.1 ∨ (p.1 = q.1 ∧ p.2 ≤ q.2)) := PySem.W.dataLe_ii (β := Int × Int) (fun p => p.1) (fun p => p.2)
theorem le_tr (a b c : Int × Int) (h1 : PySem.W.dataLe false encP a b = true) (h2 : PySem.W.dataLe false encP b c = true) : PySem.W.dataLe false encP a c = true := by
  rw [le_PP] at *
  simp only [decide_eq_true_eq] at *
  omega
theorem le_tot (a b : Int × Int) : (PySem.W.dataLe false encP a b || PySem.W.dataLe false encP b a) = true := by
  rw [le_PP]
  simp only [Bool.or_eq_true, decide_eq_true_eq]
  omega
theorem sorted_PP (l : List (Int × Int)) : (l.mergeSort (PySem.W.dataLe false encP)).Pairwise fun a b => PySem.W.dataLe false encP a b = true := List.pairwise_mergeSort le_tr le_tot l
theorem cutsAt_mem {W : List Tri} {S : List (Int × Int)} {i : Nat} {c : Int × Int} (h : c ∈ cutsAt W S i) : (c.2, c.1) ∈ betw S (siz W i) (siz W (i + 1)) := by
  unfold cutsAt at h
  have h1 := List.mem_of_mem_take h
  rw [List.mem_mergeSort] at h1
  obtain ⟨p, hp, rfl⟩ := List.mem_map.mp h1
  exact hp
theorem cutsAt_le {W : List Tri} {S : List (Int × Int)} {i : Nat} {c : Int × Int} (h : c ∈ cutsAt W S i) {p : Int × Int} (hp : p ∈ betw S (siz W i) (siz W (i + 1))) : c.1 ≤ p.2 := by
  unfold cutsAt at h
  have hs := sorted_PP ((betw S (siz W i) (siz W (i + 1))).map fun p => (p.2, p.1))
  have hm : (p.2, p.1) ∈ ((betw S (siz W i) (siz W (i + 1))).map fun p => (p.2, p.1)).mergeSort (PySem.W.dataLe false encP) := by
    rw [List.mem_mergeSort]; exact List.mem_map.mpr ⟨p, hp, rfl⟩
  revert h hs hm
  generalize ((betw S (siz W i) (siz W (i + 1))).map fun p => (p.2, p.1)).mergeSort (PySem.W.dataLe false encP) = l
  intro h hs hm
  cases l with
  | nil => cases hm
  | cons x l =>
    have e : c = x := by simpa using h
    subst e
    rcases List.mem_cons.mp hm with hm | hm
    · rw [← hm]; exact Int.le_refl _
    · have := (List.pairwise_cons.mp hs).1 _ hm
      rw [le_PP] at this
      simp only [decide_eq_true_eq] at this
      omega
theorem cutsAt_one {W : List Tri} {S : List (Int × Int)} {i : Nat} (h : (betw S (siz W i) (siz W (i + 1))).isEmpty = false) : ∃ c, cutsAt W S i = [c] := by
  have hl : (((betw S (siz W i) (siz W (i + 1))).map fun p => (p.2, p.1)).mergeSort (PySem.W.dataLe false encP)).length = (betw S (siz W i) (siz W (i + 1))).length := by rw [List.length_mergeSort, List.length_map]
  unfold cutsAt
  revert hl
  generalize ((betw S (siz W i) (siz W (i + 1))).map fun p => (p.2, p.1)).mergeSort (PySem.W.dataLe false encP) = l
  intro hl
  cases l with
  | nil =>
    have : betw S (siz W i) (siz W (i + 1)) = [] := List.length_eq_zero_iff.mp hl.symm
    rw [this] at h
    cases h
  | cons x l => exact ⟨x, rfl⟩
theorem cutsAt_len (W : List Tri) (S : List (Int × Int)) (i : Nat) : (cutsAt W S i).length ≤ 1 := by
  unfold cutsAt
  rw [List.length_take]
  omega
/-! ### the least of pairs -/
def minF (a y : Int × Int) : Int × Int := if PySem.W.dataLt (encP y) (encP a) then y else a
def minL : List (Int × Int) → Int × Int
  | [] => (0, -1)
  | p :: ps => ps.foldl minF p
theorem minF_or (a y : Int × Int) : minF a y = a ∨ minF a y = y := by
  unfold minF
  split
  · exact .inr rfl
  · exact .inl rfl
theorem lt_PP (p q : Int × Int) : PySem.W.dataLt (encP p) (encP q) = decide (p.1 < q.1 ∨ (p.1 = q.1 ∧ p.2 < q.2)) := PySem.W.dataLt_ii ..
theorem minF_le (a y : Int × Int) : (minF a y).1 ≤ a.1 ∧ (minF a y).1 ≤ y.1 := by
  unfold minF
  rw [lt_PP]
  split
  · rename_i h
    simp only [decide_eq_true_eq] at h
    omega
  · rename_i h
    simp only [decide_eq_true_eq] at h
    omega
theorem fold_mem : ∀ (ps : List (Int × Int)) (p : Int × Int), ps.foldl minF p ∈ p :: ps
  | [], p => by simp
  | q :: ps, p => by
    rw [List.foldl_cons]
    have h := fold_mem ps (minF p q)
    rcases List.mem_cons.mp h with h | h
    · rw [h]
      rcases minF_or p q with e | e <;> rw [e] <;> simp
    · simp [h]
theorem fold_le : ∀ (ps : List (Int × Int)) (p : Int × Int), (∀ q ∈ p :: ps, (ps.foldl minF p).1 ≤ q.1)
  | [], p => by simp
  | q :: ps, p => by
    intro r hr
    rw [List.foldl_cons]
    have h := fold_le ps (minF p q)
    have h0 := h (minF p q) (by simp)
    have h1 := minF_le p q
    rcases List.mem_cons.mp hr with e | hr
    · subst e; omega
    · rcases List.mem_cons.mp hr with e | hr
      · subst e; omega
      · exact h r (by simp [hr])
theorem minL_mem {l : List (Int × Int)} (h : l ≠ []) : minL l ∈ l := by
  cases l with
  | nil => exact absurd rfl h
  | cons p ps => exact fold_mem ps p
theorem minL_le {l : List (Int × Int)} {q : Int × Int} (h : q ∈ l) : (minL l).1 ≤ q.1 := by
  cases l with
  | nil => cases h
  | cons p ps => exact fold_le ps p q h
theorem minD_P : ∀ (ps : List (Int × Int)) (p : Int × Int), PySem.W.minD (encP p) (ps.map encP) = encP (ps.foldl minF p)
  | [], p => rfl
  | q :: ps, p => by
    have h := minD_P ps (minF p q)
    unfold PySem.W.minD at h ⊢
    rw [List.map_cons, List.foldl_cons, List.foldl_cons, ← h]
    congr 1
    unfold minF
    split <;> rfl
/-! ### the table -/
def candP (W : List Tri) (S : List (Int × Int)) (T : Nat → Nat → Int) (g : Int) (i j : Nat) : List (Int × Int) :=
  (List.range (j - i)).flatMap fun k => (cutsAt W S (i + k)).map fun c => (c.1 * g + (T i (i + k) + T (i + k + 1) j), ((i + k : Nat) : Int))
theorem flat_congr {α β : Type} {f g : α → List β} : ∀ {l : List α}, (∀ x ∈ l, f x = g x) → l.flatMap f = l.flatMap g
  | [], _ => rfl
  | x :: l, h => by rw [List.flatMap_cons, List.flatMap_cons, h x List.mem_cons_self, flat_congr fun y hy => h y (List.mem_cons_of_mem _ hy)]
theorem candP_congr {W : List Tri} {S : List (Int × Int)} {T T' : Nat → Nat → Int} {g : Int} {i j : Nat} (h : ∀ k, k < j - i → T i (i + k) = T' i (i + k) ∧ T (i + k + 1) j = T' (i + k + 1) j) : candP W S T g i j = candP W S T' g i j := by
  unfold candP
  refine flat_congr fun k hk => ?_
  obtain ⟨h1, h2⟩ := h k (List.mem_range.mp hk)
  rw [h1, h2]
def tvF (W : List Tri) (S : List (Int × Int)) : Nat → Nat → Nat → Int × Int
  | 0, _, _ => (0, -1)
  | f + 1, i, j => if oneBin W i j then (0, -1) else minL (candP W S (fun a b => (tvF W S f a b).1) (grains W i j) i j)
theorem tvF_any (W : List Tri) (S : List (Int × Int)) : ∀ f g i j, j - i + 1 ≤ f → j - i + 1 ≤ g → tvF W S f i j = tvF W S g i j
  | 0, _, i, j, h, _ => by omega
  | _ + 1, 0, i, j, _, h => by omega
  | f + 1, g + 1, i, j, h1, h2 => by
    unfold tvF
    rw [candP_congr (T := fun a b => (tvF W S f a b).1) (T' := fun a b => (tvF W S g a b).1) fun k hk => ⟨by rw [tvF_any W S f g _ _ (by omega) (by omega)], by rw [tvF_any W S f g _ _ (by omega) (by omega)]⟩]
def tv (W : List Tri) (S : List (Int × Int)) (i j : Nat) : Int × Int := tvF W S (j - i + 1) i j
abbrev tn (W : List Tri) (S : List (Int × Int)) (i j : Nat) : Int := (tv W S i j).1
theorem tv_eq (W : List Tri) (S : List (Int × Int)) (i j : Nat) : tv W S i j = if oneBin W i j then (0, -1) else minL (candP W S (tn W S) (grains W i j) i j) := by
  show tvF W S (j - i + 1) i j = _
  unfold tvF
  rw [candP_congr (T' := tn W S) fun k hk => ⟨by rw [tvF_any W S (j - i) (i + k - i + 1) _ _ (by omega) (by omega)]; rfl, by rw [tvF_any W S (j - i) (j - (i + k + 1) + 1) _ _ (by omega) (by omega)]; rfl⟩]
theorem cand_mem {W : List Tri} {S : List (Int × Int)} {T : Nat → Nat → Int} {g : Int} {i j : Nat} {q : Int × Int} (h : q ∈ candP W S T g i j) : ∃ k c, k < j - i ∧ c ∈ cutsAt W S (i + k) ∧ q = (c.1 * g + (T i (i + k) + T (i + k + 1) j), ((i + k : Nat) : Int)) := by
  unfold candP at h
  obtain ⟨k, hk, h⟩ := List.mem_flatMap.mp h
  obtain ⟨c, hc, rfl⟩ := List.mem_map.mp h
  exact ⟨k, c, List.mem_range.mp hk, hc, rfl⟩
theorem cand_in {W : List Tri} {S : List (Int × Int)} {T : Nat → Nat → Int} {g : Int} {i j k : Nat} {c : Int × Int} (hk : k < j - i) (hc : c ∈ cutsAt W S (i + k)) : (c.1 * g + (T i (i + k) + T (i + k + 1) j), ((i + k : Nat) : Int)) ∈ candP W S T g i j :=
  List.mem_flatMap.mpr ⟨k, List.mem_range.mpr hk, List.mem_map.mpr ⟨c, hc, rfl⟩⟩
/-- no border is shut -/
theorem open_at {W : List Tri} {S : List (Int × Int)} (h : firstShut W S = none) {k : Nat} (hk : k + 1 < W.length) (hb : bin W k ≠ bin W (k + 1)) : (betw S (siz W k) (siz W (k + 1))).isEmpty = false := by
  have := List.find?_eq_none.mp h k (List.mem_range.mpr (by omega))
  unfold shutP at this
  rw [decide_eq_false hb] at this
  simpa using this
theorem cand_ne {W : List Tri} {S : List (Int × Int)} {T : Nat → Nat → Int} {g : Int} {i j : Nat} (h : firstShut W S = none) (hij : i ≤ j) (hj : j < W.length) (ho : oneBin W i j = false) : candP W S T g i j ≠ [] := by
  obtain ⟨k, h1, h2, h3⟩ := border_in hij hj ho
  obtain ⟨c, hc⟩ := cutsAt_one (open_at h (by omega) h3)
  have e : i + (k - i) = k := by omega
  have := cand_in (T := T) (g := g) (S := S) (W := W) (i := i) (j := j) (k := k - i) (c := c) (by omega) (by rw [e, hc]; exact List.mem_singleton_self _)
  intro z
  rw [z] at this
  cases this
end K58
set_option Elab.async false
set_option linter.all false
set_option maxRecDepth 100000
set_option maxHeartbeats 2000000
namespace K58
open PySem PySem.Spec PyProof.Rows L2
section
variable {K : PySem.W.Frag} {H0 : Hp}
/-! best_cut -/
abbrev Tab := List (List Key × V)
def hasT (kts : Tab) (i j : Nat) (z : Int) : Prop := valV kts [.inl (i : Int), .inl (j : Int)] = some (.int z)
structure BC where
  W : List Tri
  S : List (Int × Int)
  kts : Tab
  T : Nat → Nat → Int
  i : Nat
  j : Nat
  g : Int
def bcArgs (a : BC) : List Item := [.dat (cutsD a.W a.S), .bt a.kts, .dat (.int (a.i : Nat)), .dat (.int (a.j : Nat)), .dat (.int a.g)]
structure bcPre (a : BC) : Prop where
  hn : a.W.length ≤ 1000
  hij : a.i ≤ a.j
  hj : a.j < a.W.length
  hg : a.g.natAbs < 2 ^ 1000
  hp : ∀ k, ∀ c ∈ cutsAt a.W a.S k, c.1.natAbs < 2 ^ 1000
  ht : ∀ k, k < a.j - a.i → hasT a.kts a.i (a.i + k) (a.T a.i (a.i + k)) ∧ hasT a.kts (a.i + k + 1) a.j (a.T (a.i + k + 1) a.j)
  ne : candP a.W a.S a.T a.g a.i a.j ≠ []
abbrev sp_best_cut (K : PySem.W.Frag) : Sp := spD K bcArgs bcPre (fun a d => d = encP (minL (candP a.W a.S a.T a.g a.i a.j)))
theorem at_cuts {W : List Tri} {S : List (Int × Int)} {p : Nat} (h : p < W.length - 1) : atI ((List.range (W.length - 1)).map fun i => pairsD (cutsAt W S i)) (p : Int) = some (pairsD (cutsAt W S p)) := by
  have := at_map (fun i => pairsD (cutsAt W S i)) (List.range (W.length - 1)) 0 (i := p) (by rw [List.length_range]; exact h)
  rw [this, List.getD_eq_getElem?_getD, List.getElem?_range h] <;> rfl
theorem ev_cuts {Γ : List Item} {t1 t2 : TE} {W : List Tri} {S : List (Int × Int)} {p : Nat} (h : p < W.length - 1) (h1 : Ev K H0 t1 Γ (cutsD W S)) (h2 : Ev K H0 t2 Γ (.int (p : Nat))) : Ev K H0 (tOp (rIxL K) t1 t2) Γ (pairsD (cutsAt W S p)) := ev_op h1 h2 (rv_ixL (at_cuts h))
theorem eu_key {Γ : List Item} {t1 t2 : TE} {i j : Nat} (h1 : Ev K H0 t1 Γ (.int (i : Nat))) (h2 : Ev K H0 t2 Γ (.int (j : Nat))) : EvU K H0 (tTup (tCons t1 (tCons t2 tNil))) Γ [.int (i : Nat), .int (j : Nat)] := eu_tup (ds := [.int (i : Nat), .int (j : Nat)]) (ea_cons h1 (ea_cons h2 ea_nil)) (len_ok rfl)
theorem ev_get {Γ : List Item} {t1 t2 : TE} {x i j : Nat} {kts : Tab} {z : Int} (h : Γ[x]? = some (.dt kts) ∨ Γ[x]? = some (.bt kts)) (h1 : Ev K H0 t1 Γ (.int (i : Nat))) (h2 : Ev K H0 t2 Γ (.int (j : Nat))) (hz : hasT kts i j z) : Ev K H0 (tDGet (tVar x) (tTup (tCons t1 (tCons t2 tNil)))) Γ (.int z) := ev_dgetT h (eu_key h1 h2) hz
theorem mul_ok {a b : Int} (ha : a.natAbs < 2 ^ 1000) (hb : b.natAbs < 2 ^ 1000) : CMulW a b := wide_mul ha hb (by decide) (by decide) (by decide)
theorem rd_best_cut (a : BC) (h : bcPre a) : Sx K H0 (t_best_cut K) (bcArgs a ++ List.replicate (N_best_cut.length - (bcArgs a).length) .no) (poD K fun d => d = encP (minL (candP a.W a.S a.T a.g a.i a.j))) := by
  obtain ⟨W, S, kts, T, i, j, g⟩ := a
  obtain ⟨hn, hij, hj, hg, hp, ht, ne⟩ := h
  have hij : i ≤ j := hij
  have hn : W.length ≤ 1000 := hn
  have hj : j < W.length := hj
  let upto : List Nat → List (Int × Int) := fun pre => pre.flatMap fun k => (cutsAt W S (i + k)).map fun c => (c.1 * g + (T i (i + k) + T (i + k + 1) j), ((i + k : Nat) : Int))
  refine sx_seq (sx_newL (sx_seq ?_))
  have wk : ∀ {Γ : List Item}, Γ[2]? = some (.dat (.int (i : Nat))) → Γ[3]? = some (.dat (.int (j : Nat))) → Wk K H0 (iRng2 (tCons (tVar 2) (tCons (tVar 3) tNil))) Γ ((List.range (j - i)).map fun k : Nat => .int ((i + k : Nat) : Int)) := fun {Γ} e2 e3 => by
    have := wk_rng2 (K := K) (H0 := H0) (ev_var e2) (ev_var e3) (by omega) (by omega) (by omega) (by omega)
    rw [show ((j : Int) - (i : Int)).toNat = j - i by omega] at this
    exact this
  refine sx_for (List.range (j - i)) (wk rfl rfl) (fun pre Γ => ∃ x1 x2 x3 x4, Γ = [.dat (cutsD W S), .bt kts, .dat (.int (i : Nat)), .dat (.int (j : Nat)), .dat (.int g), .lst ((upto pre).map encP), x1, x2, x3, x4] ∧ (upto pre).length ≤ pre.length) ⟨.no, .no, .no, .no, rfl, Nat.le_refl _⟩ ?_ ?_
  · rintro pre k post Γ1 hb ⟨x1, x2, x3, x4, rfl, hl⟩
    have hm : k ∈ List.range (j - i) := by rw [hb]; simp
    have hk : k < j - i := List.mem_range.mp hm
    have hlen : pre.length + 1 ≤ j - i := by
      have := congrArg List.length hb
      rw [List.length_range, List.length_append, List.length_cons] at this
      omega
    obtain ⟨t1, t2⟩ := ht k hk
    refine ⟨_, _, tg_name, ?_⟩
    have up1 : ∀ l : List (Int × Int), upto (pre ++ [k]) = upto pre ++ (cutsAt W S (i + k)).map fun c => (c.1 * g + (T i (i + k) + T (i + k + 1) j), ((i + k : Nat) : Int)) := fun _ => by
      show (pre ++ [k]).flatMap _ = _
      rw [List.flatMap_append]
      simp [upto]
    refine sx_for (cutsAt W S (i + k)) (wk_list (ev_cuts (S := S) (by omega) (ev_var rfl) (ev_var rfl))) (fun prec Γ => ∃ x2 x3 x4, Γ = [.dat (cutsD W S), .bt kts, .dat (.int (i : Nat)), .dat (.int (j : Nat)), .dat (.int g), .lst ((upto pre ++ prec.map fun c => (c.1 * g + (T i (i + k) + T (i + k + 1) j), ((i + k : Nat) : Int))).map encP), .dat (.int ((i + k : Nat) : Int)), x2, x3, x4] ∧ prec.length ≤ 1) ⟨x2, x3, x4, by simp, by simp⟩ ?_ ?_
    · rintro prec c postc Γ2 hbc ⟨y2, y3, y4, rfl, hlc⟩
      have hcm : c ∈ cutsAt W S (i + k) := by rw [hbc]; simp
      have hcl : prec.length + 1 ≤ 1 := by
        have h1 := cutsAt_len W S (i + k)
        rw [hbc, List.length_append, List.length_cons] at h1
        omega
      refine ⟨_, _, tg_tup (tgs_cons tg_name (tgs_cons tg_name tgs_nil)) rfl, ?_⟩
      refine sx_seq (sx_asg (ev_op (ev_get (.inr rfl) (ev_var rfl) (ev_var rfl) t1) (ev_get (.inr rfl) (ev_succ (ev_var rfl)) (ev_var rfl) t2) rv_II) ?_)
      refine sx_app rfl (ev_tup (ds := [.int (c.1 * g + (T i (i + k) + T (i + k + 1) j)), .int ((i + k : Nat) : Int)]) (ea_cons (ev_op (ev_op (ev_var rfl) (ev_var rfl) (rv_CI (mul_ok (hp _ c hcm) hg))) (ev_var rfl) rv_II) (ea_cons (ev_var rfl) ea_nil)) (len_ok rfl)) (by rw [List.length_map, List.length_append, List.length_map]; omega) fun d hd => ?_
      refine ⟨.dat (.int c.1), .dat (.int c.2), .dat (.int (T i (i + k) + T (i + k + 1) j)), ?_, by rw [List.length_append]; exact hcl⟩
      have e2 : ((upto pre ++ prec.map fun c => (c.1 * g + (T i (i + k) + T (i + k + 1) j), ((i + k : Nat) : Int))).map encP) ++ [d] = ((upto pre ++ (prec ++ [c]).map fun c => (c.1 * g + (T i (i + k) + T (i + k + 1) j), ((i + k : Nat) : Int))).map encP) := by
        rw [hd, List.map_append, List.map_append, List.map_append, List.map_append, List.append_assoc]; rfl
      rw [← e2]; rfl
    · rintro Γ2 ⟨y2, y3, y4, rfl, hlc⟩
      refine ⟨.dat (.int ((i + k : Nat) : Int)), y2, y3, y4, by rw [up1 []], ?_⟩
      rw [up1 [], List.length_append, List.length_map, List.length_append]
      have := cutsAt_len W S (i + k)
      show _ ≤ pre.length + 1
      omega
  · rintro Γ1 ⟨x1, x2, x3, x4, rfl, hl⟩
    have e : upto (List.range (j - i)) = candP W S T g i j := rfl
    rw [e]
    refine sx_freeze (i := 5) rfl ?_
    revert ne
    show candP W S T g i j ≠ [] → _
    cases hc : candP W S T g i j with
    | nil => intro ne; exact absurd rfl ne
    | cons p ps =>
      intro _
      refine sx_retP (ev_min (x := encP p) (ds := ps.map encP) (ev_var rfl) ?_ ?_) (fun d e => ?_) rfl
      · refine ⟨fun x hx y hy => ?_, fun x hx => ?_⟩
        · obtain ⟨q, _, rfl⟩ := List.mem_map.mp (show x ∈ (p :: ps).map encP from hx)
          obtain ⟨r, _, rfl⟩ := List.mem_map.mp (show y ∈ (p :: ps).map encP from hy)
          simp [encP, PySem.W.alike, PySem.W.alikeAll]
        · obtain ⟨q, _, rfl⟩ := List.mem_map.mp (show x ∈ (p :: ps).map encP from hx)
          exact fun z => nomatch z
      · exact Nat.le_trans (depthAll_map encP 1 (fun x => by rw [dep_P] <;> omega) (p :: ps)) (by decide)
      · rw [e, minD_P]; rfl
end
end K58
set_option Elab.async false
set_option linter.all false
set_option maxRecDepth 100000
set_option maxHeartbeats 1000000
namespace K58
open PySem PySem.Spec PyProof.Rows L2
abbrev G60 : Int := 1000000000000000000000000000000000000000000000000000000000000
theorem inb_iff {n : Int} : inb n = true ↔ 1 ≤ n ∧ n ≤ G60 := by
  unfold inb
  rw [Bool.and_eq_true, decide_eq_true_iff, decide_eq_true_iff]
structure TriOk (t : Tri) : Prop where
  s1 : 1 ≤ t.1
  s2 : t.1 ≤ G60
  m1 : 1 ≤ t.2.1
  m2 : t.2.1 ≤ G60
  b1 : 0 ≤ t.2.2
  b2 : t.2.2 ≤ 5
theorem okW_iff : ∀ (W : List Tri) (last : Int), okW last W = true ↔ (∀ t ∈ W, TriOk t) ∧ W.Pairwise (fun a b => a.1 < b.1) ∧ ∀ t ∈ W, last < t.1
  | [], last => by simp [okW]
  | (s, m, n) :: r, last => by
    have ih := okW_iff r s
    unfold okW
    rw [Bool.and_eq_true, Bool.and_eq_true, Bool.and_eq_true, Bool.and_eq_true, Bool.and_eq_true, inb_iff, inb_iff, decide_eq_true_iff, decide_eq_true_iff, decide_eq_true_iff, ih]
    constructor
    · rintro ⟨⟨⟨⟨⟨h1, h2⟩, h3⟩, h4⟩, h5⟩, a, b, c⟩
      refine ⟨fun t ht => ?_, List.pairwise_cons.mpr ⟨fun t ht => c t ht, b⟩, fun t ht => ?_⟩
      · rcases List.mem_cons.mp ht with rfl | ht
        · exact ⟨h1.1, h1.2, h2.1, h2.2, h4, h5⟩
        · exact a t ht
      · rcases List.mem_cons.mp ht with rfl | ht
        · exact h3
        · exact Int.lt_trans h3 (c t ht)
    · rintro ⟨a, b, c⟩
      obtain ⟨b1, b2⟩ := List.pairwise_cons.mp b
      have h := a _ List.mem_cons_self
      exact ⟨⟨⟨⟨⟨⟨h.s1, h.s2⟩, ⟨h.m1, h.m2⟩⟩, c _ List.mem_cons_self⟩, h.b1⟩, h.b2⟩, fun t ht => a t (List.mem_cons_of_mem _ ht), b2, b1⟩
structure PrOk (p : Int × Int) : Prop where
  o1 : 1 ≤ p.1
  o2 : p.1 ≤ G60
  p1 : 0 ≤ p.2
  p2 : p.2 ≤ G60
theorem okS_iff : ∀ (S : List (Int × Int)) (last : Int), okS last S = true ↔ (∀ t ∈ S, PrOk t) ∧ S.Pairwise (fun a b => a.1 < b.1) ∧ ∀ t ∈ S, last < t.1
  | [], last => by simp [okS]
  | (o, p) :: r, last => by
    have ih := okS_iff r o
    unfold okS
    rw [Bool.and_eq_true, Bool.and_eq_true, Bool.and_eq_true, Bool.and_eq_true, inb_iff, decide_eq_true_iff, decide_eq_true_iff, decide_eq_true_iff, ih]
    constructor
    · rintro ⟨⟨⟨⟨h1, h3⟩, h4⟩, h5⟩, a, b, c⟩
      refine ⟨fun t ht => ?_, List.pairwise_cons.mpr ⟨fun t ht => c t ht, b⟩, fun t ht => ?_⟩
      · rcases List.mem_cons.mp ht with rfl | ht
        · exact ⟨h1.1, h1.2, h4, h5⟩
        · exact a t ht
      · rcases List.mem_cons.mp ht with rfl | ht
        · exact h3
        · exact Int.lt_trans h3 (c t ht)
    · rintro ⟨a, b, c⟩
      obtain ⟨b1, b2⟩ := List.pairwise_cons.mp b
      have h := a _ List.mem_cons_self
      exact ⟨⟨⟨⟨⟨h.o1, h.o2⟩, c _ List.mem_cons_self⟩, h.p1⟩, h.p2⟩, fun t ht => a t (List.mem_cons_of_mem _ ht), b2, b1⟩
structure WOk (W : List Tri) : Prop where
  l1 : 1 ≤ W.length
  l2 : W.length ≤ 20
  all : ∀ t ∈ W, TriOk t
  up : W.Pairwise (fun a b => a.1 < b.1)
theorem wishOk_iff {W : List Tri} : wishOk W = true ↔ WOk W := by
  unfold wishOk
  rw [Bool.and_eq_true, decide_eq_true_iff, okW_iff]
  constructor
  · rintro ⟨⟨a, b⟩, c, d, _⟩; exact ⟨a, b, c, d⟩
  · rintro ⟨a, b, c, d⟩; exact ⟨⟨a, b⟩, c, d, fun t ht => by have := (c t ht).s1; omega⟩
structure SOk (S : List (Int × Int)) : Prop where
  l2 : S.length ≤ 30
  all : ∀ t ∈ S, PrOk t
  up : S.Pairwise (fun a b => a.1 < b.1)
theorem stockOk_iff {S : List (Int × Int)} : stockOk S = true ↔ SOk S := by
  unfold stockOk
  rw [Bool.and_eq_true, decide_eq_true_iff, okS_iff]
  constructor
  · rintro ⟨a, c, d, _⟩; exact ⟨a, c, d⟩
  · rintro ⟨a, c, d⟩; exact ⟨a, c, d, fun t ht => by have := (c t ht).o1; omega⟩
theorem tri_mem {W : List Tri} {i : Nat} (h : i < W.length) : tri W i ∈ W := by
  unfold tri
  rw [List.getD_eq_getElem?_getD, List.getElem?_eq_getElem h]
  exact List.getElem_mem h
theorem WOk.tri {W : List Tri} (w : WOk W) {i : Nat} (h : i < W.length) : TriOk (tri W i) := w.all _ (tri_mem h)
theorem WOk.lt {W : List Tri} (w : WOk W) {i j : Nat} (hij : i < j) (h : j < W.length) : siz W i < siz W j := by
  have := List.pairwise_iff_getElem.mp w.up i j (by omega) h hij
  unfold siz K58.tri
  rw [List.getD_eq_getElem?_getD, List.getElem?_eq_getElem (by omega : i < W.length), List.getD_eq_getElem?_getD, List.getElem?_eq_getElem h]
  exact this
theorem betw_S {S : List (Int × Int)} {lo hi : Int} {p : Int × Int} (h : p ∈ betw S lo hi) : p ∈ S ∧ lo ≤ p.1 ∧ p.1 < hi := by
  unfold betw at h
  obtain ⟨h1, h2⟩ := List.mem_filter.mp h
  simp only [Bool.and_eq_true, decide_eq_true_eq] at h2
  exact ⟨h1, h2.1, h2.2⟩
theorem betw_of {S : List (Int × Int)} {lo hi : Int} {p : Int × Int} (h : p ∈ S) (h1 : lo ≤ p.1) (h2 : p.1 < hi) : p ∈ betw S lo hi := by
  unfold betw
  refine List.mem_filter.mpr ⟨h, ?_⟩
  simp only [Bool.and_eq_true, decide_eq_true_eq]
  exact ⟨h1, h2⟩
theorem cutsAt_ok {W : List Tri} {S : List (Int × Int)} (s : SOk S) {k : Nat} {c : Int × Int} (h : c ∈ cutsAt W S k) : PrOk (c.2, c.1) := s.all _ (betw_S (cutsAt_mem h)).1
theorem big {n : Int} (h0 : 0 ≤ n) (h : n ≤ 1000 * G60) : n.natAbs < 2 ^ 1000 := by
  have : (n.natAbs : Int) = n := Int.natAbs_of_nonneg h0
  have h2 : (1000 * G60 : Int) < 2 ^ 1000 := by decide +kernel
  have h3 : (n.natAbs : Int) < ((2 ^ 1000 : Nat) : Int) := by
    rw [this]
    exact Int.lt_of_le_of_lt h (by exact_mod_cast h2)
  omega
theorem sum_bound {l : List Int} {c : Int} (h : ∀ x ∈ l, 0 ≤ x ∧ x ≤ c) (hc : 0 ≤ c) : 0 ≤ l.sum ∧ l.sum ≤ l.length * c := by
  induction l with
  | nil => simp
  | cons x l ih =>
    have h1 := h x List.mem_cons_self
    have h2 := ih fun y hy => h y (List.mem_cons_of_mem _ hy)
    rw [List.sum_cons, List.length_cons]
    have : ((l.length + 1 : Nat) : Int) * c = (l.length : Int) * c + c := by rw [Int.natCast_add, Int.add_mul]; simp
    omega
theorem slc_mem {W : List Tri} {i j : Nat} {t : Tri} (h : t ∈ slc W i j) : t ∈ W := by
  unfold slc cutG at h
  exact List.mem_of_mem_drop (List.mem_of_mem_take h)
theorem grains_bound {W : List Tri} (w : WOk W) (i j : Nat) : 0 ≤ grains W i j ∧ grains W i j ≤ 1000 * G60 := by
  have h := sum_bound (l := (slc W i j).map fun t => t.2.1) (c := G60) (fun x hx => by
    obtain ⟨t, ht, rfl⟩ := List.mem_map.mp hx
    have := w.all t (slc_mem ht)
    exact ⟨by have := this.m1; omega, this.m2⟩) (by decide)
  rw [List.length_map] at h
  have hl : (slc W i j).length ≤ W.length := cut_len W _ _
  have h2 : ((slc W i j).length : Int) * G60 ≤ 1000 * G60 := Int.mul_le_mul_of_nonneg_right (by have := w.l2; omega) (by decide)
  exact ⟨h.1, Int.le_trans h.2 h2⟩
/-! the place of the first mesh -/
theorem tv_one {W : List Tri} {S : List (Int × Int)} {i j : Nat} (h : oneBin W i j = true) : tv W S i j = (0, -1) := by rw [tv_eq, if_pos h]
theorem tv_cut {W : List Tri} {S : List (Int × Int)} {i j : Nat} (hs : firstShut W S = none) (hij : i ≤ j) (hj : j < W.length) (h : oneBin W i j = false) : ∃ k c, i ≤ k ∧ k < j ∧ cutsAt W S k = [c] ∧ tv W S i j = (c.1 * grains W i j + (tn W S i k + tn W S (k + 1) j), (k : Int)) := by
  have e : tv W S i j = minL (candP W S (tn W S) (grains W i j) i j) := by rw [tv_eq, if_neg (by rw [h]; decide)]
  have hm := minL_mem (cand_ne (T := tn W S) (g := grains W i j) hs hij hj h)
  rw [← e] at hm
  obtain ⟨k, c, hk, hc, eq⟩ := cand_mem hm
  have hl := cutsAt_len W S (i + k)
  refine ⟨i + k, c, by omega, by omega, ?_, eq⟩
  cases hq : cutsAt W S (i + k) with
  | nil => rw [hq] at hc; cases hc
  | cons x l =>
    rw [hq] at hl hc
    have : l = [] := List.length_eq_zero_iff.mp (by rw [List.length_cons] at hl; omega)
    subst this
    rw [List.mem_singleton.mp hc]
theorem tv_le {W : List Tri} {S : List (Int × Int)} {i j k : Nat} (h : oneBin W i j = false) (h1 : i ≤ k) (h2 : k < j) {c : Int × Int} (hc : c ∈ cutsAt W S k) : tn W S i j ≤ c.1 * grains W i j + (tn W S i k + tn W S (k + 1) j) := by
  have e : tv W S i j = minL (candP W S (tn W S) (grains W i j) i j) := by rw [tv_eq, if_neg (by rw [h]; decide)]
  show (tv W S i j).1 ≤ _
  rw [e]
  have := cand_in (T := tn W S) (g := grains W i j) (S := S) (W := W) (i := i) (j := j) (k := k - i) (c := c) (by omega) (by rw [show i + (k - i) = k by omega]; exact hc)
  rw [show i + (k - i) = k by omega] at this
  exact minL_le this
end K58
set_option Elab.async false
set_option linter.all false
set_option maxRecDepth 100000
set_option maxHeartbeats 2000000
namespace K58
open PySem PySem.Spec PyProof.Rows L2
section
variable {K : PySem.W.Frag} {H0 : Hp}
theorem ev_one {t1 t2 t3 : TE} {Γ : List Item} {W : List Tri} {i j : Nat} (h : W.length ≤ 1000) (h1 : Ev K H0 t1 Γ (wishD W)) (h2 : Ev K H0 t2 Γ (.int (i : Nat))) (h3 : Ev K H0 t3 Γ (.int (j : Nat))) : Ev K H0 (tCall (sp_has_one_bin K) [] E0 (tCons t1 (tCons t2 (tCons t3 tNil)))) Γ (.bool (oneBin W i j)) :=
  ev_callD (W, i, j) (ea_cons h1 (ea_cons h2 (ea_cons h3 ea_nil))) h fun d e => e
theorem ev_grains {t1 t2 t3 : TE} {Γ : List Item} {W : List Tri} {i j : Nat} (h : W.length ≤ 1000) (h1 : Ev K H0 t1 Γ (wishD W)) (h2 : Ev K H0 t2 Γ (.int (i : Nat))) (h3 : Ev K H0 t3 Γ (.int (j : Nat))) : Ev K H0 (tCall (sp_grains_from K) [] E0 (tCons t1 (tCons t2 (tCons t3 tNil)))) Γ (.int (grains W i j)) :=
  ev_callD (W, i, j) (ea_cons h1 (ea_cons h2 (ea_cons h3 ea_nil))) h fun d e => e
theorem wk_nat {Γ : List Item} {t : TE} {n : Nat} (h : Ev K H0 t Γ (.int (n : Nat))) (hn : n ≤ 1000) : Wk K H0 (iRng1 (tCons t tNil)) Γ ((List.range n).map fun k : Nat => .int k) := wk_rng1 h (by omega) (by omega)
theorem wk_sub {Γ : List Item} {t u : TE} {m n : Nat} (h : Ev K H0 t Γ (.int (n : Nat))) (h2 : Ev K H0 u Γ (.int (m : Nat))) (hn : n ≤ 1000) (hm : m ≤ n) : Wk K H0 (iRng1 (tCons (tOp (rI0 fun i j => .int (i - j)) t u) tNil)) Γ ((List.range (n - m)).map fun k : Nat => .int k) := by
  have h3 := wk_rng1 (K := K) (H0 := H0) (ev_op h h2 (rv_II (g := fun i j => i - j))) (by omega) (by omega)
  rw [show ((n : Int) - (m : Int)).toNat = n - m by omega] at h3
  exact h3
/-- the two dicts go back in a new tuple -/
theorem sx_retTT {Γ : List Item} {φ : Po} {i j : Nat} {tab plc : Tab} (hi : Γ[i]? = some (.dt tab)) (hj : Γ[j]? = some (.dt plc)) (hne : i ≠ j)
    (k : ∀ p t q B H, H p = some (.tup [.ref t, .ref q]) → t ≠ q → H0 t = none → H0 q = none → B t = none → B q = none → H t = some (.dT tab) → H q = some (.dT plc) → φ.rt (.ref p) B H) : Sx K H0 (tRet (tTup (tCons (tVar i) (tCons (tVar j) tNil)))) Γ φ := fun B H σ D E hd => by
  obtain ⟨o, a, t, e, z0, zb, zh⟩ := E.at_ i _ hi
  subst e
  obtain ⟨o, b, q, e, y0, yb, yh⟩ := E.at_ j _ hj
  subst e
  have ne : t ≠ q := fun w => hne (E.sep i j _ _ q hi hj rfl rfl (by rw [← w]; exact a) b)
  refine ⟨_, a, _, b, by show 2 ≤ sizeLine; decide, fun p hp => ?_⟩
  exact hd.rt (.ref p) B _ (k p t q B _ upd_same ne z0 y0 zb yb (by rw [upd_ne (ne_of_none zh hp)]; exact zh) (by rw [upd_ne (ne_of_none yh hp)]; exact yh)) Rch.refl (E.ob.trans (same_new hp)) (E.oh.trans (same_new hp))
/-! cut_table -/
theorem hasT_put {kts : Tab} {i j i' j' : Nat} {z z' : Int} : hasT (putK kts [.inl (i : Int), .inl (j : Int)] (.int z)) i' j' z' ↔ (if i' = i ∧ j' = j then z = z' else hasT kts i' j' z') := by
  unfold hasT
  rw [valV_put]
  by_cases h : i' = i ∧ j' = j
  · rw [if_pos h, if_pos (by rw [h.1, h.2])]
    simp
  · rw [if_neg h, if_neg (fun e => h (by
      have e1 := List.cons.inj e
      have e2 := Sum.inl.inj e1.1
      have e3 := Sum.inl.inj (List.cons.inj e1.2).1
      exact ⟨by omega, by omega⟩))]
structure Good (W : List Tri) (S : List (Int × Int)) : Prop where
  w : WOk W
  s : SOk S
  o : firstShut W S = none
abbrev WS := List Tri × List (Int × Int)
def full (W : List Tri) (S : List (Int × Int)) (tab plc : Tab) : Prop := ∀ i j, i ≤ j → j < W.length → hasT tab i j (tn W S i j) ∧ hasT plc i j (tv W S i j).2
def ctArgs (a : WS) : List Item := [.dat (wishD a.1), .dat (cutsD a.1 a.2)]
def ctPost (a : WS) (H : Hp) (v : V) (B2 H2 : Hp) : Prop := ∃ p t q tab plc, v = .ref p ∧ H2 p = some (.tup [.ref t, .ref q]) ∧ t ≠ q ∧ H t = none ∧ H q = none ∧ B2 t = none ∧ B2 q = none ∧ H2 t = some (.dT tab) ∧ H2 q = some (.dT plc) ∧ full a.1 a.2 tab plc
abbrev sp_cut_table (K : PySem.W.Frag) : Sp := spF K ctArgs (fun a => Good a.1 a.2) ctPost noex
def part (W : List Tri) (S : List (Int × Int)) (w f : Nat) (tab plc : Tab) : Prop := ∀ i j, i ≤ j → j < W.length → (j - i < w ∨ (j - i = w ∧ i < f)) → hasT tab i j (tn W S i j) ∧ hasT plc i j (tv W S i j).2
theorem part_put {W : List Tri} {S : List (Int × Int)} {w f : Nat} {tab plc : Tab} (h : part W S w f tab plc) {z y : Int} (hz : z = tn W S f (f + w)) (hy : y = (tv W S f (f + w)).2) :
    part W S w (f + 1) (putK tab [.inl (f : Int), .inl ((f + w : Nat) : Int)] (.int z)) (putK plc [.inl (f : Int), .inl ((f + w : Nat) : Int)] (.int y)) := by
  intro i j hij hj hc
  rw [hasT_put, hasT_put]
  by_cases e : i = f ∧ j = f + w
  · rw [if_pos e, if_pos e, hz, hy, e.1, e.2]
    exact ⟨rfl, rfl⟩
  · rw [if_neg e, if_neg e]
    exact h i j hij hj (by omega)
theorem rd_cut_table (a : WS) (h : Good a.1 a.2) : Sx K H0 (t_cut_table K (sp_has_one_bin K) (sp_best_cut K) (sp_grains_from K)) (ctArgs a ++ List.replicate (N_cut_table.length - (ctArgs a).length) .no) { nx := fun _ => ∀ B' H', ctPost a H0 .non B' H', rt := ctPost a H0 } := by
  obtain ⟨W, S⟩ := a
  obtain ⟨w, s, o⟩ := h
  have w : WOk W := w
  have s : SOk S := s
  have o : firstShut W S = none := o
  have hn : W.length ≤ 20 := w.l2
  refine sx_seq (sx_newT (sx_seq (sx_newT (sx_seq ?_))))
  refine sx_for (List.range W.length) (wk_nat (ev_lenW (ev_var rfl)) (by omega)) (fun pre Γ => ∃ tab plc x1 x2 x3 x4, Γ = [.dat (wishD W), .dat (cutsD W S), .dt tab, .dt plc, x1, x2, x3, x4] ∧ part W S pre.length 0 tab plc ∧ tab.length ≤ 1000 * pre.length ∧ plc.length ≤ 1000 * pre.length) ⟨[], [], .no, .no, .no, .no, rfl, fun i j h1 h2 h3 => by simp at h3, by simp, by simp⟩ ?_ ?_
  · rintro pre wd post Γ1 hb ⟨tab0, plc0, x1, x2, x3, x4, rfl, hp0, ht0, hq0⟩
    have hw : wd = pre.length := by
      have := congrArg (fun l => l[pre.length]?) hb
      simp only [List.getElem?_append_right (Nat.le_refl _), Nat.sub_self] at this
      have hl : pre.length < W.length := by
        have := congrArg List.length hb
        rw [List.length_range, List.length_append, List.length_cons] at this
        omega
      rw [List.getElem?_range hl] at this
      simpa using this.symm
    have hl : pre.length < W.length := by
      have := congrArg List.length hb
      rw [List.length_range, List.length_append, List.length_cons] at this
      omega
    subst hw
    refine ⟨_, _, tg_name, ?_⟩
    refine sx_for (List.range (W.length - pre.length)) (wk_sub (ev_lenW (ev_var rfl)) (ev_var rfl) (by omega) (by omega)) (fun pf Γ => ∃ tab plc x2 x3 x4, Γ = [.dat (wishD W), .dat (cutsD W S), .dt tab, .dt plc, .dat (.int (pre.length : Nat)), x2, x3, x4] ∧ part W S pre.length pf.length tab plc ∧ tab.length ≤ 1000 * pre.length + pf.length ∧ plc.length ≤ 1000 * pre.length + pf.length) ⟨tab0, plc0, x2, x3, x4, rfl, hp0, by simpa using ht0, by simpa using hq0⟩ ?_ ?_
    · rintro pf f postf Γ2 hbf ⟨tab, plc, y2, y3, y4, rfl, hp, ht, hq⟩
      have hlf : pf.length < W.length - pre.length := by
        have := congrArg List.length hbf
        rw [List.length_range, List.length_append, List.length_cons] at this
        omega
      have hf : f = pf.length := by
        have := congrArg (fun l => l[pf.length]?) hbf
        simp only [List.getElem?_append_right (Nat.le_refl _), Nat.sub_self] at this
        rw [List.getElem?_range hlf] at this
        simpa using this.symm
      subst hf
      have fin : ∀ z y : Int, z = tn W S pf.length (pf.length + pre.length) → y = (tv W S pf.length (pf.length + pre.length)).2 → ∀ u3 u4, ∃ tab' plc' x2 x3 x4, ([.dat (wishD W), .dat (cutsD W S), .dt (putK tab [.inl (pf.length : Int), .inl ((pf.length + pre.length : Nat) : Int)] (.int z)), .dt (putK plc [.inl (pf.length : Int), .inl ((pf.length + pre.length : Nat) : Int)] (.int y)), .dat (.int (pre.length : Nat)), .dat (.int (pf.length : Nat)), u3, u4] : List Item) = [.dat (wishD W), .dat (cutsD W S), .dt tab', .dt plc', .dat (.int (pre.length : Nat)), x2, x3, x4] ∧ part W S pre.length (pf ++ [pf.length]).length tab' plc' ∧ tab'.length ≤ 1000 * pre.length + (pf ++ [pf.length]).length ∧ plc'.length ≤ 1000 * pre.length + (pf ++ [pf.length]).length := fun z y hz hy u3 u4 => by
        refine ⟨_, _, _, u3, u4, rfl, ?_, ?_, ?_⟩
        · rw [List.length_append]; exact part_put hp hz hy
        · rw [List.length_append]
          have := length_putK tab [.inl (pf.length : Int), .inl ((pf.length + pre.length : Nat) : Int)] (.int z)
          show _ ≤ _ + (pf.length + 1)
          omega
        · rw [List.length_append]
          have := length_putK plc [.inl (pf.length : Int), .inl ((pf.length + pre.length : Nat) : Int)] (.int y)
          show _ ≤ _ + (pf.length + 1)
          omega
      refine ⟨_, _, tg_name, ?_⟩
      refine sx_seq (sx_asg (d := .int ((pf.length + pre.length : Nat) : Int)) (ev_op (ev_var rfl) (ev_var rfl) rv_II) ?_)
      refine sx_if (et_B (ev_one (by omega) (ev_var rfl) (ev_var rfl) (ev_var rfl))) (fun ho => ?_) (fun ho => ?_)
      · have tv1 : tv W S pf.length (pf.length + pre.length) = (0, -1) := tv_one ho
        refine sx_seq (sx_putT rfl ev_int (eu_key (ev_var rfl) (ev_var rfl)) (by omega) ?_)
        refine sx_putT rfl (z := -1) (fun B H σ E Q q => ?_) (eu_key (ev_var rfl) (ev_var rfl)) (by omega) ?_
        · exact ⟨1, rfl, q _ _ B H rfl (Stp.refl E.ob) (.int _)⟩
        · exact fin 0 (-1) (by rw [tn, tv1]) (by rw [tv1]) _ _
      · have gb := grains_bound w pf.length (pf.length + pre.length)
        have bp : bcPre ⟨W, S, tab, tn W S, pf.length, pf.length + pre.length, grains W pf.length (pf.length + pre.length)⟩ := by
          refine ⟨by show W.length ≤ 1000; omega, by show pf.length ≤ pf.length + pre.length; omega, by show pf.length + pre.length < W.length; omega, big gb.1 gb.2, fun k c hc => ?_, fun k hk => ?_, ?_⟩
          · have h1 := (cutsAt_ok s hc).p1
            have h2 := (cutsAt_ok s hc).p2
            have h1 : 0 ≤ c.1 := h1
            have h2 : c.1 ≤ G60 := h2
            exact big h1 (by omega)
          · have hk : k < pf.length + pre.length - pf.length := hk
            exact ⟨(show hasT tab pf.length (pf.length + k) (tn W S pf.length (pf.length + k)) from (hp _ _ (by omega) (by omega) (by omega)).1), (show hasT tab (pf.length + k + 1) (pf.length + pre.length) (tn W S (pf.length + k + 1) (pf.length + pre.length)) from (hp _ _ (by omega) (by omega) (by omega)).1)⟩
          · show candP W S (tn W S) (grains W pf.length (pf.length + pre.length)) pf.length (pf.length + pre.length) ≠ []
            exact cand_ne o (by omega) (by omega) ho
        refine sx_seq (sx_asg (d := encP (tv W S pf.length (pf.length + pre.length))) (ev_callD ⟨W, S, tab, tn W S, pf.length, pf.length + pre.length, grains W pf.length (pf.length + pre.length)⟩ (ea_cons (ev_var rfl) (ea_consD (.inl rfl) (ea_cons (ev_var rfl) (ea_cons (ev_var rfl) (ea_cons (ev_grains (by omega) (ev_var rfl) (ev_var rfl) (ev_var rfl)) ea_nil))))) bp fun d e => ?_) ?_)
        · rw [e, tv_eq, if_neg (by rw [ho]; decide)]
        · refine sx_seq (sx_putT rfl (ev_op (ev_var rfl) ev_int (rv_ixT rfl)) (eu_key (ev_var rfl) (ev_var rfl)) (by omega) ?_)
          refine sx_putT rfl (ev_op (ev_var rfl) ev_int (rv_ixT rfl)) (eu_key (ev_var rfl) (ev_var rfl)) (by omega) ?_
          exact fin (tv W S pf.length (pf.length + pre.length)).1 (tv W S pf.length (pf.length + pre.length)).2 rfl rfl _ _
    · rintro Γ2 ⟨tab, plc, y2, y3, y4, rfl, hp, ht, hq⟩
      rw [List.length_range] at hp ht hq
      refine ⟨tab, plc, _, y2, y3, y4, rfl, ?_, ?_, ?_⟩
      · rw [List.length_append]
        intro i j h1 h2 h3
        refine hp i j h1 h2 ?_
        have h3 : j - i < pre.length + 1 ∨ (j - i = pre.length + 1 ∧ i < 0) := h3
        omega
      · rw [List.length_append]; show _ ≤ 1000 * (pre.length + 1); omega
      · rw [List.length_append]; show _ ≤ 1000 * (pre.length + 1); omega
  · rintro Γ1 ⟨tab, plc, x1, x2, x3, x4, rfl, hp, ht, hq⟩
    rw [List.length_range] at hp
    refine sx_retTT (i := 2) (j := 3) rfl rfl (by decide) fun p t q B H h1 h2 h3 h4 h5 h6 h7 h8 => ⟨p, t, q, tab, plc, rfl, h1, h2, h3, h4, h5, h6, h7, h8, fun i j a b => hp i j a b (.inl ?_)⟩
    have b : j < W.length := b
    omega
/-! tree_by -/
inductive Tree where
  | leaf (n : Int)
  | node (o : Int) (u v : Tree)
def encTr : Tree → PyData
  | .leaf n => .int n
  | .node o u v => .tuple [.int o, encTr u, encTr v]
def treeF (W : List Tri) (S : List (Int × Int)) : Nat → Nat → Nat → Tree
  | 0, _, _ => .leaf 0
  | f + 1, i, j => if (tv W S i j).2 < 0 then .leaf (bin W i) else .node ((cutsAt W S (tv W S i j).2.toNat).getD 0 (0, 0)).2 (treeF W S f i (tv W S i j).2.toNat) (treeF W S f ((tv W S i j).2.toNat + 1) j)
def treeT (W : List Tri) (S : List (Int × Int)) (i j : Nat) : Tree := treeF W S (j - i + 1) i j
theorem treeF_any {W : List Tri} {S : List (Int × Int)} (g : Good W S) : ∀ f f' i j, i ≤ j → j < W.length → j - i + 1 ≤ f → j - i + 1 ≤ f' → treeF W S f i j = treeF W S f' i j
  | 0, _, i, j, _, _, h, _ => by omega
  | _ + 1, 0, i, j, _, _, _, h => by omega
  | f + 1, f' + 1, i, j, hij, hj, h1, h2 => by
    unfold treeF
    cases ho : oneBin W i j with
    | true => rw [tv_one ho]; rfl
    | false =>
      obtain ⟨k, c, k1, k2, hc, e⟩ := tv_cut g.o hij hj ho
      rw [e]
      have z : ¬ ((k : Int) < 0) := by omega
      rw [if_neg z, if_neg z]
      show Tree.node _ (treeF W S f i k) (treeF W S f (k + 1) j) = Tree.node _ (treeF W S f' i k) (treeF W S f' (k + 1) j)
      rw [treeF_any g f f' i k (by omega) (by omega) (by omega) (by omega), treeF_any g f f' (k + 1) j (by omega) (by omega) (by omega) (by omega)]
theorem treeT_one {W : List Tri} {S : List (Int × Int)} {i j : Nat} (h : oneBin W i j = true) : treeT W S i j = .leaf (bin W i) := by
  unfold treeT treeF
  rw [tv_one h]; rfl
theorem treeT_cut {W : List Tri} {S : List (Int × Int)} (g : Good W S) {i j k : Nat} {c : Int × Int} (hij : i ≤ j) (hj : j < W.length) (k1 : i ≤ k) (k2 : k < j) (hc : cutsAt W S k = [c]) (e : (tv W S i j).2 = (k : Int)) : treeT W S i j = .node c.2 (treeT W S i k) (treeT W S (k + 1) j) := by
  unfold treeT
  rw [treeF]
  have z : ¬ ((k : Int) < 0) := by omega
  rw [e, if_neg z]
  show Tree.node ((cutsAt W S k).getD 0 (0, 0)).2 (treeF W S (j - i) i k) (treeF W S (j - i) (k + 1) j) = _
  rw [hc, treeF_any g (j - i) (k - i + 1) i k (by omega) (by omega) (by omega) (by omega), treeF_any g (j - i) (j - (k + 1) + 1) (k + 1) j (by omega) (by omega) (by omega) (by omega)]
  rfl
structure TB where
  W : List Tri
  S : List (Int × Int)
  plc : Tab
  i : Nat
  j : Nat
def tbArgs (a : TB) : List Item := [.dat (wishD a.W), .dat (cutsD a.W a.S), .bt a.plc, .dat (.int (a.i : Nat)), .dat (.int (a.j : Nat))]
structure tbPre (m : Nat) (a : TB) : Prop where
  g : Good a.W a.S
  f : ∀ i j, i ≤ j → j < a.W.length → hasT a.plc i j (tv a.W a.S i j).2
  ij : a.i ≤ a.j
  j : a.j < a.W.length
  m : a.j - a.i + 1 ≤ m
abbrev sp_tree_by (K : PySem.W.Frag) (m : Nat) : Sp := spD K tbArgs (tbPre m) (fun a d => d = encTr (treeT a.W a.S a.i a.j))
theorem rd_tree_by (m : Nat) (a : TB) (h : tbPre (m + 1) a) : Sx K H0 (t_tree_by K (sp_tree_by K m)) (tbArgs a ++ List.replicate (N_tree_by.length - (tbArgs a).length) .no) (poD K fun d => d = encTr (treeT a.W a.S a.i a.j)) := by
  obtain ⟨W, S, plc, i, j⟩ := a
  obtain ⟨g, f, hij, hj, hm⟩ := h
  have hij : i ≤ j := hij
  have hj : j < W.length := hj
  have hm : j - i + 1 ≤ m + 1 := hm
  have g : Good W S := g
  refine sx_seq (sx_asg (ev_get (.inr rfl) (ev_var rfl) (ev_var rfl) (f i j hij hj)) (sx_seq ?_))
  cases ho : oneBin W i j with
  | true =>
    have e : (tv W S i j).2 = -1 := by rw [tv_one ho]
    show Sx K H0 _ [.dat (wishD W), .dat (cutsD W S), .bt plc, .dat (.int (i : Nat)), .dat (.int (j : Nat)), .dat (.int (tv W S i j).2), .no] _
    rw [e]
    refine sx_if (et_test (ev_op (ev_var rfl) ev_int rv_IB)) (fun _ => ?_) (fun h => nomatch h)
    refine sx_retP (ev_binW (ev_W (by omega) (ev_var rfl) (ev_var rfl))) (fun d e => ?_) rfl
    show d = encTr (treeT W S i j)
    rw [e, treeT_one ho]; rfl
  | false =>
    obtain ⟨k, c, k1, k2, hc, e⟩ := tv_cut g.o hij hj ho
    have e2 : (tv W S i j).2 = (k : Int) := by rw [e]
    show Sx K H0 _ [.dat (wishD W), .dat (cutsD W S), .bt plc, .dat (.int (i : Nat)), .dat (.int (j : Nat)), .dat (.int (tv W S i j).2), .no] _
    rw [e2]
    refine sx_if (b := false) ((et_test (ev_op (ev_var rfl) ev_int rv_IB)).is (decide_eq_false (by omega))) (fun h => nomatch h) (fun _ => sx_next ?_)
    refine sx_seq (sx_asg (ev_callD ⟨W, S, plc, i, k⟩ (ea_cons (ev_var rfl) (ea_cons (ev_var rfl) (ea_consD (.inr rfl) (ea_cons (ev_var rfl) (ea_cons (ev_var rfl) ea_nil))))) ⟨g, f, k1, by show k < W.length; omega, by show k - i + 1 ≤ m; omega⟩ fun d e => e) ?_)
    refine sx_retP (ev_tup (ds := [.int c.2, encTr (treeT W S i k), encTr (treeT W S (k + 1) j)]) (ea_cons (ev_op (ev_op (ev_cuts (by omega) (ev_var rfl) (ev_var rfl)) ev_int (rv_ixL (d := encP c) (by rw [hc]; rfl))) ev_int (rv_ixT rfl)) (ea_cons (ev_var rfl) (ea_cons (ev_callD ⟨W, S, plc, k + 1, j⟩ (ea_cons (ev_var rfl) (ea_cons (ev_var rfl) (ea_consD (.inr rfl) (ea_cons (ev_succ (ev_var rfl)) (ea_cons (ev_var rfl) ea_nil))))) ⟨g, f, by show k + 1 ≤ j; omega, hj, by show j - (k + 1) + 1 ≤ m; omega⟩ fun d e => e) ea_nil))) (len_ok rfl)) (fun d e3 => ?_) rfl
    show d = encTr (treeT W S i j)
    rw [e3, treeT_cut g hij hj k1 k2 hc e2]; rfl
end
end K58
set_option Elab.async false
set_option linter.all false
set_option maxRecDepth 100000
set_option maxHeartbeats 2000000
namespace K58
open PySem PySem.Spec PyProof.Rows L2
section
variable {K : PySem.W.Frag} {H0 : Hp}
theorem sx_dropP {te : TE} {Γ : List Item} {P : PyData → Prop} {φ : Po} (h : EvP K H0 te Γ P) (k : ∀ d, P d → φ.nx Γ) : Sx K H0 (tDrop te) Γ φ := fun B H σ D E hd =>
  h B H σ E _ fun v d B2 H2 p s hv => hd.nx Γ σ B2 H2 (k d p) (s.rch E.oh) (E.step s)
def rowT (W : List Tri) (S : List (Int × Int)) (i : Nat) : List Int := (List.range (W.length - i)).map fun k => tn W S i (i + k)
def ltArgs (a : WS) : List Item := [.dat (wishD a.1), .dat (stockD a.2)]
/-- what a tree's answer is: the rows of the table are new, and no data lean on them -/
def ltTree (W : List Tri) (S : List (Int × Int)) (K : PySem.W.Frag) (H : Hp) (v : V) (B2 H2 : Hp) : Prop := ∃ (p : Addr) (tv : V) (r : Addr) (rs : List Addr), v = .ref p ∧ H p = none ∧ B2 p = none ∧ H2 p = some (.tup [.str "tree", tv, .int (tn W S 0 (W.length - 1)), .ref r]) ∧ Dp K B2 tv (encTr (treeT W S 0 (W.length - 1))) ∧
  H r = none ∧ B2 r = none ∧ H2 r = some (.lst (rs.map V.ref)) ∧ rs.length = W.length ∧ ∀ (i : Nat) x, rs[i]? = some x → H x = none ∧ B2 x = none ∧ x ≠ r ∧ H2 x = some (.lst ((rowT W S i).map V.int))
def ltPost (K : PySem.W.Frag) (a : WS) (H : Hp) (v : V) (B2 H2 : Hp) : Prop := WOk a.1 ∧ SOk a.2 ∧
  match firstShut a.1 a.2 with
  | some i => Dp K B2 v (.tuple [.str "shut", encP (siz a.1 i, siz a.1 (i + 1))])
  | none => ltTree a.1 a.2 K H v B2 H2
def ltExc (CW CS : Addr) (a : WS) (D : Addr) : Prop := (wishOk a.1 = false ∧ D = CW) ∨ (wishOk a.1 = true ∧ stockOk a.2 = false ∧ D = CS)
abbrev sp_least_tree (K : PySem.W.Frag) (CW CS : Addr) : Sp := spF K ltArgs (fun _ => True) (ltPost K) (ltExc CW CS)
/-- table, places = cut_table(..) -/
theorem sx_tables {Γ : List Item} {φ : Po} {ta : TA} {a : WS} {i j : Nat} {X : XK} (h : EvA K H0 ta Γ (fun ts => ts = ctArgs a)) (g : Good a.1 a.2) (hij : i ≠ j)
    (k : ∀ tab plc, full a.1 a.2 tab plc → φ.nx ((Γ.set i (.dt tab)).set j (.dt plc))) : Sx K H0 (tAsg (tCall (sp_cut_table K) [] X ta) (gTup K 2 (gCons (gName i) (gCons (gName j) gNil)))) Γ φ := fun B H σ D E hd =>
  h B H σ E _ fun vs ts B1 H1 e s1 hs => by
    subst e
    rw [List.append_nil]
    refine ⟨a, B1, s1.ob, hs, g, fun v B2 H2 ⟨p, t, q, tab, plc, ev, hp, ne, ht, hq, bt, bq, h2t, h2q, hf⟩ s2 => ?_, fun _ _ z => z.elim⟩
    subst ev
    have s := s1.trans s2
    have E2 := E.step s
    have E3 : Sit K H0 B2 H2 (σ.set i (some (.ref t))) (Γ.set i (.dt tab)) := E2.set_any ⟨t, rfl, (E.oh.trans s1.eh).free ht, bt, h2t⟩ fun _ l' e j' s' _ hj' ho hq' => by
      cases e
      obtain ⟨_, _, z⟩ := (E.step s1).owned hj' ho hq'
      exact z ht
    have E4 : Sit K H0 B2 H2 ((σ.set i (some (.ref t))).set j (some (.ref q))) ((Γ.set i (.dt tab)).set j (.dt plc)) := E3.set_any ⟨q, rfl, (E.oh.trans s1.eh).free hq, bq, h2q⟩ fun _ l' e j' s' hne hj' ho hq' => by
      cases e
      rcases set_get hj' with ⟨e1, e2, hlt⟩ | ⟨e1, e2⟩
      · subst e1
        rw [set_at (by rw [E2.len]; exact hlt)] at hq'
        exact ne (V.ref.inj (Option.some.inj (Option.some.inj hq')))
      · rw [set_off e1] at hq'
        obtain ⟨_, _, z⟩ := (E.step s1).owned e2 ho hq'
        exact z hq
    exact ⟨p, _, rfl, .inl (.inl hp), rfl, _, _, rfl, _, _, rfl, rfl, hd.nx _ _ B2 H2 (k tab plc hf) (s.rch E.oh) E4⟩
theorem seq_u {t u : TS} {D : Ends} {σ : L2.St} {H : Hp} (h : t { D with nx := u D } σ H) : tSeq t u D σ H := h
theorem asg_u {te : TE} {g : TG} {D : Ends} {σ : L2.St} {H : Hp} (h : te σ H fun x H1 => g x σ H1 D.nx) : tAsg te g D σ H := h
/-- rows = [[..]..]; return (..) -/
theorem sx_rowsRet {φ : Po} {W : List Tri} {S : List (Int × Int)} {tab plc : Tab} {x2 : Item} (g : Good W S) (hf : full W S tab plc) (k : ∀ v B2 H2, ltTree W S K H0 v B2 H2 → φ.rt v B2 H2) :
    Sx K H0 (tSeq (tAsg (tLc (iRng1 (tCons (tVar 6) tNil)) (gName 8) tYes (tLc (iRng2 (tCons (tVar 8) (tCons (tVar 6) tNil))) (gName 9) tYes (tDGet (tVar 4) (tTup (tCons (tVar 8) (tCons (tVar 9) tNil)))) [9]) [8]) (gName 7))
      (tRet (tTup (tCons (tC (.str "tree")) (tCons (tCall (sp_tree_by K 20) [] E0 (tCons (tVar 0) (tCons (tVar 3) (tCons (tVar 5) (tCons (tC (.int 0)) (tCons (tOp (rI0 fun i j => .int (i - j)) (tVar 6) (tC (.int 1))) tNil)))))) (tCons (tDGet (tVar 4) (tTup (tCons (tC (.int 0)) (tCons (tOp (rI0 fun i j => .int (i - j)) (tVar 6) (tC (.int 1))) tNil)))) (tCons (tVar 7) tNil)))))))
      [.dat (wishD W), .dat (stockD S), x2, .dat (cutsD W S), .dt tab, .dt plc, .dat (.int (W.length : Nat)), .no, .no, .no] φ := fun B H σ D E hd => by
  have hn := g.w.l2
  have hn1 := g.w.l1
  obtain ⟨v6, e6, d6⟩ := E.dat (i := 6) rfl
  have d6 := dp_int d6
  subst d6
  refine seq_u (asg_u ?_)
  refine lc_fresh W.length (rowT W S) (fun i => .int ((0 : Int) + (i : Nat))) (List.mem_singleton_self _) (by omega) (fun R q => ?_) (fun i hi H' s' Q q => ?_) fun r rs H2 s2 nr hr hl hrs => ?_
  · refine ⟨_, e6, (W.length : Int), rfl, by omega, by omega, q _ H (Same.refl _) fun H3 _ i => ⟨fun h => h, fun h => h, fun x H4 _ y => y⟩⟩
  · have E' := (((E.step (Stp.side E.ob s')).wiped [8]).set_dat (i := 8) (v := .int ((0 : Int) + (i : Nat))) (d := .int (i : Nat)) (by rw [Int.zero_add]; exact .int _))
    have wk : Wk K H0 (iRng2 (tCons (tVar 8) (tCons (tVar 6) tNil))) ((wipeI [.dat (wishD W), .dat (stockD S), x2, .dat (cutsD W S), .dt tab, .dt plc, .dat (.int (W.length : Nat)), .no, .no, .no] [8]).set 8 (.dat (.int (i : Nat)))) ((List.range (W.length - i)).map fun k : Nat => .int ((i + k : Nat) : Int)) := by
      have := wk_rng2 (K := K) (H0 := H0) (Γ := (wipeI [.dat (wishD W), .dat (stockD S), x2, .dat (cutsD W S), .dt tab, .dt plc, .dat (.int (W.length : Nat)), .no, .no, .no] [8]).set 8 (.dat (.int (i : Nat)))) (ta := tVar 8) (tb := tVar 6) (m := (i : Int)) (n := (W.length : Int)) (ev_var rfl) (ev_var rfl) (by omega) (by omega) (by omega) (by omega)
      rw [show ((W.length : Int) - (i : Int)).toNat = W.length - i by omega] at this
      exact this
    refine ef_lc (keep := fun _ => true) (out := fun k : Nat => .int (tn W S i (i + k))) (List.range (W.length - i)) wk (by rw [List.length_range]; omega) (fun x hx => ?_) B H' _ E' Q fun p xs B2 H2 s np bp hd => ?_
    · have hx' : x < W.length - i := List.mem_range.mp hx
      exact ⟨_, _, tg_name, fun j h => h, et_yes, fun _ => ev_get (.inl rfl) (ev_var rfl) (ev_var rfl) (hf i (i + x) (by omega) (by omega)).1⟩
    · rw [List.filter_eq_self.mpr (fun _ _ => rfl)] at hd
      have e : xs = (rowT W S i).map V.int := dpa_ints (ns := rowT W S i) (by unfold rowT; rw [List.map_map]; exact hd)
      subst e
      exact q p H2 s.eh np (s.ob _ _ bp)
  · -- rows stands beside the data
    have E2 : Sit K H0 B H2 (σ.set 7 (some (.ref r))) [.dat (wishD W), .dat (stockD S), x2, .dat (cutsD W S), .dt tab, .dt plc, .dat (.int (W.length : Nat)), .raw (.ref r), .no, .no] :=
      (E.step (Stp.side E.ob s2)).set_any (i := 7) (t := .raw (.ref r)) (o := some (.ref r)) rfl (fun z => nomatch z)
    have br : B r = none := E.ob.free nr
    have e7 : (σ.set 7 (some (V.ref r)))[7]? = some (some (.ref r)) := set_at (by rw [E.len]; show 7 < 10; decide)
    have pred : ∀ {Γ : List Item}, Γ[6]? = some (.dat (.int (W.length : Nat))) → Ev K H0 (tOp (rI0 fun i j => .int (i - j)) (tVar 6) (tC (.int 1))) Γ (.int ((W.length - 1 : Nat) : Int)) := fun {Γ} h => Ev.is (ev_pred (ev_var h)) (by rw [show ((W.length - 1 : Nat) : Int) = (W.length : Int) - 1 by omega])
    have ec : Ev K H0 (tCall (sp_tree_by K 20) [] E0 (tCons (tVar 0) (tCons (tVar 3) (tCons (tVar 5) (tCons (tC (.int 0)) (tCons (tOp (rI0 fun i j => .int (i - j)) (tVar 6) (tC (.int 1))) tNil)))))) [.dat (wishD W), .dat (stockD S), x2, .dat (cutsD W S), .dt tab, .dt plc, .dat (.int (W.length : Nat)), .raw (.ref r), .no, .no] (encTr (treeT W S 0 (W.length - 1))) :=
      ev_callD ⟨W, S, plc, 0, W.length - 1⟩ (ea_cons (ev_var rfl) (ea_cons (ev_var rfl) (ea_consD (.inl rfl) (ea_cons ev_int (ea_cons (pred rfl) ea_nil))))) ⟨g, fun i j h1 h2 => (hf i j h1 h2).2, Nat.zero_le _, by show W.length - 1 < W.length; omega, by show W.length - 1 - 0 + 1 ≤ 20; omega⟩ fun d e => e
    have eg : Ev K H0 (tDGet (tVar 4) (tTup (tCons (tC (.int 0)) (tCons (tOp (rI0 fun i j => .int (i - j)) (tVar 6) (tC (.int 1))) tNil)))) [.dat (wishD W), .dat (stockD S), x2, .dat (cutsD W S), .dt tab, .dt plc, .dat (.int (W.length : Nat)), .raw (.ref r), .no, .no] (.int (tn W S 0 (W.length - 1))) :=
      ev_get (i := 0) (.inl rfl) ev_int (pred rfl) (hf 0 (W.length - 1) (by omega) (by omega)).1
    refine ec B H2 _ E2 _ fun tv d B3 H3 ed s3 hv => ?_
    subst ed
    refine eg B3 H3 _ (E2.step s3) _ fun u d B4 H4 ed s4 hu => ?_
    subst ed
    have hu := dp_int hu
    subst hu
    have s34 := s3.trans s4
    refine ⟨_, e7, by show 4 ≤ sizeLine; decide, fun p hp => ?_⟩
    have gone : ∀ a, B a = none → H2 a ≠ none → B4 a = none := s34.fr
    have sH : Same H2 (upd H4 p (.tup [.str "tree", tv, .int (tn W S 0 (W.length - 1)), .ref r])) := s34.eh.trans (same_new hp)
    refine hd.rt (.ref p) B4 _ (k _ _ _ ⟨p, tv, r, rs, rfl, ?_, s34.ob.free hp, upd_same, Dp.up s4.eb hv, E.oh.free nr, gone r br (by rw [hr]; exact fun z => nomatch z), sH _ _ hr, hl, fun i x hx => ?_⟩) (s34.rch E2.oh) (s34.ob.trans (same_new hp)) (E2.oh.trans sH)
    · exact E2.oh.free (s34.eh.free hp)
    · obtain ⟨a, b, c⟩ := hrs i x hx
      exact ⟨E.oh.free a, gone x (E.ob.free a) (by rw [c]; exact fun z => nomatch z), b, sH _ _ c⟩
theorem rd_least_tree {CW CS : Addr} {E : XK} (a : WS) (hx : ∀ C H2, ltExc CW CS a C → Same H0 H2 → E (.ref C) none H2) :
    Sx K H0 (t_least_tree K (sp_check_wish K CW) (sp_check_stock K CS) (sp_shut_border K) (sp_cheapest_cuts K) (sp_cut_table K) (sp_tree_by K 20) E) (ltArgs a ++ List.replicate (N_least_tree.length - (ltArgs a).length) .no) { nx := fun _ => ∀ B' H', ltPost K a H0 .non B' H', rt := ltPost K a H0 } := by
  obtain ⟨W, S⟩ := a
  refine sx_seq (sx_dropP (P := fun _ => wishOk W = true) (ev_callF W (ea_cons (ev_var rfl) ea_nil) trivial (fun d e => e.1) fun C H2 e s => hx C H2 (.inl e) s) fun _ w => ?_)
  refine sx_seq (sx_dropP (P := fun _ => stockOk S = true) (ev_callF S (ea_cons (ev_var rfl) ea_nil) trivial (fun d e => e.1) fun C H2 e s => hx C H2 (.inr ⟨w, e.1, e.2⟩) s) fun _ st => ?_)
  have w := wishOk_iff.mp w
  have st := stockOk_iff.mp st
  have hn := w.l2
  have hs := st.l2
  have bnd : (W, S).1.length ≤ 1000 ∧ (W, S).2.length ≤ 1000 := ⟨by show W.length ≤ 1000; omega, by show S.length ≤ 1000; omega⟩
  refine sx_seq (sx_asg (ev_callD (W, S) (ea_cons (ev_var rfl) (ea_cons (ev_var rfl) ea_nil)) bnd fun d e => e) (sx_seq ?_))
  cases o : firstShut W S with
  | some i =>
    have o' : firstShut (W, S).1 (W, S).2 = some i := o
    simp only [o']
    refine sx_if (b := true) ((et_test (ev_op (ev_var rfl) (ev_lst (ds := []) ea_nil (len_ok rfl)) (rv_neD (shaped_pairs [(siz W i, siz W (i + 1))]) (shaped_pairs [])))).is (by rw [eqv_nil [(siz W i, siz W (i + 1))]]; rfl)) (fun _ => ?_) (fun h => nomatch h)
    refine sx_ret (ev_tup (ds := [.str "shut", encP (siz W i, siz W (i + 1))]) (ea_cons ev_str (ea_cons (ev_op (ev_var rfl) ev_int (rv_ixL (d := encP (siz W i, siz W (i + 1))) rfl)) ea_nil)) (len_ok rfl)) fun v B H d e hv => ?_
    subst e
    show WOk W ∧ SOk S ∧ _
    rw [o']
    exact ⟨w, st, hv⟩
  | none =>
    have o' : firstShut (W, S).1 (W, S).2 = none := o
    simp only [o']
    have g : Good W S := ⟨w, st, o⟩
    refine sx_if (b := false) ((et_test (ev_op (ev_var rfl) (ev_lst (ds := []) ea_nil (len_ok rfl)) (rv_neD (shaped_pairs []) (shaped_pairs [])))).is (by rw [eqv_nil []]; rfl)) (fun h => nomatch h) (fun _ => sx_next ?_)
    refine sx_seq (sx_asg (ev_callD (W, S) (ea_cons (ev_var rfl) (ea_cons (ev_var rfl) ea_nil)) bnd fun d e => e) ?_)
    refine sx_seq (sx_tables (a := (W, S)) (ea_cons (ev_var rfl) (ea_cons (ev_var rfl) ea_nil)) g (by decide) fun tab plc hf => ?_)
    refine sx_seq (sx_asg (ev_lenW (ev_var rfl)) ?_)
    refine sx_rowsRet g hf fun v B2 H2 h => ?_
    show WOk W ∧ SOk S ∧ _
    rw [o']
    exact ⟨w, st, h⟩
end
end K58
set_option Elab.async false
set_option linter.all false
set_option maxRecDepth 100000
set_option maxHeartbeats 2000000
namespace K58
open PySem PySem.Spec PyProof.Rows L2
section
variable {K : PySem.W.Frag} {H0 : Hp}
abbrev isInt : PyData → Prop := fun d => ∃ n : Int, d = .int n
theorem ev_pow60 {Γ : List Item} : Ev K H0 (tOp (rI CPow fun i j => .int (i ^ j.toNat)) (tC (.int 10)) (tC (.int 60))) Γ (.int G60) := by
  have h : Ev K H0 (tOp (rI CPow fun i j => .int (i ^ j.toNat)) (tC (.int 10)) (tC (.int 60))) Γ (.int ((10 : Int) ^ (60 : Int).toNat)) := ev_op ev_int ev_int (rv_CI (g := fun i j => i ^ j.toNat) ⟨by decide, by decide, by decide⟩)
  exact h.is (by rw [show ((10 : Int) ^ (60 : Int).toNat) = G60 from by decide +kernel])
theorem div_ok {i j : Int} (h : 0 < j) (h2 : j ≤ 1000 * G60) : CDivW i j := wide_div h (big (by omega) h2) (by decide) (by decide)
theorem ev_mod {Γ : List Item} {ta tb : TE} {m n : Int} (ha : Ev K H0 ta Γ (.int m)) (hb : Ev K H0 tb Γ (.int n)) (h : 0 < n) : Ev K H0 (tOp (rI (fun _ j => 0 < j) fun i j => .int (i % j)) ta tb) Γ (.int (m % n)) := ev_op ha hb (rv_CI (C := fun _ j => 0 < j) (g := fun i j => i % j) h)
theorem ev_div {Γ : List Item} {ta tb : TE} {m n : Int} (ha : Ev K H0 ta Γ (.int m)) (hb : Ev K H0 tb Γ (.int n)) (h : 0 < n) (h2 : n ≤ 1000 * G60) : Ev K H0 (tOp (rI CDivW fun i j => .int (i / j)) ta tb) Γ (.int (m / n)) := ev_op ha hb (rv_CI (C := CDivW) (g := fun i j => i / j) (div_ok h h2))
theorem ev_addI {Γ : List Item} {ta tb : TE} {m n : Int} (ha : Ev K H0 ta Γ (.int m)) (hb : Ev K H0 tb Γ (.int n)) : Ev K H0 (tOp (rI0 fun i j => .int (i + j)) ta tb) Γ (.int (m + n)) := ev_op ha hb rv_II
theorem ev_subI {Γ : List Item} {ta tb : TE} {m n : Int} (ha : Ev K H0 ta Γ (.int m)) (hb : Ev K H0 tb Γ (.int n)) : Ev K H0 (tOp (rI0 fun i j => .int (i - j)) ta tb) Γ (.int (m - n)) := ev_op ha hb rv_II
theorem ev_mulI {Γ : List Item} {ta tb : TE} {m n : Int} (ha : Ev K H0 ta Γ (.int m)) (hb : Ev K H0 tb Γ (.int n)) (h : CMulW m n) : Ev K H0 (tOp (rI CMulW fun i j => .int (i * j)) ta tb) Γ (.int (m * n)) := ev_op ha hb (rv_CI (C := CMulW) (g := fun i j => i * j) h)
/-! _law_cell_at -/
abbrev intsD (ns : List Int) : PyData := .list (ns.map .int)
abbrev sp__law_cell_at (K : PySem.W.Frag) : Sp := spD K (fun a : List Int × Nat => [.dat (intsD a.1), .dat (.int (a.2 : Nat))]) (fun _ => True) (fun _ d => isInt d)
theorem rd__law_cell_at (a : List Int × Nat) : Sx K H0 (t__law_cell_at K) ([.dat (intsD a.1), .dat (.int (a.2 : Nat))] ++ List.replicate (N__law_cell_at.length - 2) .no) (poD K isInt) := by
  obtain ⟨ns, k⟩ := a
  refine sx_seq (sx_if (et_test (ev_op (ev_var rfl) (ev_lenW (ev_var rfl)) rv_IB)) (fun h => ?_) (fun _ => sx_next ?_))
  · have h := of_decide_eq_true h
    have h : (k : Int) < (ns.length : Nat) := h
    have hk : k < ns.length := by omega
    exact sx_retP (ev_op (ev_var rfl) (ev_var rfl) (rv_ixL (at_map PyData.int ns 0 hk))) (fun d e => ⟨_, e⟩) rfl
  · exact sx_retP ev_int (fun d e => ⟨_, e⟩) rfl
/-! _law_whole -/
abbrev sp__law_whole (K : PySem.W.Frag) : Sp := spD K (fun n : Int => [.dat (.int n)]) (fun _ => True) (fun _ d => d = .bool true)
theorem rd__law_whole (n : Int) : Sx K H0 (t__law_whole K) ([.dat (.int n)] ++ List.replicate (N__law_whole.length - 1) .no) (poD K fun d => d = .bool true) :=
  sx_retP (ev_andV (ev_isi (ev_var rfl) (by decide +kernel : kitB "int" "int" = some true)) (fun _ => ev_notV (ev_isi (ev_var rfl) (by decide +kernel : kitB "int" "bool" = some false)))) (fun d e => e) rfl
theorem ev_whole {Γ : List Item} {t : TE} {n : Int} (h : Ev K H0 t Γ (.int n)) : Ev K H0 (tCall (sp__law_whole K) [] E0 (tCons t tNil)) Γ (.bool true) := ev_callD n (ea_cons h ea_nil) trivial fun d e => e
/-! _law_pair -/
abbrev isPr : PyData → Prop := fun d => ∃ s m : Int, d = encP (s, m) ∧ 1 ≤ s ∧ s ≤ G60 ∧ 1 ≤ m ∧ m ≤ G60
abbrev sp__law_pair (K : PySem.W.Frag) : Sp := spD K (fun n : Int => [.dat (.int n)]) (fun _ => True) (fun _ d => isPr d)
theorem rd__law_pair (n : Int) : Sx K H0 (t__law_pair K) ([.dat (.int n)] ++ List.replicate (N__law_pair.length - 1) .no) (poD K isPr) := by
  refine sx_seq (sx_asg (ev_mod (ev_var rfl) ev_int (by decide)) ?_)
  have w1 : 0 ≤ n % 4 := Int.emod_nonneg _ (by decide)
  have w2 : n % 4 < 4 := Int.emod_lt_of_pos _ (by decide)
  generalize n % 4 = way at w1 w2 ⊢
  refine sx_seq (sx_asg (ev_div (ev_var rfl) ev_int (by decide) (by decide)) ?_)
  generalize n / 4 = cell
  refine sx_seq (sx_asgP (P := fun d => ∃ w : Int, d = .int w ∧ 1 ≤ w ∧ w ≤ G60) (ev_op (ev_lst (ds := [.int 9, .int 200, .int 9, .int G60]) (ea_cons ev_int (ea_cons ev_int (ea_cons ev_int (ea_cons ev_pow60 ea_nil)))) (len_ok rfl)) (ev_var rfl) (rv_ixLP w1 (by simpa using w2) fun d hd => ?_)) fun d ⟨wd, e, k1, k2⟩ => ?_)
  · simp only [List.mem_cons, List.not_mem_nil, or_false] at hd
    rcases hd with rfl | rfl | rfl | rfl
    · exact ⟨_, rfl, by decide, by decide⟩
    · exact ⟨_, rfl, by decide, by decide⟩
    · exact ⟨_, rfl, by decide, by decide⟩
    · exact ⟨_, rfl, by decide, by decide⟩
  subst e
  refine sx_seq (sx_asg (ev_addI ev_int (ev_mod (ev_var rfl) (ev_var rfl) (by omega))) ?_)
  have s1 : 0 ≤ cell % wd := Int.emod_nonneg _ (by omega)
  have s2 : cell % wd < wd := Int.emod_lt_of_pos _ (by omega)
  have rest : ∀ s : Int, 1 ≤ s → s ≤ G60 → Sx K H0 (tSeq (tAsg (tOp (rI CDivW fun i j => .int (i / j)) (tVar 0) (tVar 2)) (gName 0))
      (tRet (tTup (tCons (tVar 3) (tCons (tOp (rI0 fun i j => .int (i + j)) (tC (.int 1)) (tOp (rI (fun _ j => 0 < j) fun i j => .int (i % j)) (tOp (rI CDivW fun i j => .int (i / j)) (tVar 0) (tC (.int 5))) (tOp (rIxL K) (tLst (tCons (tOp (rI CPow fun i j => .int (i ^ j.toNat)) (tC (.int 10)) (tC (.int 60))) (tCons (tC (.int 7)) (tCons (tC (.int 7)) (tCons (tC (.int 7)) (tCons (tC (.int 7)) tNil)))))) (tOp (rI (fun _ j => 0 < j) fun i j => .int (i % j)) (tVar 0) (tC (.int 5)))))) tNil)))))
      [.dat (.int cell), .dat (.int way), .dat (.int wd), .dat (.int s)] (poD K isPr) := fun s h1 h2 => by
    refine sx_seq (sx_asg (ev_div (ev_var rfl) (ev_var rfl) (by omega) (by omega)) ?_)
    generalize cell / wd = c2
    have q1 : 0 ≤ c2 % 5 := Int.emod_nonneg _ (by decide)
    have q2 : c2 % 5 < 5 := Int.emod_lt_of_pos _ (by decide)
    have em : EvP K H0 (tOp (rIxL K) (tLst (tCons (tOp (rI CPow fun i j => .int (i ^ j.toNat)) (tC (.int 10)) (tC (.int 60))) (tCons (tC (.int 7)) (tCons (tC (.int 7)) (tCons (tC (.int 7)) (tCons (tC (.int 7)) tNil)))))) (tOp (rI (fun _ j => 0 < j) fun i j => .int (i % j)) (tVar 0) (tC (.int 5)))) [.dat (.int c2), .dat (.int way), .dat (.int wd), .dat (.int s)] (fun d => ∃ w : Int, d = .int w ∧ 1 ≤ w ∧ w ≤ G60) :=
      ev_op (ev_lst (ds := [.int G60, .int 7, .int 7, .int 7, .int 7]) (ea_cons ev_pow60 (ea_cons ev_int (ea_cons ev_int (ea_cons ev_int (ea_cons ev_int ea_nil))))) (len_ok rfl)) (ev_mod (ev_var rfl) ev_int (by decide)) (rv_ixLP q1 (by simpa using q2) fun d hd => by
        simp only [List.mem_cons, List.not_mem_nil, or_false] at hd
        rcases hd with rfl | rfl | rfl | rfl | rfl
        all_goals exact ⟨_, rfl, by decide, by decide⟩)
    have em2 : EvP K H0 (tOp (rI0 fun i j => .int (i + j)) (tC (.int 1)) (tOp (rI (fun _ j => 0 < j) fun i j => .int (i % j)) (tOp (rI CDivW fun i j => .int (i / j)) (tVar 0) (tC (.int 5))) (tOp (rIxL K) (tLst (tCons (tOp (rI CPow fun i j => .int (i ^ j.toNat)) (tC (.int 10)) (tC (.int 60))) (tCons (tC (.int 7)) (tCons (tC (.int 7)) (tCons (tC (.int 7)) (tCons (tC (.int 7)) tNil)))))) (tOp (rI (fun _ j => 0 < j) fun i j => .int (i % j)) (tVar 0) (tC (.int 5)))))) [.dat (.int c2), .dat (.int way), .dat (.int wd), .dat (.int s)] (fun d => ∃ m : Int, d = .int m ∧ 1 ≤ m ∧ m ≤ G60) :=
      ev_bin (P := fun d => d = .int 1) (R := fun d => ∃ m : Int, d = .int m ∧ 0 ≤ m ∧ m < G60) ev_int (ev_bin (P := fun d => d = .int (c2 / 5)) (R := fun d => ∃ w : Int, d = .int w ∧ 1 ≤ w ∧ w ≤ G60) (ev_div (ev_var rfl) ev_int (by decide) (by decide)) em fun dx dy ex ⟨w, ew, w1, w2⟩ => by
          subst ex ew
          intro B H x y o hx hy Q q
          exact rv_CI (C := fun _ j => 0 < j) (g := fun i j => i % j) (by omega) B H x y o hx hy Q fun v d B2 H2 e => q v d B2 H2 ⟨_, e, Int.emod_nonneg _ (by omega), Int.lt_of_lt_of_le (Int.emod_lt_of_pos _ (by omega)) w2⟩) fun dx dy ex ⟨m, em, m1, m2⟩ => by
        subst ex em
        intro B H x y o hx hy Q q
        exact rv_II B H x y o hx hy Q fun v d B2 H2 e => q v d B2 H2 ⟨_, e, by omega, by omega⟩
    intro B H σ D E hd
    obtain ⟨v3, e3, d3⟩ := E.dat (i := 3) rfl
    refine ⟨v3, e3, em2 B H σ E _ fun v d B2 H2 ⟨m, em, m1, m2⟩ st hv => ⟨by show 2 ≤ sizeLine; decide, fun p hp => ?_⟩⟩
    subst em
    have x := Stp.new (o := .tup [v3, v]) st.ob hp
    exact hd.rt _ _ _ ⟨encP (s, m), ⟨s, m, rfl, h1, h2, m1, m2⟩, .tup (.inl (.inl upd_same)) (.cons (Dp.up (st.eb.trans x.eb) d3) (.cons (Dp.up x.eb hv) .nil))⟩ ((st.trans x).rch E.oh) x.ob (E.oh.trans (st.eh.trans x.eh))
  refine sx_seq (sx_if (et_test (ev_op (ev_var rfl) ev_int rv_eqI)) (fun _ => ?_) (fun _ => sx_next ?_))
  · refine sx_asg (ev_subI ev_pow60 (ev_mod (ev_var rfl) ev_int (by decide))) ?_
    have t1 : 0 ≤ cell % 9 := Int.emod_nonneg _ (by decide)
    have t2 : cell % 9 < 9 := Int.emod_lt_of_pos _ (by decide)
    have g10 : (100 : Int) ≤ G60 := by decide
    exact rest _ (by omega) (by omega)
  · exact rest _ (by omega) (by omega)
end
end K58
set_option Elab.async false
set_option linter.all false
set_option maxRecDepth 100000
set_option maxHeartbeats 2000000
namespace K58
open PySem PySem.Spec PyProof.Rows L2
/-! ### dicts by data, plainly -/
theorem putI_keys (kvs : List (Int × PyData)) (k : Int) (d : PyData) : (putI kvs k d).map (·.1) = if k ∈ kvs.map (·.1) then kvs.map (·.1) else kvs.map (·.1) ++ [k] := by
  have ha : (kvs.any fun kv => decide (kv.1 = k)) = true ↔ k ∈ kvs.map (·.1) := by
    rw [List.any_eq_true]
    constructor
    · rintro ⟨p, hp, e⟩
      exact List.mem_map.mpr ⟨p, hp, of_decide_eq_true e⟩
    · intro h
      obtain ⟨p, hp, e⟩ := List.mem_map.mp h
      exact ⟨p, hp, decide_eq_true e⟩
  unfold putI
  by_cases h : k ∈ kvs.map (·.1)
  · rw [if_pos (ha.mpr h), if_pos h, List.map_map]
    apply List.map_congr_left
    intro p _
    show (if p.1 = k then (p.1, d) else p).1 = p.1
    split <;> rfl
  · rw [if_neg (fun e => h (ha.mp e)), if_neg h, List.map_append]; rfl
theorem putI_nodup {kvs : List (Int × PyData)} (h : (kvs.map (·.1)).Nodup) (k : Int) (d : PyData) : ((putI kvs k d).map (·.1)).Nodup := by
  rw [putI_keys]
  by_cases hk : k ∈ kvs.map (·.1)
  · rw [if_pos hk]; exact h
  · rw [if_neg hk]
    exact List.nodup_append.mpr ⟨h, by simp, fun a ha b hb e => hk (by rw [← List.mem_singleton.mp hb, ← e]; exact ha)⟩
theorem putI_mem {kvs : List (Int × PyData)} {k : Int} {d : PyData} {p : Int × PyData} (h : p ∈ putI kvs k d) : p ∈ kvs ∨ p = (k, d) := by
  unfold putI at h
  split at h
  · obtain ⟨q, hq, e⟩ := List.mem_map.mp h
    split at e
    · rename_i z
      exact .inr (by rw [← e, z])
    · exact .inl (by rw [← e]; exact hq)
  · rcases List.mem_append.mp h with h | h
    · exact .inl h
    · exact .inr (List.mem_singleton.mp h)
theorem putI_len (kvs : List (Int × PyData)) (k : Int) (d : PyData) : (putI kvs k d).length = if k ∈ kvs.map (·.1) then kvs.length else kvs.length + 1 := by
  have := congrArg List.length (putI_keys kvs k d)
  rw [List.length_map] at this
  rw [this]
  split
  · rw [List.length_map]
  · rw [List.length_append, List.length_map]; rfl
theorem putI_ne (kvs : List (Int × PyData)) (k : Int) (d : PyData) : putI kvs k d ≠ [] := by
  intro e
  have h := putI_len kvs k d
  rw [e] at h
  split at h
  · rename_i hk
    have : kvs = [] := List.length_eq_zero_iff.mp h.symm
    rw [this] at hk
    cases hk
  · simp at h
theorem lookI_mem {kvs : List (Int × PyData)} {k : Int} (h : k ∈ kvs.map (·.1)) : ∃ d, lookI kvs k = some d ∧ (k, d) ∈ kvs := by
  unfold lookI
  cases e : kvs.find? fun kv => decide (kv.1 = k) with
  | none =>
    obtain ⟨p, hp, e2⟩ := List.mem_map.mp h
    have := List.find?_eq_none.mp e p hp
    rw [decide_eq_true e2] at this
    exact absurd rfl this
  | some p =>
    have h1 := List.mem_of_find?_eq_some e
    have h2 := List.find?_some e
    have h2 : p.1 = k := of_decide_eq_true h2
    exact ⟨p.2, rfl, by rw [← h2]; exact h1⟩
theorem lookI_some {kvs : List (Int × PyData)} {k : Int} (h : (lookI kvs k).isSome = true) : k ∈ kvs.map (·.1) := by
  unfold lookI at h
  cases e : kvs.find? fun kv => decide (kv.1 = k) with
  | none => rw [e] at h; cases h
  | some p =>
    have h2 := List.find?_some e
    exact List.mem_map.mpr ⟨p, List.mem_of_find?_eq_some e, of_decide_eq_true h2⟩
theorem strict_of {ys : List Int} (h : ys.Pairwise (· ≤ ·)) (n : ys.Nodup) : ys.Pairwise (· < ·) := by
  have := List.Pairwise.and h n
  exact this.imp fun h => by omega
theorem cut_take {α : Type} (xs : List α) (n : Nat) : cutG xs none (some (n : Int)) = xs.take n := by
  unfold cutG
  rw [HT.sIx_none, HT.sIx_nat, List.drop_zero, Nat.sub_zero]
  by_cases h : n ≤ xs.length
  · rw [Nat.min_eq_left h]
  · rw [Nat.min_eq_right (by omega), List.take_of_length_le (Nat.le_refl _), List.take_of_length_le (by omega)]
section
variable {K : PySem.W.Frag} {H0 : Hp}
theorem sx_asgGP {te : TE} {g : TG} {Γ : List Item} {P : PyData → Prop} {φ : Po} (h : EvP K H0 te Γ P) (hg : ∀ d, P d → ∃ js Γ', Tg K H0 g js d Γ Γ' ∧ φ.nx Γ') : Sx K H0 (tAsg te g) Γ φ := fun B H σ D E hd =>
  h B H σ E _ fun v d B2 H2 p s hv => by
    obtain ⟨js, Γ', tg, k⟩ := hg d p
    exact tg B2 H2 σ v (E.step s) hv _ fun σ' _ _ E' => hd.nx Γ' σ' B2 H2 k (s.rch E.oh) E'
theorem ev_upto {Γ : List Item} {t : TE} {ns : List Int} (h : Ev K H0 t Γ (intsD ns)) (n : Nat) : Ev K H0 (tSl (rSlL K) t tNoPart (tPart (tC (.int (n : Nat))))) Γ (intsD (ns.take n)) := ((en_slice h eo_none (eo_some ev_int)).is (by rw [cut_map, cut_take])).ev
/-! _law_wish -/
def wEnt (p : Int × PyData) : Prop := ∃ m b : Int, p.2 = encP (m, b) ∧ 1 ≤ p.1 ∧ p.1 ≤ G60 ∧ 1 ≤ m ∧ m ≤ G60 ∧ 0 ≤ b ∧ b ≤ 5
abbrev isWish : PyData → Prop := fun d => ∃ W : List Tri, d = wishD W ∧ WOk W
abbrev sp__law_wish (K : PySem.W.Frag) : Sp := spD K (fun a : List Int × Int => [.dat (intsD a.1), .dat (.int a.2)]) (fun a => a.1.length ≤ 1000 ∧ 2 ≤ a.2 ∧ a.2 ≤ 6) (fun _ d => isWish d)
theorem ev_pair {Γ : List Item} {t : TE} {n : Int} (h : Ev K H0 t Γ (.int n)) : EvP K H0 (tCall (sp__law_pair K) [] E0 (tCons t tNil)) Γ isPr := ev_callD n (ea_cons h ea_nil) trivial fun d e => e
theorem rd__law_wish (a : List Int × Int) (h : a.1.length ≤ 1000 ∧ 2 ≤ a.2 ∧ a.2 ≤ 6) : Sx K H0 (t__law_wish K (sp__law_pair K)) ([.dat (intsD a.1), .dat (.int a.2)] ++ List.replicate (N__law_wish.length - 2) .no) (poD K isWish) := by
  obtain ⟨ns, kd⟩ := a
  obtain ⟨h1, h2, h3⟩ := h
  have h2 : 2 ≤ kd := h2
  have h3 : kd ≤ 6 := h3
  refine sx_seq (sx_newK (sx_seq ?_))
  refine sx_for (ns.take 20) (wk_list (ev_upto (ev_var rfl) 20)) (fun pre Γ => ∃ kvs x3 x4 x5, Γ = [.dat (intsD ns), .dat (.int kd), .dk kvs, x3, x4, x5] ∧ (kvs.map (·.1)).Nodup ∧ (∀ p ∈ kvs, wEnt p) ∧ kvs.length ≤ pre.length) ⟨[], .no, .no, .no, rfl, .nil, (fun _ h => nomatch h), Nat.le_refl _⟩ ?_ ?_
  · rintro pre cell post Γ1 hb ⟨kvs, x3, x4, x5, rfl, hn, he, hl⟩
    have hlen : pre.length + 1 ≤ 20 := by
      have := congrArg List.length hb
      rw [List.length_take, List.length_append, List.length_cons] at this
      omega
    refine ⟨_, _, tg_name, ?_⟩
    refine sx_seq (sx_asgGP (ev_pair (ev_div (ev_var rfl) ev_int (by decide) (by decide))) fun d ⟨s, m, ed, s1, s2, m1, m2⟩ => ?_)
    subst ed
    refine ⟨_, _, tg_tup (tgs_cons tg_name (tgs_cons tg_name tgs_nil)) rfl, ?_⟩
    have b1 : 0 ≤ cell % 6 % kd := Int.emod_nonneg _ (by omega)
    have b2 : cell % 6 % kd < kd := Int.emod_lt_of_pos _ (by omega)
    refine sx_putK rfl (ev_tup (ds := [.int m, .int (cell % 6 % kd)]) (ea_cons (ev_var rfl) (ea_cons (ev_mod (ev_mod (ev_var rfl) ev_int (by decide)) (ev_var rfl) (by omega)) ea_nil)) (len_ok rfl)) (k := s) (ev_var rfl) (by omega) ?_
    refine ⟨_, _, _, _, rfl, putI_nodup hn _ _, fun p hp => ?_, ?_⟩
    · rcases putI_mem hp with hp | hp
      · exact he p hp
      · subst hp
        exact ⟨m, cell % 6 % kd, rfl, s1, s2, m1, m2, b1, by omega⟩
    · rw [putI_len, List.length_append]
      show _ ≤ pre.length + 1
      split <;> omega
  · rintro Γ1 ⟨kvs, x3, x4, x5, rfl, hn, he, hl⟩
    have hl20 : kvs.length ≤ 20 := by
      rw [List.length_take] at hl
      omega
    -- what is told from a dict that holds something
    have fin : ∀ kvs : List (Int × PyData), (kvs.map (·.1)).Nodup → (∀ p ∈ kvs, wEnt p) → kvs.length ≤ 20 → kvs ≠ [] → ∀ x4 x5, Sx K H0 (tRet (tLc (iList K (tCB rSortedK (tCons (tVar 2) tNil))) (gName 4) tYes (tTup (tCons (tVar 4) (tCons (tOp (rIxT K) (tDGet (tVar 2) (tVar 4)) (tC (.int 0))) (tCons (tOp (rIxT K) (tDGet (tVar 2) (tVar 4)) (tC (.int 1))) tNil)))) [4])) [.dat (intsD ns), .dat (.int kd), .dk kvs, x3, x4, x5] (poD K isWish) := by
      intro kvs hn he hl hne x4 x5
      let val : Int → Int × Int := fun s => match lookI kvs s with
        | some (.tuple [.int m, .int b]) => (m, b)
        | _ => (1, 0)
      have hval : ∀ s, s ∈ kvs.map (·.1) → lookI kvs s = some (encP (val s)) ∧ TriOk (s, val s) := fun s hs => by
        obtain ⟨d, e1, e2⟩ := lookI_mem hs
        obtain ⟨m, b, e3, k1, k2, k3, k4, k5, k6⟩ := he _ e2
        have e3 : d = encP (m, b) := e3
        subst e3
        have ev : val s = (m, b) := by
          show (match lookI kvs s with | some (.tuple [.int m, .int b]) => (m, b) | _ => (1, 0)) = (m, b)
          rw [e1]
        rw [ev]
        exact ⟨e1, k1, k2, k3, k4, k5, k6⟩
      have all : ∀ ys : List Int, ys.Perm (kvs.map (·.1)) → ys.Pairwise (· ≤ ·) → WOk (ys.map fun s => (s, val s)) := fun ys hp hs => by
        have hst := strict_of hs (hp.nodup_iff.mpr hn)
        refine ⟨?_, ?_, fun t ht => ?_, ?_⟩
        · rw [List.length_map, hp.length_eq, List.length_map]
          exact Nat.pos_of_ne_zero fun z => hne (List.length_eq_zero_iff.mp z)
        · rw [List.length_map, hp.length_eq, List.length_map]; exact hl
        · obtain ⟨s, hs', rfl⟩ := List.mem_map.mp ht
          exact (hval s (hp.mem_iff.mp hs')).2
        · exact List.pairwise_map.mpr hst
      refine sx_retP (ev_lcP (enc := PyData.int) (out := fun s => encT (s, val s)) (keep := fun _ => true) (fun ys : List Int => ys.Perm (kvs.map (·.1)) ∧ ys.Pairwise (· ≤ ·)) ((ev_sortedK rfl (by omega)).imp fun d ⟨ys, e, hp, hs⟩ => ⟨ys, ⟨hp, hs⟩, e⟩) (fun ys g => ?_) fun ys g s hs => ?_) (fun d ⟨ys, g, e⟩ => ?_) rfl
      · rw [g.1.length_eq, List.length_map]; omega
      · have hv := hval s (g.1.mem_iff.mp hs)
        exact ⟨_, _, tg_name, fun j h => h, et_yes, fun _ => ev_tup (ds := [.int s, .int (val s).1, .int (val s).2]) (ea_cons (ev_var rfl) (ea_cons (ev_op (ev_dgetK rfl (ev_var rfl) hv.1) ev_int (rv_ixT rfl)) (ea_cons (ev_op (ev_dgetK rfl (ev_var rfl) hv.1) ev_int (rv_ixT rfl)) ea_nil))) (len_ok rfl)⟩
      · refine ⟨ys.map fun s => (s, val s), ?_, all ys g.1 g.2⟩
        rw [e, List.filter_eq_self.mpr (fun _ _ => rfl), wishD, List.map_map]
        rfl
    cases kvs with
    | nil =>
      refine sx_seq (sx_if (b := true) (et_test (ev_op (ev_lenK rfl) ev_int rv_eqI)) (fun _ => ?_) (fun h => nomatch h))
      refine sx_putK rfl (ev_tup (ds := [.int 1, .int 0]) (ea_cons ev_int (ea_cons ev_int ea_nil)) (len_ok rfl)) (k := 7) ev_int (by decide) ?_
      refine fin (putI [] 7 (.tuple [.int 1, .int 0])) (putI_nodup (kvs := []) .nil _ _) (fun p hp => ?_) (by rw [putI_len]; decide) (putI_ne _ _ _) _ _
      rcases putI_mem hp with hp | hp
      · cases hp
      · subst hp
        exact ⟨1, 0, rfl, by decide, by decide, by decide, by decide, by decide, by decide⟩
    | cons p kvs =>
      refine sx_seq (sx_if (b := false) ((et_test (ev_op (ev_lenK rfl) ev_int rv_eqI)).is (decide_eq_false (by rw [List.length_cons]; omega))) (fun h => nomatch h) (fun _ => sx_next ?_))
      exact fin (p :: kvs) hn he hl20 (List.cons_ne_nil _ _) _ _
/-! _law_stock -/
def sEnt (p : Int × PyData) : Prop := ∃ q : Int, p.2 = .int q ∧ 1 ≤ p.1 ∧ p.1 ≤ G60 ∧ 0 ≤ q ∧ q ≤ G60
abbrev isStock : PyData → Prop := fun d => ∃ S : List (Int × Int), d = stockD S ∧ SOk S
abbrev lsArgs : List Int × List Tri × Bool → List Item := fun a => [.dat (intsD a.1), .dat (wishD a.2.1), .dat (.bool a.2.2)]
abbrev sp__law_stock (K : PySem.W.Frag) : Sp := spD K lsArgs (fun a => WOk a.2.1) (fun _ d => isStock d)
theorem rd__law_stock (a : List Int × List Tri × Bool) (h : WOk a.2.1) : Sx K H0 (t__law_stock K) (lsArgs a ++ List.replicate (N__law_stock.length - 3) .no) (poD K isStock) := by
  obtain ⟨ns, W, wh⟩ := a
  have w : WOk W := h
  have hn := w.l2
  have hn1 := w.l1
  refine sx_seq (sx_newK (sx_seq ?_))
  have main : ∀ (kvs : List (Int × PyData)) (x4 : Item), (kvs.map (·.1)).Nodup → (∀ p ∈ kvs, sEnt p) → kvs.length ≤ 30 → Sx K H0 (tSeq (tFor (iList K (tSl (rSlL K) (tVar 0) tNoPart (tPart (tC (.int 30))))) (gName 5) (tSeq (tAsg (tOp (rIxT K) (tOp (rIxL K) (tVar 1) (tOp (rI (fun _ j => 0 < j) fun i j => .int (i % j)) (tVar 5) (tCB (rLenQ K) (tCons (tVar 1) tNil)))) (tC (.int 0))) (gName 6))
      (tSeq (tAsg (tOp (rI CDivW fun i j => .int (i / j)) (tVar 5) (tC (.int 800))) (gName 7))
      (tSeq (tAsg (tOp (rIxL K) (tLst (tCons (tVar 6) (tCons (tOp (rI0 fun i j => .int (i + j)) (tVar 6) (tC (.int 1))) (tCons (tOp (rI0 fun i j => .int (i - j)) (tVar 6) (tC (.int 1))) (tCons (tOp (rI0 fun i j => .int (i + j)) (tVar 6) (tOp (rI (fun _ j => 0 < j) fun i j => .int (i % j)) (tVar 7) (tC (.int 50)))) (tCons (tOp (rI0 fun i j => .int (i + j)) (tC (.int 1)) (tOp (rI (fun _ j => 0 < j) fun i j => .int (i % j)) (tVar 7) (tOp (rI CPow fun i j => .int (i ^ j.toNat)) (tC (.int 10)) (tC (.int 60))))) tNil)))))) (tOp (rI (fun _ j => 0 < j) fun i j => .int (i % j)) (tOp (rI CDivW fun i j => .int (i / j)) (tVar 5) (tC (.int 160))) (tC (.int 5)))) (gName 8))
      (tSeq (tAsg (tOp (rI CDivW fun i j => .int (i / j)) (tVar 7) (tOp (rIxL K) (tLst (tCons (tC (.int 1)) (tCons (tC (.int 1)) (tCons (tC (.int 1)) (tCons (tC (.int 50)) (tCons (tOp (rI CPow fun i j => .int (i ^ j.toNat)) (tC (.int 10)) (tC (.int 60))) tNil)))))) (tOp (rI (fun _ j => 0 < j) fun i j => .int (i % j)) (tOp (rI CDivW fun i j => .int (i / j)) (tVar 5) (tC (.int 160))) (tC (.int 5))))) (gName 7))
      (tSeq (tAsg (tOp (rIxL K) (tLst (tCons (tOp (rI (fun _ j => 0 < j) fun i j => .int (i % j)) (tOp (rI CDivW fun i j => .int (i / j)) (tVar 7) (tC (.int 3))) (tC (.int 10))) (tCons (tOp (rI (fun _ j => 0 < j) fun i j => .int (i % j)) (tOp (rI CDivW fun i j => .int (i / j)) (tVar 7) (tC (.int 3))) (tOp (rI0 fun i j => .int (i + j)) (tOp (rI CPow fun i j => .int (i ^ j.toNat)) (tC (.int 10)) (tC (.int 60))) (tC (.int 1)))) (tCons (tOp (rI CPow fun i j => .int (i ^ j.toNat)) (tC (.int 10)) (tC (.int 60))) tNil)))) (tOp (rI (fun _ j => 0 < j) fun i j => .int (i % j)) (tVar 7) (tC (.int 3)))) (gName 9))
      (tIfS (tAnd (tTest (tChain (rI0 fun i j => .bl (decide (i ≤ j))) (rI0 fun i j => .bl (decide (i ≤ j))) (tC (.int 1)) (tVar 8) (tOp (rI CPow fun i j => .int (i ^ j.toNat)) (tC (.int 10)) (tC (.int 60))))) (tOr (tB (tDIn (tVar 8) (tVar 3))) (tTest (tOp (rI0 fun i j => .bl (decide (i < j))) (tCB rLenD (tCons (tVar 3) tNil)) (tC (.int 30)))))) (sDPut (tVar 3) (tVar 8) (tVar 9)) tNext)))))))
      (tRet (tLc (iList K (tCB rSortedK (tCons (tVar 3) tNil))) (gName 8) tYes (tTup (tCons (tVar 8) (tCons (tDGet (tVar 3) (tVar 8)) tNil))) [8])))
      [.dat (intsD ns), .dat (wishD W), .dat (.bool wh), .dk kvs, x4, .no, .no, .no, .no, .no] (poD K isStock) := by
    intro kvs x4 hnd hent hlen
    refine sx_seq (sx_for (ns.take 30) (wk_list (ev_upto (ev_var rfl) 30)) (fun pre Γ => ∃ kvs x5 x6 x7 x8 x9, Γ = [.dat (intsD ns), .dat (wishD W), .dat (.bool wh), .dk kvs, x4, x5, x6, x7, x8, x9] ∧ (kvs.map (·.1)).Nodup ∧ (∀ p ∈ kvs, sEnt p) ∧ kvs.length ≤ 30) ⟨kvs, .no, .no, .no, .no, .no, rfl, hnd, hent, hlen⟩ ?_ ?_)
    · rintro pre cell post Γ1 hb ⟨kvs, x5, x6, x7, x8, x9, rfl, hnd, hent, hlen⟩
      refine ⟨_, _, tg_name, ?_⟩
      obtain ⟨i, hi, hiW⟩ : ∃ i : Nat, cell % (W.length : Int) = (i : Int) ∧ i < W.length := by
        have h1 : 0 ≤ cell % (W.length : Int) := Int.emod_nonneg _ (by omega)
        have h2 : cell % (W.length : Int) < W.length := Int.emod_lt_of_pos _ (by omega)
        exact ⟨(cell % (W.length : Int)).toNat, by omega, by omega⟩
      have ti := w.tri hiW
      refine sx_seq (sx_asg (ev_siz (ev_W hiW (ev_var rfl) (Ev.is (ev_mod (ev_var rfl) (ev_lenW (ev_var rfl)) (by omega)) (by rw [hi])))) ?_)
      refine sx_seq (sx_asg (ev_div (ev_var rfl) ev_int (by decide) (by decide)) ?_)
      generalize cell / 800 = rest
      have q1 : 0 ≤ cell / 160 % 5 := Int.emod_nonneg _ (by decide)
      have q2 : cell / 160 % 5 < 5 := Int.emod_lt_of_pos _ (by decide)
      refine sx_seq (sx_asgP (P := isInt) (ev_op (ev_lst (ds := [.int (siz W i), .int (siz W i + 1), .int (siz W i - 1), .int (siz W i + rest % 50), .int (1 + rest % G60)]) (ea_cons (ev_var rfl) (ea_cons (ev_addI (ev_var rfl) ev_int) (ea_cons (ev_subI (ev_var rfl) ev_int) (ea_cons (ev_addI (ev_var rfl) (ev_mod (ev_var rfl) ev_int (by decide))) (ea_cons (ev_addI ev_int (ev_mod (ev_var rfl) ev_pow60 (by decide))) ea_nil))))) (len_ok rfl)) (ev_mod (ev_div (ev_var rfl) ev_int (by decide) (by decide)) ev_int (by decide)) (rv_ixLP q1 (by simpa using q2) fun d hd => ?_)) fun d ⟨op, e⟩ => ?_)
      · simp only [List.mem_cons, List.not_mem_nil, or_false] at hd
        rcases hd with rfl | rfl | rfl | rfl | rfl
        all_goals exact ⟨_, rfl⟩
      subst e
      refine sx_seq (sx_asgP (P := isInt) (ev_bin (P := fun d => d = .int rest) (R := fun d => ∃ w : Int, d = .int w ∧ 1 ≤ w ∧ w ≤ G60) (ev_var rfl) (ev_op (ev_lst (ds := [.int 1, .int 1, .int 1, .int 50, .int G60]) (ea_cons ev_int (ea_cons ev_int (ea_cons ev_int (ea_cons ev_int (ea_cons ev_pow60 ea_nil))))) (len_ok rfl)) (ev_mod (ev_div (ev_var rfl) ev_int (by decide) (by decide)) ev_int (by decide)) (rv_ixLP q1 (by simpa using q2) fun d hd => ?_)) fun dx dy ex ⟨w, ew, w1, w2⟩ => ?_) fun d ⟨rs, e⟩ => ?_)
      · simp only [List.mem_cons, List.not_mem_nil, or_false] at hd
        rcases hd with rfl | rfl | rfl | rfl | rfl
        all_goals exact ⟨_, rfl, by decide, by decide⟩
      · subst ex ew
        intro B H x y o hx hy Q q
        exact rv_CI (C := CDivW) (g := fun i j => i / j) (div_ok (by omega) (by omega)) B H x y o hx hy Q fun v d B2 H2 e => q v d B2 H2 ⟨_, e⟩
      subst e
      have r1 : 0 ≤ rs % 3 := Int.emod_nonneg _ (by decide)
      have r2 : rs % 3 < 3 := Int.emod_lt_of_pos _ (by decide)
      have g10 : (100 : Int) ≤ G60 := by decide
      refine sx_seq (sx_asgP (P := fun d => ∃ q : Int, d = .int q ∧ 0 ≤ q ∧ q ≤ G60) (ev_op (ev_lst (ds := [.int (rs / 3 % 10), .int (rs / 3 % (G60 + 1)), .int G60]) (ea_cons (ev_mod (ev_div (ev_var rfl) ev_int (by decide) (by decide)) ev_int (by decide)) (ea_cons (ev_mod (ev_div (ev_var rfl) ev_int (by decide) (by decide)) (ev_addI ev_pow60 ev_int) (by decide)) (ea_cons ev_pow60 ea_nil))) (len_ok rfl)) (ev_mod (ev_var rfl) ev_int (by decide)) (rv_ixLP r1 (by simpa using r2) fun d hd => ?_)) fun d ⟨pr, e, p1, p2⟩ => ?_)
      · simp only [List.mem_cons, List.not_mem_nil, or_false] at hd
        have a1 : 0 ≤ rs / 3 % 10 := Int.emod_nonneg _ (by decide)
        have a2 : rs / 3 % 10 < 10 := Int.emod_lt_of_pos _ (by decide)
        have a3 : 0 ≤ rs / 3 % (G60 + 1) := Int.emod_nonneg _ (by decide)
        have a4 : rs / 3 % (G60 + 1) < G60 + 1 := Int.emod_lt_of_pos _ (by decide)
        rcases hd with rfl | rfl | rfl
        · exact ⟨_, rfl, a1, by omega⟩
        · exact ⟨_, rfl, a3, by omega⟩
        · exact ⟨_, rfl, by decide, Int.le_refl _⟩
      subst e
      refine sx_if (et_and (et_test (ev_chain ev_int (ev_var rfl) rv_IB (fun _ => ev_pow60) (fun _ => rv_IB))) fun _ => et_or (et_inK rfl (ev_var rfl)) fun _ => et_test (ev_op (ev_lenK rfl) ev_int rv_IB)) (fun hb => ?_) (fun _ => sx_next ⟨kvs, _, _, _, _, _, rfl, hnd, hent, hlen⟩)
      simp only [Bool.and_eq_true, Bool.or_eq_true, decide_eq_true_eq] at hb
      obtain ⟨⟨o1, o2⟩, o3⟩ := hb
      refine sx_putK rfl (ev_var rfl) (ev_var rfl) (by omega) ⟨_, _, _, _, _, _, rfl, putI_nodup hnd _ _, fun p hp => ?_, ?_⟩
      · rcases putI_mem hp with hp | hp
        · exact hent p hp
        · subst hp
          exact ⟨pr, rfl, o1, o2, p1, p2⟩
      · rw [putI_len]
        split
        · exact hlen
        · rename_i hk
          rcases o3 with o3 | o3
          · exact absurd (lookI_some o3) hk
          · omega
    · rintro Γ1 ⟨kvs, x5, x6, x7, x8, x9, rfl, hnd, hent, hlen⟩
      let val : Int → Int := fun s => match lookI kvs s with
        | some (.int q) => q
        | _ => 0
      have hval : ∀ s, s ∈ kvs.map (·.1) → lookI kvs s = some (.int (val s)) ∧ PrOk (s, val s) := fun s hs => by
        obtain ⟨d, e1, e2⟩ := lookI_mem hs
        obtain ⟨q, e3, k1, k2, k3, k4⟩ := hent _ e2
        have e3 : d = .int q := e3
        subst e3
        have ev : val s = q := by
          show (match lookI kvs s with | some (.int q) => q | _ => 0) = q
          rw [e1]
        rw [ev]
        exact ⟨e1, k1, k2, k3, k4⟩
      refine sx_retP (ev_lcP (enc := PyData.int) (out := fun s => encP (s, val s)) (keep := fun _ => true) (fun ys : List Int => ys.Perm (kvs.map (·.1)) ∧ ys.Pairwise (· ≤ ·)) ((ev_sortedK rfl (by omega)).imp fun d ⟨ys, e, hp, hs⟩ => ⟨ys, ⟨hp, hs⟩, e⟩) (fun ys g => ?_) fun ys g s hs => ?_) (fun d ⟨ys, g, e⟩ => ?_) rfl
      · rw [g.1.length_eq, List.length_map]; omega
      · have hv := hval s (g.1.mem_iff.mp hs)
        exact ⟨_, _, tg_name, fun j h => h, et_yes, fun _ => ev_tup (ds := [.int s, .int (val s)]) (ea_cons (ev_var rfl) (ea_cons (ev_dgetK rfl (ev_var rfl) hv.1) ea_nil)) (len_ok rfl)⟩
      · refine ⟨ys.map fun s => (s, val s), ?_, ?_, fun t ht => ?_, ?_⟩
        · rw [e, List.filter_eq_self.mpr (fun _ _ => rfl), stockD, List.map_map]
          rfl
        · rw [List.length_map, g.1.length_eq, List.length_map]; exact hlen
        · obtain ⟨s, hs', rfl⟩ := List.mem_map.mp ht
          exact (hval s (g.1.mem_iff.mp hs')).2
        · exact List.pairwise_map.mpr (strict_of g.2 (g.1.nodup_iff.mpr hnd))
  refine sx_if (et_B (ev_var rfl)) (fun _ => ?_) (fun _ => sx_next (main [] .no .nil (fun _ h => nomatch h) (by decide)))
  refine sx_for W (wk_list (ev_var rfl)) (fun pre Γ => ∃ kvs x4, Γ = [.dat (intsD ns), .dat (wishD W), .dat (.bool wh), .dk kvs, x4, .no, .no, .no, .no, .no] ∧ (kvs.map (·.1)).Nodup ∧ (∀ p ∈ kvs, sEnt p) ∧ kvs.length ≤ pre.length) ⟨[], .no, rfl, .nil, (fun _ h => nomatch h), Nat.le_refl _⟩ ?_ ?_
  · rintro pre t post Γ1 hb ⟨kvs, x4, rfl, hnd, hent, hlen⟩
    have ht : t ∈ W := by rw [hb]; simp
    have tk := w.all t ht
    have hl : pre.length + 1 ≤ W.length := by
      have := congrArg List.length hb
      rw [List.length_append, List.length_cons] at this
      omega
    refine ⟨_, _, tg_name, ?_⟩
    refine sx_putK rfl (ev_mod (ev_div (ev_op (ev_var rfl) ev_int (rv_ixT (d := .int t.1) rfl)) ev_int (by decide) (by decide)) ev_int (by decide)) (k := t.1) (ev_op (ev_var rfl) ev_int (rv_ixT rfl)) (by omega) ⟨_, _, rfl, putI_nodup hnd _ _, fun p hp => ?_, ?_⟩
    · rcases putI_mem hp with hp | hp
      · exact hent p hp
      · subst hp
        have a1 : 0 ≤ t.1 / 3 % 10 := Int.emod_nonneg _ (by decide)
        have a2 : t.1 / 3 % 10 < 10 := Int.emod_lt_of_pos _ (by decide)
        have g10 : (100 : Int) ≤ G60 := by decide
        exact ⟨_, rfl, tk.s1, tk.s2, a1, by omega⟩
    · rw [putI_len, List.length_append]
      show _ ≤ pre.length + 1
      split <;> omega
  · rintro Γ1 ⟨kvs, x4, rfl, hnd, hent, hlen⟩
    exact main kvs x4 hnd hent (by omega)
end
end K58
set_option Elab.async false
set_option linter.all false
set_option maxRecDepth 100000
set_option maxHeartbeats 2000000
namespace K58
open PySem PySem.Spec PyProof.Rows L2
section
variable {K : PySem.W.Frag} {H0 : Hp}
/-! _law_shut -/
def shutD (W : List Tri) (S : List (Int × Int)) : PyData := match firstShut W S with
  | none => .none
  | some i => encP (siz W i, siz W (i + 1))
abbrev sp__law_shut (K : PySem.W.Frag) : Sp := spD K ltArgs (fun a => a.1.length ≤ 1000 ∧ a.2.length ≤ 1000) (fun a d => d = shutD a.1 a.2)
theorem range_split {n i : Nat} {pre post : List Nat} (h : List.range n = pre ++ i :: post) : i = pre.length ∧ pre.length < n ∧ pre = List.range pre.length := by
  have hl : pre.length < n := by
    have := congrArg List.length h
    rw [List.length_range, List.length_append, List.length_cons] at this
    omega
  refine ⟨?_, hl, ?_⟩
  · have := congrArg (fun l => l[pre.length]?) h
    simp only [List.getElem?_append_right (Nat.le_refl _), Nat.sub_self] at this
    rw [List.getElem?_range hl] at this
    simpa using this.symm
  · have := congrArg (fun l => l.take pre.length) h
    simp only [List.take_left'] at this
    rw [← this, List.take_range, Nat.min_eq_left (by omega)]
    simp
theorem rd__law_shut (a : WS) (h : a.1.length ≤ 1000 ∧ a.2.length ≤ 1000) : Sx K H0 (t__law_shut K) (ltArgs a ++ List.replicate (N__law_shut.length - 2) .no) (poD K fun d => d = shutD a.1 a.2) := by
  obtain ⟨W, S⟩ := a
  obtain ⟨h1, h2⟩ := h
  have h1 : W.length ≤ 1000 := h1
  have h2 : S.length ≤ 1000 := h2
  have wk : Wk K H0 (iRng2 (tCons (tC (.int 1)) (tCons (tCB (rLenQ K) (tCons (tVar 0) tNil)) tNil))) (ltArgs (W, S) ++ List.replicate (N__law_shut.length - 2) .no) ((List.range (W.length - 1)).map fun k : Nat => .int ((1 : Int) + (k : Int))) := by
    have := wk_rng2 (K := K) (H0 := H0) (Γ := ltArgs (W, S) ++ List.replicate (N__law_shut.length - 2) .no) (ta := tC (.int 1)) (tb := tCB (rLenQ K) (tCons (tVar 0) tNil)) (m := 1) (n := (W.length : Int)) ev_int (ev_lenW (ev_var rfl)) (by omega) (by omega) (by omega) (by omega)
    rw [show ((W.length : Int) - 1).toNat = W.length - 1 by omega] at this
    exact this
  refine sx_seq (sx_for (List.range (W.length - 1)) wk (fun pre Γ => ∃ x2 x3 x4, Γ = [.dat (wishD W), .dat (stockD S), x2, x3, x4] ∧ ∀ i ∈ pre, shutP W S i = false) ⟨.no, .no, .no, rfl, fun _ h => nomatch h⟩ ?_ ?_)
  · rintro pre i post Γ1 hb ⟨x2, x3, x4, rfl, hp⟩
    obtain ⟨ei, hl, epre⟩ := range_split hb
    subst ei
    generalize hi : pre.length = i at *
    refine ⟨_, _, tg_name, ?_⟩
    have i0 : ∀ {Γ : List Item}, Γ[2]? = some (.dat (.int ((1 : Int) + (i : Nat)))) → Ev K H0 (tOp (rI0 fun i j => .int (i - j)) (tVar 2) (tC (.int 1))) Γ (.int (i : Nat)) := fun {Γ} h => Ev.is (ev_subI (ev_var h) ev_int) (by rw [show (1 : Int) + (i : Nat) - 1 = (i : Nat) by omega])
    have i1 : ∀ {Γ : List Item}, Γ[2]? = some (.dat (.int ((1 : Int) + (i : Nat)))) → Ev K H0 (tVar 2) Γ (.int ((i + 1 : Nat) : Int)) := fun {Γ} h => Ev.is (ev_var h) (by rw [show (1 : Int) + (i : Nat) = ((i + 1 : Nat) : Int) by omega])
    have w0 : ∀ {Γ : List Item}, Γ[0]? = some (.dat (wishD W)) → Γ[2]? = some (.dat (.int ((1 : Int) + (i : Nat)))) → Ev K H0 (tOp (rIxL K) (tVar 0) (tOp (rI0 fun i j => .int (i - j)) (tVar 2) (tC (.int 1)))) Γ (encT (tri W i)) := fun {Γ} e0 e2 => ev_W (by omega) (ev_var e0) (i0 e2)
    have w1 : ∀ {Γ : List Item}, Γ[0]? = some (.dat (wishD W)) → Γ[2]? = some (.dat (.int ((1 : Int) + (i : Nat)))) → Ev K H0 (tOp (rIxL K) (tVar 0) (tVar 2)) Γ (encT (tri W (i + 1))) := fun {Γ} e0 e2 => ev_W (by omega) (ev_var e0) (i1 e2)
    refine sx_seq (sx_asg (d := stockD (betw S (siz W i) (siz W (i + 1)))) (en_lc (out := encP) (keep := fun p : Int × Int => decide (siz W i ≤ p.1) && decide (p.1 < siz W (i + 1))) S (wk_list (ev_var rfl)) (by omega) fun p hp => ?_).ev ?_)
    · exact ⟨_, _, tg_name, fun j h => h, et_test (ev_chain (ev_siz (w0 rfl rfl)) (ev_op (ev_var rfl) ev_int (rv_ixT (d := .int p.1) rfl)) rv_IB (fun _ => ev_siz (w1 rfl rfl)) (fun _ => rv_IB)), fun _ => ev_var rfl⟩
    · have et : EvT K H0 (tAnd (tTest (tOp rNe (tOp (rIxT K) (tOp (rIxL K) (tVar 0) (tOp (rI0 fun i j => .int (i - j)) (tVar 2) (tC (.int 1)))) (tC (.int 2))) (tOp (rIxT K) (tOp (rIxL K) (tVar 0) (tVar 2)) (tC (.int 2))))) (tTest (tOp rEq (tCB (rLenQ K) (tCons (tVar 3) tNil)) (tC (.int 0)))))
          [.dat (wishD W), .dat (stockD S), .dat (.int ((1 : Int) + (i : Nat))), .dat (stockD (betw S (siz W i) (siz W (i + 1)))), x4] (shutP W S i) :=
        (et_and (et_test (ev_op (ev_binW (w0 rfl rfl)) (ev_binW (w1 rfl rfl)) rv_neI)) fun _ => et_test (ev_op (ev_lenW (ev_var rfl)) ev_int rv_eqI)).is (by
          unfold shutP
          congr 1
          cases betw S (siz W i) (siz W (i + 1)) with
          | nil => rfl
          | cons p l => exact decide_eq_false (by rw [List.length_cons]; omega))
      refine sx_if et (fun hb' => ?_) (fun hb' => ?_)
      · refine sx_retP (ev_tup (ds := [.int (siz W i), .int (siz W (i + 1))]) (ea_cons (ev_siz (w0 rfl rfl)) (ea_cons (ev_siz (w1 rfl rfl)) ea_nil)) (len_ok rfl)) (fun d e => ?_) rfl
        have : firstShut W S = some i := by
          unfold firstShut
          rw [hb, List.find?_append, List.find?_eq_none.mpr (fun x hx => by rw [hp x hx]; decide)]
          simp [hb']
        show d = shutD W S
        unfold shutD
        rw [this]
        exact e
      · refine sx_next ⟨_, _, _, rfl, fun j hj => ?_⟩
        rcases List.mem_append.mp hj with hj | hj
        · exact hp j hj
        · rw [List.mem_singleton.mp hj]; exact hb'
  · rintro Γ1 ⟨x2, x3, x4, rfl, hp⟩
    refine sx_retP ev_non (fun d e => ?_) rfl
    have : firstShut W S = none := List.find?_eq_none.mpr (fun x hx => by rw [hp x hx]; decide)
    show d = shutD W S
    unfold shutD
    rw [this]
    exact e
/-! _law_met -/
def mets : Tree → Int → List Int
  | .leaf _, _ => []
  | .node o u v, s => o :: (if s ≤ o then mets u s else mets v s)
def endT : Tree → Int → Int
  | .leaf n, _ => n
  | .node o u v, s => if s ≤ o then endT u s else endT v s
def dep : Tree → Nat
  | .leaf _ => 0
  | .node _ u v => max (dep u) (dep v) + 1
abbrev TI2 := Tree × Int
abbrev metArgs : TI2 → List Item := fun a => [.dat (encTr a.1), .dat (.int a.2)]
abbrev sp__law_met (K : PySem.W.Frag) : Sp := spD K metArgs (fun a => dep a.1 ≤ 1000) (fun a d => d = .tuple [intsD (mets a.1 a.2), .int (endT a.1 a.2)])
theorem isTup {Γ : List Item} {t : TE} {tr : Tree} (h : Ev K H0 t Γ (encTr tr)) : Ev K H0 (tCB (rIsi K) (tCons t (tCons (tC (.ty "tuple")) tNil))) Γ (.bool (match tr with | .leaf _ => false | .node _ _ _ => true)) := by
  cases tr with
  | leaf n => exact ev_isi h (by decide +kernel : kitB "int" "tuple" = some false)
  | node o u v => exact ev_isi h (by decide +kernel : kitB "tuple" "tuple" = some true)
theorem rd__law_met (a : TI2) (h : dep a.1 ≤ 1000) : Sx K H0 (t__law_met K) (metArgs a ++ List.replicate (N__law_met.length - 2) .no) (poD K fun d => d = .tuple [intsD (mets a.1 a.2), .int (endT a.1 a.2)]) := by
  obtain ⟨tr, s⟩ := a
  have h : dep tr ≤ 1000 := h
  refine sx_seq (sx_newL (sx_seq ?_))
  refine sx_while (fun m Γ => ∃ t acc, Γ = [.dat (encTr t), .dat (.int s), .lst ((acc : List Int).map .int)] ∧ dep t = m ∧ acc.length + dep t ≤ 1000 ∧ mets tr s = acc ++ mets t s ∧ endT tr s = endT t s) (dep tr) ⟨tr, [], rfl, rfl, by simpa using h, rfl, rfl⟩ ?_
  rintro m Γ1 ⟨t, acc, rfl, hm, hb, he, hf⟩
  cases t with
  | leaf n =>
    refine ⟨false, et_B (isTup (tr := .leaf n) (ev_var rfl)), fun h => (nomatch h), fun _ => ?_⟩
    refine sx_freeze (i := 2) rfl (sx_retP (ev_tup (ds := [intsD acc, .int n]) (ea_cons (ev_var rfl) (ea_cons (ev_var rfl) ea_nil)) (len_ok rfl)) (fun d e => ?_) rfl)
    show d = .tuple [intsD (mets tr s), .int (endT tr s)]
    rw [he, hf, e]
    show _ = PyData.tuple [intsD (acc ++ []), .int n]
    rw [List.append_nil]
  | node o u v =>
    have hd : dep (.node o u v) = max (dep u) (dep v) + 1 := rfl
    refine ⟨true, et_B (isTup (tr := .node o u v) (ev_var rfl)), fun _ => ?_, fun h => (nomatch h)⟩
    refine sx_seq (sx_app rfl (ev_op (ev_var rfl) ev_int (rv_ixT (ds := [.int o, encTr u, encTr v]) (d := .int o) rfl)) (by rw [List.length_map]; omega) fun d e => ?_)
    subst e
    have key : ∀ w : Tree, dep w < m → mets (.node o u v) s = o :: mets w s → endT (.node o u v) s = endT w s → ∃ m', m' < m ∧ ∃ t acc', ([.dat (encTr w), .dat (.int s), .lst (acc.map .int ++ [.int o])] : List Item) = [.dat (encTr t), .dat (.int s), .lst ((acc' : List Int).map .int)] ∧ dep t = m' ∧ acc'.length + dep t ≤ 1000 ∧ mets tr s = acc' ++ mets t s ∧ endT tr s = endT t s := fun w hw e1 e2 =>
      ⟨dep w, hw, w, acc ++ [o], by rw [List.map_append]; rfl, rfl, by rw [List.length_append]; show acc.length + 1 + _ ≤ _; omega, by rw [he, e1]; simp, by rw [hf, e2]⟩
    have o0 : Ev K H0 (tOp (rIxT K) (tVar 0) (tC (.int 0))) [.dat (encTr (.node o u v)), .dat (.int s), .lst (acc.map .int ++ [.int o])] (.int o) := ev_op (ev_var rfl) ev_int (rv_ixT (ds := [.int o, encTr u, encTr v]) rfl)
    have ix : Ev K H0 (tOp (rI0 fun i j => .int (i + j)) (tC (.int 1)) (tCB rInt1 (tCons (tOp (rI0 fun i j => .bl (decide (j < i))) (tVar 1) (tOp (rIxT K) (tVar 0) (tC (.int 0)))) tNil))) [.dat (encTr (.node o u v)), .dat (.int s), .lst (acc.map .int ++ [.int o])] (.int (1 + (if decide (o < s) then 1 else 0))) := ev_addI ev_int (ev_intB (ev_op (ev_var rfl) o0 rv_IB))
    by_cases c : s ≤ o
    · refine sx_asg (d := encTr u) (ev_op (ev_var rfl) ix (rv_ixT (ds := [.int o, encTr u, encTr v]) (by rw [decide_eq_false (show ¬ o < s by omega)]; rfl))) ?_
      exact key u (by omega) (by rw [mets, if_pos c]) (by rw [endT, if_pos c])
    · refine sx_asg (d := encTr v) (ev_op (ev_var rfl) ix (rv_ixT (ds := [.int o, encTr u, encTr v]) (by rw [decide_eq_true (show o < s by omega)]; rfl))) ?_
      exact key v (by omega) (by rw [mets, if_neg c]) (by rw [endT, if_neg c])
theorem ev_met {Γ : List Item} {t1 t2 : TE} {tr : Tree} {s : Int} (h : dep tr ≤ 1000) (h1 : Ev K H0 t1 Γ (encTr tr)) (h2 : Ev K H0 t2 Γ (.int s)) : Ev K H0 (tCall (sp__law_met K) [] E0 (tCons t1 (tCons t2 tNil))) Γ (.tuple [intsD (mets tr s), .int (endT tr s)]) := ev_callD (tr, s) (ea_cons h1 (ea_cons h2 ea_nil)) h fun d e => e
/-! _law_is_tree -/
def treeOk (os : List Int) : Tree → Prop
  | .leaf n => 0 ≤ n ∧ n ≤ 5
  | .node o u v => o ∈ os ∧ treeOk os u ∧ treeOk os v
abbrev TO2 := Tree × List Int
abbrev itArgs : TO2 → List Item := fun a => [.dat (encTr a.1), .dat (intsD a.2)]
abbrev sp__law_is_tree (K : PySem.W.Frag) (m : Nat) : Sp := spD K itArgs (fun a => dep a.1 < m ∧ treeOk a.2 a.1) (fun a d => d = .bool true)
theorem rd__law_is_tree (m : Nat) (a : TO2) (h : dep a.1 < m + 1 ∧ treeOk a.2 a.1) : Sx K H0 (t__law_is_tree K (sp__law_whole K) (sp__law_is_tree K m)) (itArgs a ++ List.replicate (N__law_is_tree.length - 2) .no) (poD K fun d => d = .bool true) := by
  obtain ⟨tr, os⟩ := a
  obtain ⟨hd, ho⟩ := h
  cases tr with
  | leaf n =>
    have ho : 0 ≤ n ∧ n ≤ 5 := ho
    refine sx_seq (sx_if (b := true) (et_not (et_B (isTup (tr := .leaf n) (ev_var rfl)))) (fun _ => ?_) (fun h => nomatch h))
    refine sx_retP (ev_andV (ev_whole (n := n) (ev_var rfl)) fun _ => ev_chain ev_int (ev_var (d := .int n) rfl) rv_IB (fun _ => ev_int) (fun _ => rv_IB)) (fun d e => ?_) rfl
    rw [e, decide_eq_true ho.1, decide_eq_true ho.2]; rfl
  | node o u v =>
    have ho : o ∈ os ∧ treeOk os u ∧ treeOk os v := ho
    have hdd : max (dep u) (dep v) + 1 < m + 1 := hd
    refine sx_seq (sx_if (b := false) (et_not (et_B (isTup (tr := .node o u v) (ev_var rfl)))) (fun h => nomatch h) (fun _ => sx_next ?_))
    refine sx_seq (sx_if (b := false) ((et_or (et_test (ev_op (ev_lenT (ds := [.int o, encTr u, encTr v]) (ev_var rfl)) ev_int rv_neI)) fun _ => et_or (et_not (et_B (ev_whole (n := o) (ev_op (ev_var rfl) ev_int (rv_ixT (ds := [.int o, encTr u, encTr v]) rfl))))) fun _ => et_test (ev_op (ev_op (ev_var rfl) ev_int (rv_ixT (ds := [.int o, encTr u, encTr v]) (d := .int o) rfl)) (ev_var (d := intsD os) rfl) rv_notIn)).is ?_) (fun h => nomatch h) (fun _ => sx_next ?_))
    · rw [decide_eq_true ho.1]; rfl
    · refine sx_retP (ev_andV (ev_callD (P := fun d => d = .bool true) (u, os) (ea_cons (ev_op (ev_var rfl) ev_int (rv_ixT (ds := [.int o, encTr u, encTr v]) rfl)) (ea_cons (ev_var rfl) ea_nil)) ⟨by show dep u < m; omega, ho.2.1⟩ fun d e => e) fun _ => ev_callD (P := fun d => d = .bool true) (v, os) (ea_cons (ev_op (ev_var rfl) ev_int (rv_ixT (ds := [.int o, encTr u, encTr v]) rfl)) (ea_cons (ev_var rfl) ea_nil)) ⟨by show dep v < m; omega, ho.2.2⟩ fun d e => e) (fun d e => e) rfl
/-! _law_served -/
structure TW where
  t : Tree
  W : List Tri
  S : List (Int × Int)
abbrev twArgs : TW → List Item := fun a => [.dat (encTr a.t), .dat (wishD a.W), .dat (stockD a.S)]
structure svPre (a : TW) : Prop where
  d : dep a.t ≤ 20
  o : treeOk (a.S.map (·.1)) a.t
  w : a.W.length ≤ 1000
  s : a.S.length ≤ 1000
  e : ∀ x ∈ a.W, endT a.t x.1 = x.2.2
abbrev sp__law_served (K : PySem.W.Frag) : Sp := spD K twArgs svPre (fun _ d => d = .bool true)
theorem shaped_int (n : Int) : SeqAt.shaped (.int n) = true := shaped_of (by simp [PyData.canLay0]) (by simp [PyData.depth])
theorem rd__law_served (a : TW) (h : svPre a) : Sx K H0 (t__law_served K (sp__law_is_tree K 21) (sp__law_met K)) (twArgs a ++ List.replicate (N__law_served.length - 3) .no) (poD K fun d => d = .bool true) := by
  obtain ⟨tr, W, S⟩ := a
  obtain ⟨hd, ho, hw, hs, he⟩ := h
  have hd : dep tr ≤ 20 := hd
  have hw : W.length ≤ 1000 := hw
  have hs : S.length ≤ 1000 := hs
  refine sx_seq (sx_if (b := false) (et_not (et_B (ev_callD (P := fun d => d = .bool true) (tr, S.map (·.1)) (ea_cons (ev_var rfl) (ea_cons ((en_map (out := fun p : Int × Int => .int p.1) S (wk_list (ev_var rfl)) (by omega) fun p hp => ?_).is ?_).ev ea_nil)) ⟨by show dep tr < 21; omega, ho⟩ fun d e => e))) (fun h => nomatch h) (fun _ => sx_next ?_))
  · exact ⟨_, _, tg_name, fun j h => h, ev_op (ev_var rfl) ev_int (rv_ixT rfl)⟩
  · rw [List.map_map]; rfl
  · refine sx_retP (ev_op (ev_lenW (f := encT) (l := W.filter fun _ => false) (en_lc (enc := encT) (out := encT) (keep := fun _ => false) W (wk_list (ev_var rfl)) (by omega) fun x hx => ?_).ev) ev_int rv_eqI) (fun d e => ?_) rfl
    · refine ⟨_, _, tg_name, fun j h => h, (et_test (ev_op (ev_op (ev_met (by omega) (ev_var rfl) (ev_op (ev_var rfl) ev_int (rv_ixT (d := .int x.1) rfl))) ev_int (rv_ixT (d := .int (endT tr x.1)) rfl)) (ev_op (ev_var rfl) ev_int (rv_ixT (d := .int x.2.2) rfl)) (rv_neD (shaped_int _) (shaped_int _)))).is ?_, fun h => nomatch h⟩
      have e := he x hx
      have e : endT tr x.1 = x.2.2 := e
      rw [e]
      simp [PyData.eqv]
    · rw [e]
      have : W.filter (fun _ => false) = [] := by simp
      rw [this]; rfl
end
end K58
set_option Elab.async false
set_option linter.all false
set_option maxRecDepth 100000
set_option maxHeartbeats 2000000
namespace K58
open PySem PySem.Spec PyProof.Rows L2
/-! ### trees that cut W at its borders -/
inductive CutT (W : List Tri) (S : List (Int × Int)) : Nat → Nat → Tree → Prop
  | leaf (i j : Nat) : (∀ k, i ≤ k → k ≤ j → bin W k = bin W i) → CutT W S i j (.leaf (bin W i))
  | node (i j k : Nat) (o p : Int) (u v : Tree) : i ≤ k → k < j → (o, p) ∈ S → siz W k ≤ o → o < siz W (k + 1) → CutT W S i k u → CutT W S (k + 1) j v → CutT W S i j (.node o u v)
def pr (S : List (Int × Int)) (o : Int) : Int := match S.find? (fun p => decide (p.1 = o)) with
  | some p => p.2
  | none => 0
def cost (S : List (Int × Int)) (t : Tree) (s : Int) : Int := ((mets t s).map (pr S)).sum
def wk (S : List (Int × Int)) (t : Tree) (l : List Tri) : Int := (l.map fun x => x.2.1 * cost S t x.1).sum
theorem pr_of {S : List (Int × Int)} (h : S.Pairwise fun a b => a.1 < b.1) {o p : Int} (hm : (o, p) ∈ S) : S.find? (fun q => decide (q.1 = o)) = some (o, p) := by
  induction S with
  | nil => cases hm
  | cons q S ih =>
    obtain ⟨h1, h2⟩ := List.pairwise_cons.mp h
    rcases List.mem_cons.mp hm with e | hm
    · subst e; simp
    · have := h1 _ hm
      have this : q.1 < o := this
      rw [List.find?_cons, decide_eq_false (by omega)]
      exact ih h2 hm
theorem SOk.pr {S : List (Int × Int)} (s : SOk S) {o p : Int} (hm : (o, p) ∈ S) : pr S o = p := by
  unfold K58.pr
  rw [pr_of s.up hm]
theorem pr_b {S : List (Int × Int)} (s : SOk S) (o : Int) : 0 ≤ pr S o ∧ pr S o ≤ G60 := by
  unfold K58.pr
  cases e : S.find? (fun q => decide (q.1 = o)) with
  | none => exact ⟨Int.le_refl _, by decide⟩
  | some p => exact ⟨(s.all _ (List.mem_of_find?_eq_some e)).p1, (s.all _ (List.mem_of_find?_eq_some e)).p2⟩
theorem mets_len : ∀ (t : Tree) (s : Int), (mets t s).length ≤ dep t
  | .leaf _, _ => by simp [mets, dep]
  | .node o u v, s => by
    have h1 := mets_len u s
    have h2 := mets_len v s
    rw [mets, dep, List.length_cons]
    split <;> omega
theorem cost_b {S : List (Int × Int)} (s : SOk S) (t : Tree) (z : Int) : 0 ≤ cost S t z ∧ cost S t z ≤ dep t * G60 := by
  unfold cost
  have h := sum_bound (l := (mets t z).map (pr S)) (c := G60) (fun x hx => by
    obtain ⟨o, _, rfl⟩ := List.mem_map.mp hx
    exact pr_b s o) (by decide)
  rw [List.length_map] at h
  have h2 := mets_len t z
  have h3 : ((mets t z).length : Int) * G60 ≤ (dep t : Int) * G60 := Int.mul_le_mul_of_nonneg_right (by omega) (by decide)
  omega
theorem CutT.ok {W : List Tri} {S : List (Int × Int)} (w : WOk W) : ∀ {i j : Nat} {t : Tree}, CutT W S i j t → i ≤ j → j < W.length → treeOk (S.map (·.1)) t ∧ dep t ≤ j - i
  | _, _, _, .leaf i j h, hij, hj => by
    have := w.tri (i := i) (by omega)
    exact ⟨⟨this.b1, this.b2⟩, by simp [dep]⟩
  | _, _, _, .node i j k o p u v h1 h2 hm h3 h4 a b, hij, hj => by
    obtain ⟨a1, a2⟩ := CutT.ok w a (by omega) (by omega)
    obtain ⟨b1, b2⟩ := CutT.ok w b (by omega) (by omega)
    refine ⟨⟨List.mem_map.mpr ⟨_, hm, rfl⟩, a1, b1⟩, ?_⟩
    rw [dep]
    omega
theorem slc_mem' {W : List Tri} {i j : Nat} (hij : i ≤ j) (hj : j < W.length) {t : Tri} (h : t ∈ slc W i j) : ∃ k, i ≤ k ∧ k ≤ j ∧ t = tri W k := by
  obtain ⟨n, hn, e⟩ := List.getElem_of_mem h
  have hl := slc_len hij hj
  have := slc_get hij hj (k := n) (by omega)
  rw [List.getElem?_eq_getElem hn] at this
  exact ⟨i + n, by omega, by omega, by rw [← e]; exact Option.some.inj this⟩
theorem siz_le {W : List Tri} (w : WOk W) {i j : Nat} (hij : i ≤ j) (h : j < W.length) : siz W i ≤ siz W j := by
  rcases Nat.lt_or_ge i j with h1 | h1
  · exact Int.le_of_lt (w.lt h1 h)
  · have : i = j := by omega
    rw [this]; exact Int.le_refl _
theorem slc_split {W : List Tri} {i j k : Nat} (h1 : i ≤ k) (h2 : k < j) (hj : j < W.length) : slc W i j = slc W i k ++ slc W (k + 1) j := by
  rw [slc_eq (by omega) hj, slc_eq h1 (by omega), slc_eq (by omega) hj]
  rw [show j + 1 - i = (k + 1 - i) + (j + 1 - (k + 1)) by omega, List.take_add, List.drop_drop, show i + (k + 1 - i) = k + 1 by omega]
theorem CutT.serves {W : List Tri} {S : List (Int × Int)} (w : WOk W) : ∀ {i j : Nat} {t : Tree}, CutT W S i j t → i ≤ j → j < W.length → ∀ k, i ≤ k → k ≤ j → endT t (siz W k) = bin W k
  | _, _, _, .leaf i j h, hij, hj, k, h1, h2 => (h k h1 h2).symm
  | _, _, _, .node i j c o p u v h1 h2 hm h3 h4 a b, hij, hj, k, k1, k2 => by
    rw [endT]
    by_cases q : k ≤ c
    · have := siz_le w (i := k) (j := c) q (by omega)
      rw [if_pos (by omega)]
      exact CutT.serves w a (by omega) (by omega) k k1 q
    · have := siz_le w (i := c + 1) (j := k) (by omega) (by omega)
      rw [if_neg (by omega)]
      exact CutT.serves w b (by omega) hj k (by omega) k2
theorem wk_app {S : List (Int × Int)} {t : Tree} (a b : List Tri) : wk S t (a ++ b) = wk S t a + wk S t b := by
  unfold wk
  rw [List.map_append, List.sum_append]
theorem wk_add {S : List (Int × Int)} {t u : Tree} {o : Int} : ∀ l : List Tri, (∀ x ∈ l, mets t x.1 = o :: mets u x.1) → wk S t l = pr S o * (l.map fun x => x.2.1).sum + wk S u l
  | [], _ => by simp [wk]
  | x :: l, h => by
    have ih := wk_add (S := S) l fun y hy => h y (List.mem_cons_of_mem _ hy)
    unfold wk at ih ⊢
    rw [List.map_cons, List.sum_cons, ih, List.map_cons, List.sum_cons, List.map_cons, List.sum_cons]
    have : cost S t x.1 = pr S o + cost S u x.1 := by
      unfold cost
      rw [h x List.mem_cons_self, List.map_cons, List.sum_cons]
    rw [this, Int.mul_add, Int.mul_add, Int.mul_comm (pr S o) x.2.1]
    omega
theorem grains_split {W : List Tri} {i j k : Nat} (h1 : i ≤ k) (h2 : k < j) (hj : j < W.length) : grains W i j = grains W i k + grains W (k + 1) j := by
  unfold grains
  rw [slc_split h1 h2 hj, List.map_append, List.sum_append]
/-- the work of a node -/
theorem wk_node {W : List Tri} {S : List (Int × Int)} (w : WOk W) {i j k : Nat} {o : Int} {u v : Tree} (h1 : i ≤ k) (h2 : k < j) (hj : j < W.length) (h3 : siz W k ≤ o) (h4 : o < siz W (k + 1)) :
    wk S (.node o u v) (slc W i j) = pr S o * grains W i j + (wk S u (slc W i k) + wk S v (slc W (k + 1) j)) := by
  rw [slc_split h1 h2 hj, wk_app, wk_add (u := u) (o := o) (slc W i k) ?_, wk_add (u := v) (o := o) (slc W (k + 1) j) ?_, grains_split h1 h2 hj]
  · show pr S o * grains W i k + _ + (pr S o * grains W (k + 1) j + _) = _
    rw [Int.mul_add]; omega
  · intro x hx
    obtain ⟨c, c1, c2, rfl⟩ := slc_mem' (by omega) hj hx
    have := siz_le w (i := k + 1) (j := c) (by omega) (by omega)
    have this : siz W (k + 1) ≤ (tri W c).1 := this
    rw [mets, if_neg (by omega)]
  · intro x hx
    obtain ⟨c, c1, c2, rfl⟩ := slc_mem' (by omega) (by omega) hx
    have := siz_le w (i := c) (j := k) (by omega) (by omega)
    have this : (tri W c).1 ≤ siz W k := this
    rw [mets, if_pos (by omega)]
theorem wk_leaf {S : List (Int × Int)} {n : Int} (l : List Tri) : wk S (.leaf n) l = 0 := by
  unfold wk
  induction l with
  | nil => rfl
  | cons x l ih =>
    rw [List.map_cons, List.sum_cons, ih]
    simp [cost, mets]
theorem tn_one {W : List Tri} {S : List (Int × Int)} {i j : Nat} (h : oneBin W i j = true) : tn W S i j = 0 := by
  show (tv W S i j).1 = 0
  rw [tv_one h]
theorem tn_nn {W : List Tri} {S : List (Int × Int)} (g : Good W S) : ∀ n i j, j - i < n → i ≤ j → j < W.length → 0 ≤ tn W S i j
  | 0, _, _, h, _, _ => by omega
  | n + 1, i, j, h, hij, hj => by
    cases ho : oneBin W i j with
    | true => rw [tn_one ho]; exact Int.le_refl _
    | false =>
      obtain ⟨k, c, k1, k2, hc, e⟩ := tv_cut g.o hij hj ho
      have a := tn_nn g n i k (by omega) k1 (by omega)
      have b := tn_nn g n (k + 1) j (by omega) (by omega) hj
      have hp := (cutsAt_ok g.s (by rw [hc]; exact List.mem_singleton_self _ : c ∈ cutsAt W S k)).p1
      have hp : 0 ≤ c.1 := hp
      have hg := (grains_bound g.w i j).1
      have := Int.mul_nonneg hp hg
      show 0 ≤ (tv W S i j).1
      rw [e]
      show 0 ≤ c.1 * grains W i j + (tn W S i k + tn W S (k + 1) j)
      omega
theorem Good.nn {W : List Tri} {S : List (Int × Int)} (g : Good W S) {i j : Nat} (hij : i ≤ j) (hj : j < W.length) : 0 ≤ tn W S i j := tn_nn g (j - i + 1) i j (by omega) hij hj
/-- no mesh beats the table -/
theorem Good.le {W : List Tri} {S : List (Int × Int)} (g : Good W S) {i j k : Nat} {o p : Int} (k1 : i ≤ k) (k2 : k < j) (hj : j < W.length) (hm : (o, p) ∈ S) (h3 : siz W k ≤ o) (h4 : o < siz W (k + 1)) : tn W S i j ≤ p * grains W i j + (tn W S i k + tn W S (k + 1) j) := by
  have a := g.nn (i := i) (j := k) k1 (by omega)
  have b := g.nn (i := k + 1) (j := j) (by omega) hj
  have hg := (grains_bound g.w i j).1
  have hb := betw_of hm h3 h4
  cases ho : oneBin W i j with
  | true =>
    rw [tn_one ho]
    have hp := (g.s.all _ hm).p1
    have hp : 0 ≤ p := hp
    have := Int.mul_nonneg hp hg
    omega
  | false =>
    obtain ⟨c, hc⟩ := cutsAt_one (W := W) (S := S) (i := k) (by
      cases e : betw S (siz W k) (siz W (k + 1)) with
      | nil => rw [e] at hb; cases hb
      | cons => rfl)
    have hcm : c ∈ cutsAt W S k := by rw [hc]; exact List.mem_singleton_self _
    have h := tv_le ho k1 k2 hcm
    have h5 := cutsAt_le hcm hb
    have h5 : c.1 ≤ p := h5
    have := Int.mul_le_mul_of_nonneg_right h5 hg
    omega
theorem CutT.le {W : List Tri} {S : List (Int × Int)} (g : Good W S) : ∀ {i j : Nat} {t : Tree}, CutT W S i j t → i ≤ j → j < W.length → tn W S i j ≤ wk S t (slc W i j)
  | _, _, _, .leaf i j h, hij, hj => by
    rw [tn_one ((oneBin_iff hij hj).mpr h), wk_leaf]; exact Int.le_refl _
  | _, _, _, .node i j k o p u v h1 h2 hm h3 h4 a b, hij, hj => by
    have ia := CutT.le g a (by omega) (by omega)
    have ib := CutT.le g b (by omega) hj
    have h := g.le h1 h2 hj hm h3 h4
    rw [wk_node g.w h1 h2 hj h3 h4, g.s.pr hm]
    omega
/-- the tree of the table -/
theorem treeT_cutT {W : List Tri} {S : List (Int × Int)} (g : Good W S) : ∀ n i j, j - i < n → i ≤ j → j < W.length → CutT W S i j (treeT W S i j) ∧ wk S (treeT W S i j) (slc W i j) = tn W S i j
  | 0, _, _, h, _, _ => by omega
  | n + 1, i, j, h, hij, hj => by
    cases ho : oneBin W i j with
    | true =>
      rw [treeT_one ho, tn_one ho]
      exact ⟨.leaf i j ((oneBin_iff hij hj).mp ho), wk_leaf _⟩
    | false =>
      obtain ⟨k, c, k1, k2, hc, e⟩ := tv_cut g.o hij hj ho
      have hcm : c ∈ cutsAt W S k := by rw [hc]; exact List.mem_singleton_self _
      obtain ⟨m1, m2, m3⟩ := betw_S (cutsAt_mem hcm)
      obtain ⟨a1, a2⟩ := treeT_cutT g n i k (by omega) k1 (by omega)
      obtain ⟨b1, b2⟩ := treeT_cutT g n (k + 1) j (by omega) (by omega) hj
      rw [treeT_cut g hij hj k1 k2 hc (by rw [e])]
      refine ⟨.node i j k _ _ _ _ k1 k2 m1 m2 m3 a1 b1, ?_⟩
      rw [wk_node g.w k1 k2 hj m2 m3, a2, b2, g.s.pr m1]
      show _ = (tv W S i j).1
      rw [e]
theorem slc_all {W : List Tri} (h : 1 ≤ W.length) : slc W 0 (W.length - 1) = W := by
  rw [slc_eq (by omega) (by omega), List.drop_zero, show W.length - 1 + 1 - 0 = W.length by omega, List.take_length]
/-! ### the dict of prices -/
theorem merge_new : ∀ (more acc : List (Int × PyData)), (acc.map (·.1) ++ more.map (·.1)).Nodup → mergeI acc more = acc ++ more
  | [], acc, _ => by show acc = _; rw [List.append_nil]
  | p :: more, acc, h => by
    have hp : p.1 ∉ acc.map (·.1) := fun hm => by
      rw [List.nodup_append] at h
      exact h.2.2 _ hm _ (by rw [List.map_cons]; exact List.mem_cons_self) rfl
    have e : putI acc p.1 p.2 = acc ++ [p] := by
      unfold putI
      rw [if_neg (fun z => hp ?_)]
      obtain ⟨q, hq, e⟩ := List.any_eq_true.mp z
      exact List.mem_map.mpr ⟨q, hq, of_decide_eq_true e⟩
    show mergeI (putI acc p.1 p.2) more = _
    rw [e, merge_new more (acc ++ [p]) (by rw [List.map_append, List.append_assoc]; exact h), List.append_assoc]; rfl
theorem look_pr {S : List (Int × Int)} (s : SOk S) {o : Int} (h : o ∈ S.map (·.1)) : lookI (mergeI [] (S.map fun p => (p.1, .int p.2))) o = some (.int (pr S o)) := by
  rw [merge_new _ [] (by
    show ((S.map fun p => ((p.1, .int p.2) : Int × PyData)).map (·.1)).Nodup
    rw [List.map_map]
    have := s.up
    exact (List.pairwise_map.mpr (this.imp fun h => Int.ne_of_lt h))), List.nil_append]
  obtain ⟨p, hp, e⟩ := List.mem_map.mp h
  subst e
  unfold lookI
  rw [List.find?_map]
  have : S.find? ((fun kv : Int × PyData => decide (kv.1 = p.1)) ∘ fun p : Int × Int => (p.1, PyData.int p.2)) = some (p.1, p.2) := pr_of s.up (o := p.1) (p := p.2) hp
  rw [this, s.pr (o := p.1) (p := p.2) hp]
  rfl
theorem mets_in {os : List Int} : ∀ (t : Tree) (s : Int), treeOk os t → ∀ o ∈ mets t s, o ∈ os
  | .leaf _, _, _, o, h => by simp [mets] at h
  | .node o' u v, s, ⟨h1, h2, h3⟩, o, h => by
    rw [mets] at h
    rcases List.mem_cons.mp h with rfl | h
    · exact h1
    · split at h
      · exact mets_in u s h2 o h
      · exact mets_in v s h3 o h
end K58
set_option Elab.async false
set_option linter.all false
set_option maxRecDepth 100000
set_option maxHeartbeats 2000000
namespace K58
open PySem PySem.Spec PyProof.Rows L2
theorem cut_drop {α : Type} (xs : List α) (n : Nat) : cutG xs (some (n : Int)) none = xs.drop n := by
  unfold cutG
  rw [HT.sIx_none, HT.sIx_nat]
  by_cases h : n ≤ xs.length
  · rw [Nat.min_eq_left h, List.take_of_length_le (by rw [List.length_drop]; omega)]
  · rw [Nat.min_eq_right (by omega), List.drop_of_length_le (Nat.le_refl _), List.drop_of_length_le (by omega), List.take_nil]
theorem slc_tri {W : List Tri} {i j m : Nat} (hij : i ≤ j) (hj : j < W.length) (h : i + m ≤ j) : tri (slc W i j) m = tri W (i + m) := by
  show (slc W i j).getD m (0, 0, 0) = _
  rw [List.getD_eq_getElem?_getD, slc_get hij hj h] <;> rfl
theorem slc_take {W : List Tri} {i j m : Nat} (hij : i ≤ j) (hj : j < W.length) (h : i + m < j) : (slc W i j).take (m + 1) = slc W i (i + m) := by
  rw [slc_eq hij hj, slc_eq (by omega) (by omega), List.take_take]
  congr 1; omega
theorem slc_drop {W : List Tri} {i j m : Nat} (hij : i ≤ j) (hj : j < W.length) (h : i + m < j) : (slc W i j).drop (m + 1) = slc W (i + m + 1) j := by
  rw [slc_eq hij hj, slc_eq (by omega) hj, List.drop_take, List.drop_drop]
  congr 1; omega
section
variable {K : PySem.W.Frag} {H0 : Hp}
theorem ev_tupP {Γ : List Item} {ta : TA} {A : List Item → Prop} {R : PyData → Prop} (h : EvA K H0 ta Γ A) (w : ∀ ts, A ts → ∃ ds : List PyData, ts = ds.map .dat ∧ ds.length ≤ 100000 ∧ R (.tuple ds)) : EvP K H0 (tTup ta) Γ R := fun B H σ E Q q =>
  h B H σ E _ fun vs ts B1 H1 a s hs => by
    obtain ⟨ds, e, hl, r⟩ := w ts a
    subst e
    have hd := args_data hs
    refine ⟨Nat.le_trans (by rw [dpa_len hd]; exact hl) (by decide), fun p hp => ?_⟩
    have x := Stp.new (o := .tup vs) s.ob hp
    exact q _ _ _ _ r (s.trans x) (.tup (.inl (.inl upd_same)) (DpAll.up x.eb hd))
theorem wk_from1 {Γ : List Item} {t : TE} {n : Nat} (h : Ev K H0 t Γ (.int (n : Nat))) (hn : n ≤ 1000) : Wk K H0 (iRng2 (tCons (tC (.int 1)) (tCons t tNil))) Γ ((List.range (n - 1)).map fun k : Nat => .int ((1 : Int) + (k : Int))) := by
  have := wk_rng2 (K := K) (H0 := H0) (Γ := Γ) (ta := tC (.int 1)) (tb := t) (m := 1) (n := (n : Int)) ev_int h (by omega) (by omega) (by omega) (by omega)
  rw [show ((n : Int) - 1).toNat = n - 1 by omega] at this
  exact this
/-! _law_tree_by -/
structure TD where
  W : List Tri
  S : List (Int × Int)
  i : Nat
  j : Nat
  c : Int
abbrev tdArgs : TD → List Item := fun a => [.dat (wishD (slc a.W a.i a.j)), .dat (stockD a.S), .dat (.int a.c)]
structure tdPre (m : Nat) (a : TD) : Prop where
  g : Good a.W a.S
  ij : a.i ≤ a.j
  j : a.j < a.W.length
  m : a.j - a.i + 1 ≤ m
  c0 : 0 ≤ a.c
  c1 : a.c ≤ 2 * G60
abbrev tdPost (a : TD) : PyData → Prop := fun d => ∃ t, d = encTr t ∧ CutT a.W a.S a.i a.j t
abbrev sp__law_tree_by (K : PySem.W.Frag) (m : Nat) : Sp := spD K tdArgs (tdPre m) tdPost
def goodCut (W : List Tri) (S : List (Int × Int)) (i j : Nat) (d : PyData) : Prop := ∃ (m : Nat) (o p : Int), d = .tuple [.int ((1 : Int) + (m : Nat)), .int o] ∧ i + m < j ∧ (o, p) ∈ S ∧ siz W (i + m) ≤ o ∧ o < siz W (i + m + 1)
theorem rd__law_tree_by (m : Nat) (a : TD) (h : tdPre (m + 1) a) : Sx K H0 (t__law_tree_by K (sp__law_tree_by K m)) (tdArgs a ++ List.replicate (N__law_tree_by.length - 3) .no) (poD K (tdPost a)) := by
  obtain ⟨W, S, i, j, c⟩ := a
  obtain ⟨g, hij, hj, hm, c0, c1⟩ := h
  have g : Good W S := g
  have hij : i ≤ j := hij
  have hj : j < W.length := hj
  have hm : j - i + 1 ≤ m + 1 := hm
  have c0 : 0 ≤ c := c0
  have c1 : c ≤ 2 * G60 := c1
  have hn := g.w.l2
  have hs := g.s.l2
  have hl : (slc W i j).length = j + 1 - i := slc_len hij hj
  have mul0 : ∀ z : Int, z ≤ 1000 → z ≤ 1000 * G60 := fun z hz => Int.le_trans hz (by decide)
  refine sx_seq (sx_newL (sx_seq ?_))
  refine sx_for (List.range ((slc W i j).length - 1)) (wk_from1 (ev_lenW (ev_var rfl)) (by omega)) (fun pre Γ => ∃ ds x4 x5 x8, Γ = [.dat (wishD (slc W i j)), .dat (stockD S), .dat (.int c), .lst ds, x4, x5, .no, .no, x8] ∧ (∀ d ∈ ds, goodCut W S i j d) ∧ ds.length ≤ pre.length ∧ ∀ k ∈ pre, bin W (i + k) ≠ bin W (i + k + 1) → ds ≠ []) ⟨[], .no, .no, .no, rfl, (fun _ h => nomatch h), Nat.le_refl _, fun _ h => nomatch h⟩ ?_ ?_
  · rintro pre k post Γ1 hb ⟨ds, x4, x5, x8, rfl, hg, hd, hne⟩
    obtain ⟨ek, hlk, _⟩ := range_split hb
    subst ek
    generalize hk : pre.length = k at *
    have hk1 : i + k < j := by omega
    refine ⟨_, _, tg_name, ?_⟩
    have i0 : ∀ {Γ : List Item}, Γ[4]? = some (.dat (.int ((1 : Int) + (k : Nat)))) → Ev K H0 (tOp (rI0 fun i j => .int (i - j)) (tVar 4) (tC (.int 1))) Γ (.int (k : Nat)) := fun {Γ} h => Ev.is (ev_subI (ev_var h) ev_int) (by rw [show (1 : Int) + (k : Nat) - 1 = (k : Nat) by omega])
    have i1 : ∀ {Γ : List Item}, Γ[4]? = some (.dat (.int ((1 : Int) + (k : Nat)))) → Ev K H0 (tVar 4) Γ (.int ((k + 1 : Nat) : Int)) := fun {Γ} h => Ev.is (ev_var h) (by rw [show (1 : Int) + (k : Nat) = ((k + 1 : Nat) : Int) by omega])
    have w0 : ∀ {Γ : List Item}, Γ[0]? = some (.dat (wishD (slc W i j))) → Γ[4]? = some (.dat (.int ((1 : Int) + (k : Nat)))) → Ev K H0 (tOp (rIxL K) (tVar 0) (tOp (rI0 fun i j => .int (i - j)) (tVar 4) (tC (.int 1)))) Γ (encT (tri W (i + k))) := fun {Γ} e0 e2 => Ev.is (ev_W (by omega) (ev_var e0) (i0 e2)) (by rw [slc_tri hij hj (by omega)])
    have w1 : ∀ {Γ : List Item}, Γ[0]? = some (.dat (wishD (slc W i j))) → Γ[4]? = some (.dat (.int ((1 : Int) + (k : Nat)))) → Ev K H0 (tOp (rIxL K) (tVar 0) (tVar 4)) Γ (encT (tri W (i + k + 1))) := fun {Γ} e0 e2 => Ev.is (ev_W (by omega) (ev_var e0) (i1 e2)) (by rw [slc_tri hij hj (by omega)]; rfl)
    refine sx_seq (sx_asg (d := intsD ((betw S (siz W (i + k)) (siz W (i + k + 1))).map (·.1))) (((en_lc (out := fun p : Int × Int => .int p.1) (keep := fun p : Int × Int => decide (siz W (i + k) ≤ p.1) && decide (p.1 < siz W (i + k + 1))) S (wk_list (ev_var rfl)) (by omega) fun p hp => ?_).is (by rw [List.map_map]; rfl)).ev) ?_)
    · exact ⟨_, _, tg_name, fun j h => h, et_test (ev_chain (ev_siz (w0 rfl rfl)) (ev_op (ev_var rfl) ev_int (rv_ixT (d := .int p.1) rfl)) rv_IB (fun _ => ev_siz (w1 rfl rfl)) (fun _ => rv_IB)), fun _ => ev_op (ev_var rfl) ev_int (rv_ixT rfl)⟩
    · generalize hbt : betw S (siz W (i + k)) (siz W (i + k + 1)) = bt
      have ln : Ev K H0 (tCB (rLenQ K) (tCons (tVar 5) tNil)) [.dat (wishD (slc W i j)), .dat (stockD S), .dat (.int c), .lst ds, .dat (.int ((1 : Int) + (k : Nat))), .dat (intsD (bt.map (·.1))), .no, .no, x8] (.int ((bt.map (·.1)).length : Nat)) := ev_lenW (ev_var rfl)
      have et : EvT K H0 (tAnd (tTest (tOp (rI0 fun i j => .bl (decide (j < i))) (tCB (rLenQ K) (tCons (tVar 5) tNil)) (tC (.int 0)))) (tOr (tTest (tOp rNe (tOp (rIxT K) (tOp (rIxL K) (tVar 0) (tOp (rI0 fun i j => .int (i - j)) (tVar 4) (tC (.int 1)))) (tC (.int 2))) (tOp (rIxT K) (tOp (rIxL K) (tVar 0) (tVar 4)) (tC (.int 2))))) (tTest (tOp rEq (tOp (rI (fun _ j => 0 < j) fun i j => .int (i % j)) (tOp (rI CDivW fun i j => .int (i / j)) (tVar 2) (tOp (rI0 fun i j => .int (i + j)) (tVar 4) (tC (.int 2)))) (tC (.int 4))) (tC (.int 0))))))
          [.dat (wishD (slc W i j)), .dat (stockD S), .dat (.int c), .lst ds, .dat (.int ((1 : Int) + (k : Nat))), .dat (intsD (bt.map (·.1))), .no, .no, x8] (decide ((0 : Int) < ((bt.map (·.1)).length : Nat)) && (!decide (bin W (i + k) = bin W (i + k + 1)) || decide (c / ((1 : Int) + (k : Nat) + 2) % 4 = 0))) :=
        et_and (et_test (ev_op ln ev_int (rv_IB (g := fun i j => decide (j < i))))) fun _ => et_or (et_test (ev_op (ev_binW (w0 rfl rfl)) (ev_binW (w1 rfl rfl)) rv_neI)) fun _ => et_test (ev_op (ev_mod (ev_div (ev_var rfl) (ev_addI (ev_var rfl) ev_int) (by omega) (mul0 _ (by omega))) ev_int (by decide)) ev_int rv_eqI)
      refine sx_if et (fun hb' => ?_) (fun hb' => ?_)
      · rw [Bool.and_eq_true] at hb'
        have h0 := of_decide_eq_true hb'.1
        have hlen : (0 : Int) < ((bt.map (·.1)).map PyData.int).length := by rw [List.length_map]; exact h0
        refine sx_app (P := goodCut W S i j) rfl (ev_tupP (ea_consP (P := fun d => d = .int ((1 : Int) + (k : Nat))) (ev_var rfl) (ea_consP (P := fun d => ∃ o p : Int, d = .int o ∧ (o, p) ∈ S ∧ siz W (i + k) ≤ o ∧ o < siz W (i + k + 1)) (ev_op (ev_var rfl) (ev_mod (ev_div (ev_var rfl) (ev_addI ev_int (ev_var rfl)) (by omega) (mul0 _ (by omega))) ln h0) (rv_ixLP (Int.emod_nonneg _ (by omega)) (by have := Int.emod_lt_of_pos (c / ((3 : Int) + ((1 : Int) + (k : Nat)))) h0; rw [show ((bt.map (·.1)).map PyData.int).length = (bt.map (·.1)).length from List.length_map _]; exact this) fun d hd => ?_)) ea_nil)) fun ts ⟨d, rs, e1, p1, d2, rs2, e2, ⟨o, p, e3, q1, q2, q3⟩, e4⟩ => ?_) (by omega) fun d gd => ?_
        · obtain ⟨z, hz, rfl⟩ := List.mem_map.mp hd
          obtain ⟨y, hy, rfl⟩ := List.mem_map.mp hz
          rw [← hbt] at hy
          obtain ⟨y1, y2, y3⟩ := betw_S hy
          exact ⟨y.1, y.2, rfl, y1, y2, y3⟩
        · refine ⟨[.int ((1 : Int) + (k : Nat)), .int o], by rw [e1, e2, e4, p1, e3]; rfl, len_ok rfl, k, o, p, rfl, hk1, q1, q2, q3⟩
        · refine ⟨ds ++ [d], _, _, _, rfl, fun e he => ?_, by rw [List.length_append, List.length_append]; show ds.length + 1 ≤ pre.length + 1; omega, fun _ _ _ => by simp⟩
          rcases List.mem_append.mp he with he | he
          · exact hg e he
          · rw [List.mem_singleton.mp he]; exact gd
      · refine sx_next ⟨ds, _, _, _, rfl, hg, by rw [List.length_append]; omega, fun q hq hbq => ?_⟩
        rcases List.mem_append.mp hq with hq | hq
        · exact hne q hq hbq
        · rw [List.mem_singleton.mp hq] at hbq
          exfalso
          have op := open_at g.o (k := i + k) (by omega) hbq
          rw [hbt] at op
          rw [decide_eq_false hbq, Bool.not_false, Bool.true_or, Bool.and_true] at hb'
          have := of_decide_eq_false hb'
          cases bt with
          | nil => cases op
          | cons x l => rw [List.map_cons, List.length_cons] at this; omega
  · rintro Γ1 ⟨ds, x4, x5, x8, rfl, hg, hd, hne⟩
    rw [List.length_range] at hd
    refine sx_freeze (i := 3) rfl (sx_seq ?_)
    have lnd : ∀ {Γ : List Item}, Γ[3]? = some (.dat (.list ds)) → Ev K H0 (tCB (rLenQ K) (tCons (tVar 3) tNil)) Γ (.int (ds.length : Nat)) := fun {Γ} h => ev_lenL (ev_var h)
    refine sx_if (et_test (ev_op (lnd rfl) ev_int rv_eqI)) (fun h => ?_) (fun h => sx_next ?_)
    · have h := of_decide_eq_true h
      have e : ds = [] := List.length_eq_zero_iff.mp (by omega)
      have all : ∀ q, i + q ≤ j → bin W (i + q) = bin W i := by
        intro q
        induction q with
        | zero => intro _; rfl
        | succ q ih =>
          intro hq
          by_cases z : bin W (i + q) = bin W (i + q + 1)
          · rw [show i + (q + 1) = i + q + 1 by omega, ← z, ih (by omega)]
          · exact absurd e (hne q (List.mem_range.mpr (by omega)) z)
      refine sx_retP (Ev.is (ev_binW (i := 0) (ev_W (W := slc W i j) (by omega) (ev_var rfl) ev_int)) (dx := .int (bin W i)) (by show PyData.int (tri (slc W i j) 0).2.2 = _; rw [slc_tri hij hj (by omega)]; rfl)) (fun d e => ⟨.leaf (bin W i), e, .leaf i j fun k h1 h2 => ?_⟩) rfl
      have := all (k - i) (by omega)
      rw [show i + (k - i) = k by omega] at this
      exact this
    · have h := of_decide_eq_false h
      have h0 : (0 : Int) < (ds.length : Nat) := by omega
      refine sx_seq (sx_asgGP (P := goodCut W S i j) (ev_op (ev_var rfl) (ev_mod (ev_div (ev_var rfl) ev_int (by decide) (by decide)) (lnd rfl) h0) (rv_ixLP (Int.emod_nonneg _ (by omega)) (Int.emod_lt_of_pos _ h0) hg)) ?_)
      rintro d ⟨k, o, p, rfl, q0, q1, q2, q3⟩
      refine ⟨_, _, tg_tup (tgs_cons tg_name (tgs_cons tg_name tgs_nil)) rfl, ?_⟩
      refine sx_seq (sx_asg (ev_addI (ev_div (ev_var rfl) ev_int (by decide) (by decide)) ev_int) ?_)
      have g1 : (100000000000 : Int) ≤ G60 := by decide
      have r0 : 0 ≤ c / 3 + 1000003 := by omega
      have r1 : c / 3 + 1000003 ≤ 2 * G60 := by omega
      generalize c / 3 + 1000003 = r at *
      have ck : ∀ {Γ : List Item}, Γ[4]? = some (.dat (.int ((1 : Int) + (k : Nat)))) → Ev K H0 (tVar 4) Γ (.int ((k + 1 : Nat) : Int)) := fun {Γ} h => Ev.is (ev_var h) (by rw [show (1 : Int) + (k : Nat) = ((k + 1 : Nat) : Int) by omega])
      have e3 : (r * 31) % 2147483647 < 2147483647 := Int.emod_lt_of_pos _ (by decide)
      have e4 : 0 ≤ (r * 31) % 2147483647 := Int.emod_nonneg _ (by decide)
      have cu : EvP K H0 (tCall (sp__law_tree_by K m) [] E0 (tCons (tSl (rSlL K) (tVar 0) tNoPart (tPart (tVar 4))) (tCons (tVar 1) (tCons (tVar 7) tNil)))) [.dat (wishD (slc W i j)), .dat (stockD S), .dat (.int c), .dat (.list ds), .dat (.int ((1 : Int) + (k : Nat))), x5, .dat (.int o), .dat (.int r), x8] (tdPost ⟨W, S, i, i + k, r⟩) :=
        ev_callD ⟨W, S, i, i + k, r⟩ (ea_cons ((en_slice (ev_var rfl) eo_none (eo_some (ck rfl))).is (by rw [cut_map, cut_take, slc_take hij hj q0])).ev (ea_cons (ev_var rfl) (ea_cons (ev_var rfl) ea_nil))) ⟨g, by show i ≤ i + k; omega, by show i + k < W.length; omega, by show i + k - i + 1 ≤ m; omega, r0, r1⟩ fun d e => e
      have cv : EvP K H0 (tCall (sp__law_tree_by K m) [] E0 (tCons (tSl (rSlL K) (tVar 0) (tPart (tVar 4)) tNoPart) (tCons (tVar 1) (tCons (tOp (rI (fun _ j => 0 < j) fun i j => .int (i % j)) (tOp (rI CMulW fun i j => .int (i * j)) (tVar 7) (tC (.int 31))) (tC (.int 2147483647))) tNil)))) [.dat (wishD (slc W i j)), .dat (stockD S), .dat (.int c), .dat (.list ds), .dat (.int ((1 : Int) + (k : Nat))), x5, .dat (.int o), .dat (.int r), x8] (tdPost ⟨W, S, i + k + 1, j, (r * 31) % 2147483647⟩) :=
        ev_callD ⟨W, S, i + k + 1, j, (r * 31) % 2147483647⟩ (ea_cons ((en_slice (ev_var rfl) (eo_some (ck rfl)) eo_none).is (by rw [cut_map, cut_drop, slc_drop hij hj q0])).ev (ea_cons (ev_var rfl) (ea_cons (ev_mod (ev_mulI (ev_var rfl) ev_int (mul_ok (big r0 (by omega)) (big (by decide) (by decide)))) ev_int (by decide)) ea_nil))) ⟨g, by show i + k + 1 ≤ j; omega, hj, by show j - (i + k + 1) + 1 ≤ m; omega, e4, by show (r * 31) % 2147483647 ≤ 2 * G60; omega⟩ fun d e => e
      refine sx_retP (ev_tupP (ea_consP (P := fun d => d = .int o) (ev_var rfl) (ea_consP cu (ea_consP cv ea_nil))) (R := tdPost ⟨W, S, i, j, c⟩) ?_) (fun d e => e) rfl
      rintro ts ⟨d1, rs1, f1, p1, d2, rs2, f2, ⟨t1, g2, u1⟩, d3, rs3, f3, ⟨t2, g3, u2⟩, f4⟩
      refine ⟨[.int o, encTr t1, encTr t2], by rw [f1, f2, f3, f4, p1, g2, g3]; rfl, len_ok rfl, .node o t1 t2, rfl, ?_⟩
      exact .node i j (i + k) o p t1 t2 (by omega) q0 q1 q2 q3 u1 u2
end
end K58
set_option Elab.async false
set_option linter.all false
set_option maxRecDepth 100000
set_option maxHeartbeats 2000000
namespace K58
open PySem PySem.Spec PyProof.Rows L2
section
variable {K : PySem.W.Frag} {H0 : Hp}
/-! _law_bound -/
abbrev rowsD (W : List Tri) (S : List (Int × Int)) : PyData := .list ((List.range W.length).map fun i => intsD (rowT W S i))
structure BI where
  W : List Tri
  S : List (Int × Int)
  i : Nat
  j : Nat
abbrev biArgs : BI → List Item := fun a => [.dat (wishD a.W), .dat (stockD a.S), .dat (rowsD a.W a.S), .dat (.int (a.i : Nat)), .dat (.int (a.j : Nat))]
structure biPre (a : BI) : Prop where
  g : Good a.W a.S
  ij : a.i ≤ a.j
  j : a.j < a.W.length
def noneOr (z0 : Int) (d : PyData) : Prop := d = .none ∨ ∃ z : Int, d = .int z ∧ z0 ≤ z
abbrev sp__law_bound (K : PySem.W.Frag) : Sp := spD K biArgs biPre (fun a => noneOr (tn a.W a.S a.i a.j))
theorem at_row {W : List Tri} {S : List (Int × Int)} {i : Nat} (h : i < W.length) : atI ((List.range W.length).map fun i => intsD (rowT W S i)) (i : Int) = some (intsD (rowT W S i)) := by
  have := at_map (fun i => intsD (rowT W S i)) (List.range W.length) 0 (i := i) (by rw [List.length_range]; exact h)
  rw [this, List.getD_eq_getElem?_getD, List.getElem?_range h] <;> rfl
theorem at_cell {W : List Tri} {S : List (Int × Int)} {i k : Nat} (h : k < W.length - i) : atI ((rowT W S i).map PyData.int) (k : Int) = some (.int (tn W S i (i + k))) := by
  have hl : k < (rowT W S i).length := by unfold rowT; rw [List.length_map, List.length_range]; exact h
  rw [at_map PyData.int (rowT W S i) 0 hl]
  unfold rowT
  rw [List.getD_eq_getElem?_getD, List.getElem?_map, List.getElem?_range h] <;> rfl
theorem ev_cell {Γ : List Item} {t1 t2 t3 : TE} {W : List Tri} {S : List (Int × Int)} {i k : Nat} (hi : i < W.length) (hk : k < W.length - i) (h1 : Ev K H0 t1 Γ (rowsD W S)) (h2 : Ev K H0 t2 Γ (.int (i : Nat))) (h3 : Ev K H0 t3 Γ (.int (k : Nat))) : Ev K H0 (tOp (rIxL K) (tOp (rIxL K) t1 t2) t3) Γ (.int (tn W S i (i + k))) :=
  ev_op (ev_op h1 h2 (rv_ixL (at_row hi))) h3 (rv_ixL (at_cell hk))
theorem rd__law_bound (a : BI) (h : biPre a) : Sx K H0 (t__law_bound K) (biArgs a ++ List.replicate (N__law_bound.length - 5) .no) (poD K (noneOr (tn a.W a.S a.i a.j))) := by
  obtain ⟨W, S, i, j⟩ := a
  obtain ⟨g, hij, hj⟩ := h
  have g : Good W S := g
  have hij : i ≤ j := hij
  have hj : j < W.length := hj
  have hn := g.w.l2
  have hs := g.s.l2
  have hl : (slc W i j).length ≤ 1000 := by rw [slc_len hij hj]; omega
  show Sx K H0 _ _ (poD K (noneOr (tn W S i j)))
  refine sx_seq (sx_if (b := oneBin W i j) (et_test (ev_op (ev_lenSet (ns := bins W i j) ?_ (by unfold bins; rw [List.length_map]; omega)) ev_int rv_eqI)) (fun ho => ?_) (fun ho => sx_next ?_))
  · refine ((en_map (out := fun t : Tri => .int t.2.2) (slc W i j) (wk_list (en_slc (ev_var rfl) (ev_var rfl) (ev_var rfl))) (by omega) fun t ht => ?_).is ?_).ev
    · exact ⟨_, _, tg_name, fun j h => h, ev_op (ev_var rfl) ev_int (rv_ixT rfl)⟩
    · unfold bins; rw [List.map_map]; rfl
  · exact sx_retP ev_int (fun d e => .inr ⟨0, e, by rw [tn_one ho]; exact Int.le_refl _⟩) rfl
  refine sx_seq (sx_asg (d := .int (grains W i j)) (ev_sum (ns := (slc W i j).map fun t => t.2.1) ?_) ?_)
  · refine ((en_map (out := fun t : Tri => .int t.2.1) (slc W i j) (wk_list (en_slc (ev_var rfl) (ev_var rfl) (ev_var rfl))) (by omega) fun t ht => ?_).is ?_).ev
    · exact ⟨_, _, tg_name, fun j h => h, ev_op (ev_var rfl) ev_int (rv_ixT rfl)⟩
    · rw [List.map_map]; rfl
  refine sx_seq (sx_asg ev_non (sx_seq ?_))
  have wkij : ∀ {Γ : List Item}, Γ[3]? = some (.dat (.int (i : Nat))) → Γ[4]? = some (.dat (.int (j : Nat))) → Wk K H0 (iRng2 (tCons (tVar 3) (tCons (tVar 4) tNil))) Γ ((List.range (j - i)).map fun k : Nat => .int ((i + k : Nat) : Int)) := fun {Γ} e2 e3 => by
    have := wk_rng2 (K := K) (H0 := H0) (ev_var e2) (ev_var e3) (by omega) (by omega) (by omega) (by omega)
    rw [show ((j : Int) - (i : Int)).toNat = j - i by omega] at this
    exact this
  refine sx_for (List.range (j - i)) (wkij rfl rfl) (fun pre Γ => ∃ d x7 x8 x9 x10 x11 x12, Γ = [.dat (wishD W), .dat (stockD S), .dat (rowsD W S), .dat (.int (i : Nat)), .dat (.int (j : Nat)), .dat (.int (grains W i j)), .dat d, x7, x8, x9, x10, x11, x12] ∧ noneOr (tn W S i j) d) ⟨.none, .no, .no, .no, .no, .no, .no, rfl, .inl rfl⟩ ?_ ?_
  · rintro pre k post Γ1 hb ⟨d, x7, x8, x9, x10, x11, x12, rfl, hd⟩
    have hk : k < j - i := List.mem_range.mp (by rw [hb]; simp)
    refine ⟨_, _, tg_name, ?_⟩
    refine sx_for S (wk_list (ev_var rfl)) (fun pre Γ => ∃ d x8 x9 x10 x11, Γ = [.dat (wishD W), .dat (stockD S), .dat (rowsD W S), .dat (.int (i : Nat)), .dat (.int (j : Nat)), .dat (.int (grains W i j)), .dat d, .dat (.int ((i + k : Nat) : Int)), x8, x9, x10, x11, x12] ∧ noneOr (tn W S i j) d) ⟨d, x8, x9, x10, x11, rfl, hd⟩ ?_ ?_
    · rintro preS p postS Γ2 hbS ⟨d, x8, x9, x10, x11, rfl, hd⟩
      have hp : p ∈ S := by rw [hbS]; simp
      refine ⟨_, _, tg_tup (tgs_cons tg_name (tgs_cons tg_name tgs_nil)) rfl, ?_⟩
      refine sx_if (et_test (ev_chain (ev_siz (ev_W (i := i + k) (by omega) (ev_var rfl) (ev_var rfl))) (ev_var (d := .int p.1) rfl) rv_IB (fun _ => ev_siz (ev_W (i := i + k + 1) (by omega) (ev_var rfl) (ev_succ (ev_var rfl)))) (fun _ => rv_IB))) (fun hb' => ?_) (fun _ => sx_next ⟨d, _, _, _, _, rfl, hd⟩)
      rw [Bool.and_eq_true] at hb'
      have q1 := of_decide_eq_true hb'.1
      have q2 := of_decide_eq_true hb'.2
      have le := g.le (i := i) (j := j) (k := i + k) (o := p.1) (p := p.2) (by omega) (by omega) hj hp q1 q2
      have gb := grains_bound g.w i j
      have p1 := (g.s.all _ hp).p1
      have p2 := (g.s.all _ hp).p2
      refine sx_seq (sx_asg (d := .int (tn W S i (i + k) + tn W S (i + k + 1) j)) (ev_addI (ev_cell (by omega) (by omega) (ev_var rfl) (ev_var rfl) (Ev.is (ev_subI (ev_var (d := .int ((i + k : Nat) : Int)) rfl) (ev_var (d := .int (i : Nat)) rfl)) (by rw [show ((i + k : Nat) : Int) - (i : Nat) = (k : Nat) by omega]))) (Ev.is (ev_cell (i := i + k + 1) (k := j - (i + k + 1)) (by omega) (by omega) (ev_var rfl) (ev_succ (ev_var rfl)) (Ev.is (ev_subI (ev_subI (ev_var (d := .int (j : Nat)) rfl) (ev_var (d := .int ((i + k : Nat) : Int)) rfl)) ev_int) (by rw [show (j : Int) - ((i + k : Nat) : Int) - 1 = ((j - (i + k + 1) : Nat) : Int) by omega]))) (by rw [show i + k + 1 + (j - (i + k + 1)) = j by omega]))) ?_)
      refine sx_seq (sx_asg (d := .int (p.2 * grains W i j + (tn W S i (i + k) + tn W S (i + k + 1) j))) (ev_addI (ev_mulI (ev_var rfl) (ev_var rfl) (mul_ok (big p1 (by omega)) (big gb.1 gb.2))) (ev_var rfl)) ?_)
      generalize p.2 * grains W i j + (tn W S i (i + k) + tn W S (i + k + 1) j) = nb at *
      have fin : ∀ x10, ∃ d x8 x9 x10' x11, ([.dat (wishD W), .dat (stockD S), .dat (rowsD W S), .dat (.int (i : Nat)), .dat (.int (j : Nat)), .dat (.int (grains W i j)), .dat (.int nb), .dat (.int ((i + k : Nat) : Int)), .dat (.int p.1), .dat (.int p.2), x10, .dat (.int nb), x12] : List Item) = [.dat (wishD W), .dat (stockD S), .dat (rowsD W S), .dat (.int (i : Nat)), .dat (.int (j : Nat)), .dat (.int (grains W i j)), .dat d, .dat (.int ((i + k : Nat) : Int)), x8, x9, x10', x11, x12] ∧ noneOr (tn W S i j) d := fun x10 => ⟨_, _, _, _, _, rfl, .inr ⟨nb, rfl, le⟩⟩
      rcases hd with rfl | ⟨z, rfl, hz⟩
      · refine sx_if (b := true) ((et_or (a := true) (b := true) (et_test (ev_op (ev_var rfl) ev_non (rv_isN fun B x h => non_non h))) (fun h => nomatch h)).is rfl) (fun _ => sx_asg (ev_var rfl) (fin _)) (fun h => nomatch h)
      · refine sx_if (et_or (et_test (ev_op (ev_var rfl) ev_non (rv_isN fun B x h => non_int h))) (fun _ => et_test (ev_op (ev_var rfl) (ev_var rfl) rv_IB))) (fun _ => sx_asg (ev_var rfl) (fin _)) (fun _ => sx_next ⟨_, _, _, _, _, rfl, .inr ⟨z, rfl, hz⟩⟩)
    · rintro Γ2 ⟨d, x8, x9, x10, x11, rfl, hd⟩
      exact ⟨d, _, x8, x9, x10, x11, x12, rfl, hd⟩
  · rintro Γ1 ⟨d, x7, x8, x9, x10, x11, x12, rfl, hd⟩
    exact sx_retP (ev_var rfl) (fun e he => by rw [he]; exact hd) rfl
/-! _law_sound -/
abbrev soArgs : WS → List Item := fun a => [.dat (wishD a.1), .dat (stockD a.2), .dat (rowsD a.1 a.2)]
abbrev sp__law_sound (K : PySem.W.Frag) : Sp := spD K soArgs (fun a => Good a.1 a.2) (fun _ d => d = .bool true)
theorem shaped_ints (l : List Int) : SeqAt.shaped (intsD l) = true :=
  shaped_of (lay_list (canLayAll_map _ (fun _ => by simp [PyData.canLay0]) l)) (Nat.le_trans (dep_list (depthAll_map _ 1 (fun x => by simp [PyData.depth]) l)) (by decide))
theorem flat_ints' (l : List Int) : flat (intsD l) = true := by rw [flat]; exact flatAll_map _ (fun _ => by simp [flat]) l
theorem rd__law_sound (a : WS) (h : Good a.1 a.2) : Sx K H0 (t__law_sound K (sp__law_bound K)) (soArgs a ++ List.replicate (N__law_sound.length - 3) .no) (poD K fun d => d = .bool true) := by
  obtain ⟨W, S⟩ := a
  have g : Good W S := h
  have hn := g.w.l2
  refine sx_seq (sx_asg (ev_lenW (ev_var rfl)) ?_)
  let ls : List Int := (List.range W.length).map fun i : Nat => (W.length : Int) - (i : Int)
  refine sx_seq (sx_if (b := false) ((et_test (ev_op (dx := intsD ls) (dy := intsD ls) ?_ ?_ (rv_neD (shaped_ints _) (shaped_ints _)))).is (by rw [eqv_self _ (flat_ints' _)]; rfl)) (fun h => nomatch h) (fun _ => sx_next ?_))
  · refine ((en_map (enc := fun i : Nat => intsD (rowT W S i)) (out := fun i : Nat => .int ((W.length : Int) - (i : Int))) (List.range W.length) (wk_list (ev_var rfl)) (by rw [List.length_range]; omega) fun i hi => ?_).is ?_).ev
    · have hi : i < W.length := List.mem_range.mp hi
      exact ⟨_, _, tg_name, fun j h => h, (ev_lenW (ev_var rfl)).is (by unfold rowT; rw [List.length_map, List.length_range, show ((W.length - i : Nat) : Int) = (W.length : Int) - (i : Int) by omega])⟩
    · show _ = ls.map PyData.int
      rw [List.map_map]; rfl
  · refine ((en_map (enc := fun i : Nat => .int (i : Nat)) (out := fun i : Nat => .int ((W.length : Int) - (i : Int))) (List.range W.length) (wk_nat (ev_var rfl) (by omega)) (by rw [List.length_range]; omega) fun i hi => ?_).is ?_).ev
    · exact ⟨_, _, tg_name, fun j h => h, ev_subI (ev_var rfl) (ev_var rfl)⟩
    · show _ = ls.map PyData.int
      rw [List.map_map]; rfl
  refine sx_seq (sx_for (List.range W.length) (wk_nat (ev_var rfl) (by omega)) (fun pre Γ => ∃ x4 x5 x6 x7 x8, Γ = [.dat (wishD W), .dat (stockD S), .dat (rowsD W S), .dat (.int (W.length : Nat)), x4, x5, x6, x7, x8]) ⟨_, _, _, _, _, rfl⟩ ?_ ?_)
  · rintro pre i post Γ1 hb ⟨x4, x5, x6, x7, x8, rfl⟩
    have hi : i < W.length := List.mem_range.mp (by rw [hb]; simp)
    refine ⟨_, _, tg_name, ?_⟩
    have wkj : ∀ {Γ : List Item}, Γ[4]? = some (.dat (.int (i : Nat))) → Γ[3]? = some (.dat (.int (W.length : Nat))) → Wk K H0 (iRng2 (tCons (tVar 4) (tCons (tVar 3) tNil))) Γ ((List.range (W.length - i)).map fun k : Nat => .int ((i + k : Nat) : Int)) := fun {Γ} e2 e3 => by
      have := wk_rng2 (K := K) (H0 := H0) (ev_var e2) (ev_var e3) (by omega) (by omega) (by omega) (by omega)
      rw [show ((W.length : Int) - (i : Int)).toNat = W.length - i by omega] at this
      exact this
    refine sx_for (List.range (W.length - i)) (wkj rfl rfl) (fun pre Γ => ∃ x5 x6 x7, Γ = [.dat (wishD W), .dat (stockD S), .dat (rowsD W S), .dat (.int (W.length : Nat)), .dat (.int (i : Nat)), x5, x6, x7, x8]) ⟨_, _, _, rfl⟩ ?_ ?_
    · rintro preK k postK Γ2 hbK ⟨x5, x6, x7, rfl⟩
      have hk : k < W.length - i := List.mem_range.mp (by rw [hbK]; simp)
      refine ⟨_, _, tg_name, ?_⟩
      refine sx_seq (sx_asgP (P := noneOr (tn W S i (i + k))) (ev_callD ⟨W, S, i, i + k⟩ (ea_cons (ev_var rfl) (ea_cons (ev_var rfl) (ea_cons (ev_var rfl) (ea_cons (ev_var rfl) (ea_cons (ev_var rfl) ea_nil))))) ⟨g, by show i ≤ i + k; omega, by show i + k < W.length; omega⟩ fun d e => e) fun d hd => ?_)
      refine sx_seq (sx_asg (ev_cell hi hk (ev_var rfl) (ev_var rfl) (Ev.is (ev_subI (ev_var (d := .int ((i + k : Nat) : Int)) rfl) (ev_var (d := .int (i : Nat)) rfl)) (by rw [show ((i + k : Nat) : Int) - (i : Nat) = (k : Nat) by omega]))) ?_)
      have nn := g.nn (i := i) (j := i + k) (by omega) (by omega)
      rcases hd with rfl | ⟨z, rfl, hz⟩
      · exact sx_if (b := false) ((et_or (et_test (ev_op (ev_var rfl) ev_int (rv_IB (g := fun i j => decide (i < j))))) fun _ => et_and (et_test (ev_op (ev_var rfl) ev_non (rv_isNot fun B x h => non_non h))) (fun h => nomatch h) (b := false)).is (by rw [decide_eq_false (by omega)]; rfl)) (fun h => nomatch h) (fun _ => sx_next ⟨_, _, _, rfl⟩)
      · exact sx_if (b := false) ((et_or (et_test (ev_op (ev_var rfl) ev_int (rv_IB (g := fun i j => decide (i < j))))) fun _ => et_and (et_test (ev_op (ev_var rfl) ev_non (rv_isNot fun B x h => non_int h))) fun _ => et_test (ev_op (ev_var rfl) (ev_var rfl) (rv_IB (g := fun i j => decide (j < i))))).is (by rw [decide_eq_false (by omega), decide_eq_false (by omega)]; rfl)) (fun h => nomatch h) (fun _ => sx_next ⟨_, _, _, rfl⟩)
    · rintro Γ2 ⟨x5, x6, x7, rfl⟩
      exact ⟨_, _, _, _, _, rfl⟩
  · rintro Γ1 ⟨x4, x5, x6, x7, x8, rfl⟩
    exact sx_retP ev_bool (fun d e => e) rfl
end
end K58
set_option Elab.async false
set_option linter.all false
set_option maxRecDepth 100000
set_option maxHeartbeats 2000000
namespace K58
open PySem PySem.Spec PyProof.Rows L2
section
variable {K : PySem.W.Frag} {H0 : Hp}
theorem ev_neg {Γ : List Item} {ta : TE} {n : Int} (h : Ev K H0 ta Γ (.int n)) : Ev K H0 (tUn (rU fun i => .int (-i)) ta) Γ (.int (-n)) := fun B H σ E Q q => h B H σ E _ fun v d B2 H2 e s hv => by
  subst e
  exact ⟨n, dp_int hv, q _ _ B2 H2 rfl s (.int _)⟩
/-! _law_work -/
structure wkPre (a : TW) : Prop where
  d : dep a.t ≤ 20
  o : treeOk (a.S.map (·.1)) a.t
  w : WOk a.W
  s : SOk a.S
abbrev sp__law_work (K : PySem.W.Frag) : Sp := spD K twArgs wkPre (fun a d => d = .int (wk a.S a.t a.W))
theorem rd__law_work (a : TW) (h : wkPre a) : Sx K H0 (t__law_work K (sp__law_met K)) (twArgs a ++ List.replicate (N__law_work.length - 3) .no) (poD K fun d => d = .int (wk a.S a.t a.W)) := by
  obtain ⟨t, W, S⟩ := a
  obtain ⟨hd, ho, w, s⟩ := h
  have hd : dep t ≤ 20 := hd
  have ho : treeOk (S.map (·.1)) t := ho
  have w : WOk W := w
  have s : SOk S := s
  have hn := w.l2
  refine sx_seq (sx_dictP (ev_var rfl) ?_)
  refine sx_seq (sx_asg ev_int (sx_seq ?_))
  refine sx_for W (wk_list (ev_var rfl)) (fun pre Γ => ∃ x5 x6 x7 x8, Γ = [.dat (encTr t), .dat (wishD W), .dat (stockD S), .dk (mergeI [] (S.map fun p => (p.1, .int p.2))), .dat (.int (wk S t pre)), x5, x6, x7, x8]) ⟨_, _, _, _, rfl⟩ ?_ ?_
  · rintro pre x post Γ1 hb ⟨x5, x6, x7, x8, rfl⟩
    have hx : x ∈ W := by rw [hb]; simp
    have tx := w.all _ hx
    refine ⟨_, _, tg_tup (tgs_cons tg_name (tgs_cons tg_name (tgs_cons tg_name tgs_nil))) rfl, ?_⟩
    have cb := cost_b s t x.1
    have dd : (dep t : Int) * G60 ≤ 20 * G60 := Int.mul_le_mul_of_nonneg_right (by omega) (by decide)
    have gg : (20 : Int) * G60 ≤ 1000 * G60 := by decide
    have m1 := tx.m1
    have m2 := tx.m2
    have gp : (0 : Int) ≤ G60 := by decide
    have es : Ev K H0 (tCB (rSum K) (tCons (tLc (iList K (tOp (rIxT K) (tCall (sp__law_met K) [] E0 (tCons (tVar 0) (tCons (tVar 5) tNil))) (tC (.int 0)))) (gName 8) tYes (tDGet (tVar 3) (tVar 8)) [8]) tNil)) [.dat (encTr t), .dat (wishD W), .dat (stockD S), .dk (mergeI [] (S.map fun p => (p.1, .int p.2))), .dat (.int (wk S t pre)), .dat (.int x.1), .dat (.int x.2.1), .dat (.int x.2.2), x8] (.int (cost S t x.1)) := by
      refine ev_sum (ns := (mets t x.1).map (pr S)) ?_
      refine ((en_map (enc := PyData.int) (out := fun o : Int => .int (pr S o)) (mets t x.1) (wk_list (ev_op (ev_met (by omega) (ev_var rfl) (ev_var rfl)) ev_int (rv_ixT (d := intsD (mets t x.1)) rfl))) (by have := mets_len t x.1; omega) fun o hm => ?_).is (by rw [List.map_map]; rfl)).ev
      exact ⟨_, _, tg_name, fun j h => h, ev_dgetK rfl (ev_var rfl) (look_pr s (mets_in t x.1 ho o hm))⟩
    refine sx_asg (d := .int (wk S t (pre ++ [x]))) (Ev.is (ev_addI (ev_var rfl) (ev_mulI (ev_var rfl) es (mul_ok (big (by omega) (by omega)) (big cb.1 (by omega))))) ?_) ⟨_, _, _, _, rfl⟩
    rw [wk_app]
    show PyData.int (wk S t pre + x.2.1 * cost S t x.1) = .int (wk S t pre + (x.2.1 * cost S t x.1 + 0))
    rw [Int.add_zero]
  · rintro Γ1 ⟨x5, x6, x7, x8, rfl⟩
    exact sx_retP (ev_var rfl) (fun d e => e) rfl
/-! _law_numbers -/
abbrev nuArgs : List (List Int) → List Item := fun R => [.dat (.list (R.map intsD))]
abbrev sp__law_numbers (K : PySem.W.Frag) : Sp := spD K nuArgs (fun R => ∀ r ∈ R, r.length ≤ 1000) (fun _ d => d = .bool true)
theorem rd__law_numbers (R : List (List Int)) (h : ∀ r ∈ R, r.length ≤ 1000) : Sx K H0 (t__law_numbers K (sp__law_whole K)) (nuArgs R ++ List.replicate (N__law_numbers.length - 1) .no) (poD K fun d => d = .bool true) := by
  refine sx_seq (sx_if (b := false) (et_not (et_B (ev_isi (d := .list (R.map intsD)) (ev_var rfl) (by decide +kernel : kitB "list" "list" = some true)))) (fun h => nomatch h) (fun _ => sx_next ?_))
  refine sx_seq (sx_for R (wk_list (ev_var rfl)) (fun pre Γ => ∃ x1 x2, Γ = [.dat (.list (R.map intsD)), x1, x2]) ⟨_, _, rfl⟩ ?_ ?_)
  · rintro pre r post Γ1 hb ⟨x1, x2, rfl⟩
    have hr := h r (by rw [hb]; simp)
    refine ⟨_, _, tg_name, ?_⟩
    refine sx_if (b := false) ((et_or (et_not (et_B (ev_isi (ev_var (d := intsD r) rfl) (by decide +kernel : kitB "list" "list" = some true)))) fun _ => et_test (ev_op (ev_lenW (f := PyData.int) (l := r.filter fun _ => false) (en_lc (enc := PyData.int) (out := PyData.int) (keep := fun _ => false) r (wk_list (ev_var rfl)) (by omega) fun x hx => ?_).ev) ev_int (rv_IB (g := fun i j => decide (j < i))))).is ?_) (fun h => nomatch h) (fun _ => sx_next ⟨_, _, rfl⟩)
    · exact ⟨_, _, tg_name, fun j h => h, et_not (et_B (ev_whole (n := x) (ev_var rfl))), fun h => nomatch h⟩
    · have : r.filter (fun _ => false) = [] := by simp
      rw [this]; rfl
  · rintro Γ1 ⟨x1, x2, rfl⟩
    exact sx_retP ev_bool (fun d e => e) rfl
/-! _law_holds -/
abbrev foundD (W : List Tri) (S : List (Int × Int)) : PyData := .tuple [.str "tree", encTr (treeT W S 0 (W.length - 1)), .int (tn W S 0 (W.length - 1)), rowsD W S]
structure HO4 where
  W : List Tri
  S : List (Int × Int)
  c : Int
abbrev hoArgs : HO4 → List Item := fun a => [.dat (foundD a.W a.S), .dat (wishD a.W), .dat (stockD a.S), .dat (.int a.c)]
structure hoPre (a : HO4) : Prop where
  g : Good a.W a.S
  c0 : 0 ≤ a.c
  c1 : a.c ≤ G60
abbrev sp__law_holds (K : PySem.W.Frag) : Sp := spD K hoArgs hoPre (fun _ d => d = .bool true)
theorem row_last {W : List Tri} {S : List (Int × Int)} (h : 1 ≤ W.length) : atI ((rowT W S 0).map PyData.int) (-1) = some (.int (tn W S 0 (W.length - 1))) := by
  obtain ⟨m, hm⟩ : ∃ m, W.length = m + 1 := ⟨W.length - 1, by omega⟩
  unfold rowT
  rw [hm, Nat.sub_zero, List.range_succ, List.map_append, List.map_append]
  have := atI_last (((List.range m).map fun k => tn W S 0 (0 + k)).map PyData.int) (.int (tn W S 0 (0 + m)))
  rw [show tn W S 0 (m + 1 - 1) = tn W S 0 (0 + m) by rw [Nat.zero_add]; rfl]
  exact this
theorem rd__law_holds (a : HO4) (h : hoPre a) : Sx K H0 (t__law_holds K (sp__law_whole K) (sp__law_numbers K) (sp__law_served K) (sp__law_work K) (sp__law_sound K) (sp__law_tree_by K 20)) (hoArgs a ++ List.replicate (N__law_holds.length - 4) .no) (poD K fun d => d = .bool true) := by
  obtain ⟨W, S, c⟩ := a
  obtain ⟨g, c0, c1⟩ := h
  have g : Good W S := g
  have c0 : 0 ≤ c := c0
  have c1 : c ≤ G60 := c1
  have hn := g.w.l2
  have hn1 := g.w.l1
  have hs := g.s.l2
  obtain ⟨ct, cw⟩ := treeT_cutT g (W.length - 1 - 0 + 1) 0 (W.length - 1) (by omega) (by omega) (by omega)
  obtain ⟨tok, tdep⟩ := ct.ok g.w (by omega) (by omega)
  have tser := ct.serves g.w (by omega) (by omega)
  rw [slc_all hn1] at cw
  have f0 : ∀ {Γ : List Item}, Γ[0]? = some (.dat (foundD W S)) → Ev K H0 (tOp (rIxT K) (tVar 0) (tC (.int 0))) Γ (.str "tree") := fun {Γ} h => ev_op (ev_var h) ev_int (rv_ixT rfl)
  have f1 : ∀ {Γ : List Item}, Γ[0]? = some (.dat (foundD W S)) → Ev K H0 (tOp (rIxT K) (tVar 0) (tC (.int 1))) Γ (encTr (treeT W S 0 (W.length - 1))) := fun {Γ} h => ev_op (ev_var h) ev_int (rv_ixT rfl)
  have f2 : ∀ {Γ : List Item}, Γ[0]? = some (.dat (foundD W S)) → Ev K H0 (tOp (rIxT K) (tVar 0) (tC (.int 2))) Γ (.int (tn W S 0 (W.length - 1))) := fun {Γ} h => ev_op (ev_var h) ev_int (rv_ixT rfl)
  have f3 : ∀ {Γ : List Item}, Γ[0]? = some (.dat (foundD W S)) → Ev K H0 (tOp (rIxT K) (tVar 0) (tC (.int 3))) Γ (rowsD W S) := fun {Γ} h => ev_op (ev_var h) ev_int (rv_ixT rfl)
  refine sx_seq (sx_if (b := false) ((et_or (et_test (ev_op (ev_lenT (ev_var rfl)) ev_int rv_neI)) fun _ => et_or (et_test (ev_op (f0 rfl) ev_str rv_neS)) fun _ => et_or (et_not (et_B (ev_whole (f2 rfl)))) fun _ => et_not (et_B (b := true) (ev_callD ((List.range W.length).map fun i => rowT W S i) (ea_cons ((f3 rfl).is (by rw [List.map_map]; rfl)) ea_nil) (fun r hr => ?_) fun d e => e))).is (by simp)) (fun h => nomatch h) (fun _ => sx_next ?_))
  · obtain ⟨i, hi, rfl⟩ := List.mem_map.mp hr
    unfold rowT
    rw [List.length_map, List.length_range]
    omega
  refine sx_seq (sx_if (b := false) (EvT.is (et_or (et_not (et_B (b := true) (ev_callD ⟨treeT W S 0 (W.length - 1), W, S⟩ (ea_cons (f1 rfl) (ea_cons (ev_var rfl) (ea_cons (ev_var rfl) ea_nil))) ⟨by show dep (treeT W S 0 (W.length - 1)) ≤ 20; omega, tok, by show W.length ≤ 1000; omega, by show S.length ≤ 1000; omega, fun x hx => ?_⟩ fun d e => e))) fun _ => et_test (ev_op (dx := .int (wk S (treeT W S 0 (W.length - 1)) W)) (ev_callD ⟨treeT W S 0 (W.length - 1), W, S⟩ (ea_cons (f1 rfl) (ea_cons (ev_var rfl) (ea_cons (ev_var rfl) ea_nil))) ⟨by show dep (treeT W S 0 (W.length - 1)) ≤ 20; omega, tok, g.w, g.s⟩ fun d e => e) (f2 rfl) rv_neI)) (by rw [cw]; simp)) (fun h => nomatch h) (fun _ => sx_next ?_))
  · have hx : x ∈ W := hx
    rw [← slc_all hn1] at hx
    obtain ⟨k, k1, k2, rfl⟩ := slc_mem' (by omega) (by omega) hx
    exact tser k k1 k2
  refine sx_seq (sx_if (b := false) ((et_or (et_not (et_B (b := true) (ev_callD (W, S) (ea_cons (ev_var rfl) (ea_cons (ev_var rfl) (ea_cons (f3 rfl) ea_nil))) g fun d e => e))) fun _ => et_test (ev_op (ev_op (ev_op (f3 rfl) ev_int (rv_ixL (at_row (i := 0) (by omega)))) (ev_neg ev_int) (rv_ixL (row_last hn1))) (f2 rfl) rv_neI)).is (by simp)) (fun h => nomatch h) (fun _ => sx_next ?_))
  refine sx_seq (sx_for (List.range 4) (wk_rng1 (n := 4) ev_int (by decide) (by decide)) (fun pre Γ => ∃ x4, Γ = [.dat (foundD W S), .dat (wishD W), .dat (stockD S), .dat (.int c), x4]) ⟨_, rfl⟩ ?_ ?_)
  · rintro pre k post Γ1 hb ⟨x4, rfl⟩
    have hk : k < 4 := List.mem_range.mp (by rw [hb]; simp)
    refine ⟨_, _, tg_name, ?_⟩
    have d0 : 0 ≤ c / ((k : Int) + 1) := Int.ediv_nonneg c0 (by omega)
    have d1 : c / ((k : Int) + 1) ≤ c := Int.ediv_le_self _ c0
    have gl : (1000 : Int) ≤ G60 := by decide
    have et : EvP K H0 (tCall (sp__law_tree_by K 20) [] E0 (tCons (tVar 1) (tCons (tVar 2) (tCons (tOp (rI0 fun i j => .int (i + j)) (tOp (rI CDivW fun i j => .int (i / j)) (tVar 3) (tOp (rI0 fun i j => .int (i + j)) (tVar 4) (tC (.int 1)))) (tOp (rI CMulW fun i j => .int (i * j)) (tC (.int 7)) (tVar 4))) tNil)))) [.dat (foundD W S), .dat (wishD W), .dat (stockD S), .dat (.int c), .dat (.int (k : Nat))] (fun d => ∃ t, d = encTr t ∧ CutT W S 0 (W.length - 1) t) :=
      ev_callD ⟨W, S, 0, W.length - 1, c / ((k : Int) + 1) + 7 * (k : Int)⟩ (ea_cons ((ev_var rfl).is (by show wishD W = wishD (slc W 0 (W.length - 1)); rw [slc_all hn1])) (ea_cons (ev_var rfl) (ea_cons (ev_addI (ev_div (ev_var rfl) (ev_addI (ev_var rfl) ev_int) (by omega) (by omega)) (ev_mulI ev_int (ev_var rfl) (mul_ok (big (by decide) (by decide)) (big (by omega) (by omega))))) ea_nil))) ⟨g, Nat.zero_le _, by show W.length - 1 < W.length; omega, by show W.length - 1 - 0 + 1 ≤ 20; omega, by show 0 ≤ c / ((k : Int) + 1) + 7 * (k : Int); omega, by show c / ((k : Int) + 1) + 7 * (k : Int) ≤ 2 * G60; omega⟩ fun d e => e
    have ew := ev_callA (K := K) (H0 := H0) (post := fun (a : TW) d => d = .int (wk a.S a.t a.W)) (pre := wkPre) (args := twArgs) (X := E0) (P := fun d => ∃ z : Int, d = .int z ∧ tn W S 0 (W.length - 1) ≤ z) (ea_consP et (ea_consP (P := fun d => d = wishD W) (ev_var (i := 1) (Γ := [.dat (foundD W S), .dat (wishD W), .dat (stockD S), .dat (.int c), .dat (.int (k : Nat))]) rfl) (ea_consP (P := fun d => d = stockD S) (ev_var (i := 2) rfl) ea_nil))) (by
      rintro ts ⟨d1, r1, e1, ⟨t, e2, u⟩, d2, r2, e3, e4, d3, r3, e5, e6, e7⟩
      obtain ⟨o1, o2⟩ := u.ok g.w (by omega) (by omega)
      have ul := u.le g (by omega) (by omega)
      rw [slc_all hn1] at ul
      exact ⟨⟨t, W, S⟩, by rw [e1, e3, e5, e7, e2, e4, e6], ⟨by show dep t ≤ 20; omega, o1, g.w, g.s⟩, fun d e => ⟨_, e, ul⟩⟩)
    refine sx_if (b := false) (et_test (ev_bin ew (f2 rfl) fun dx dy ⟨z, e, hz⟩ e2 => ?_)) (fun h => nomatch h) (fun _ => sx_next ⟨_, rfl⟩)
    subst e e2
    have : Rv K (rI0 fun i j => .bl (decide (i < j))) (.int z) (.int (tn W S 0 (W.length - 1))) (.bool (decide (z < tn W S 0 (W.length - 1)))) := rv_IB
    rw [decide_eq_false (by omega)] at this
    exact this
  · rintro Γ1 ⟨x4, rfl⟩
    exact sx_retP ev_bool (fun d e => e) rfl
end
end K58
set_option Elab.async false
set_option linter.all false
set_option maxRecDepth 100000
set_option maxHeartbeats 2000000
namespace K58
open PySem PySem.Spec PyProof.Rows L2
theorem not_ok {W : List Tri} (h : ¬ WOk W) : wishOk W = false := by
  cases e : wishOk W with
  | false => rfl
  | true => exact absurd (wishOk_iff.mp e) h
theorem not_okS {S : List (Int × Int)} (h : ¬ SOk S) : stockOk S = false := by
  cases e : stockOk S with
  | false => rfl
  | true => exact absurd (stockOk_iff.mp e) h
section
variable {K : PySem.W.Frag} {H0 : Hp}
theorem sx_newLs {Γ : List Item} {φ : Po} {i : Nat} {ta : TA} {ds : List PyData} (h : EvA K H0 ta Γ (fun ts => ts = ds.map .dat)) (hl : ds.length ≤ 100000) (k : φ.nx (Γ.set i (.lst ds))) : Sx K H0 (tAsg (tLst ta) (gName i)) Γ φ := fun B H σ D E hd =>
  h B H σ E _ fun vs ts B1 H1 e s hs => by
    subst e
    have hx := args_data hs
    have E1 := E.step s
    exact ⟨Nat.le_trans (by rw [dpa_len hx]; exact hl) (by decide), fun p hp => hd.nx _ _ B1 _ k (s.rch E.oh) (E1.set_new hp ⟨p, vs, rfl, E1.oh.free hp, E1.ob.free hp, upd_same, hx⟩)⟩
/-! _law_bad_wish -/
def badT (s m b o : Int) : List Tri := [(0 - o, m, b), (G60 + 1 + o, m, b), (s, 0 - o, b), (s, G60 + 1 + o, b), (s, m, 6 + o), (s, m, -1 - o)]
theorem badT_not {s m b o : Int} (h : 0 ≤ o) : ∀ x ∈ badT s m b o, ¬ TriOk x := by
  intro x hx t
  obtain ⟨h1, h2, h3, h4, h5, h6⟩ := t
  have g : (1 : Int) ≤ G60 := by decide
  unfold badT at hx
  simp only [List.mem_cons, List.not_mem_nil, or_false] at hx
  rcases hx with rfl | rfl | rfl | rfl | rfl | rfl
  · have h1 : 1 ≤ 0 - o := h1
    omega
  · have h2 : G60 + 1 + o ≤ G60 := h2
    omega
  · have h3 : 1 ≤ 0 - o := h3
    omega
  · have h4 : G60 + 1 + o ≤ G60 := h4
    omega
  · have h6 : 6 + o ≤ 5 := h6
    omega
  · have h5 : 0 ≤ -1 - o := h5
    omega
abbrev isBadW : PyData → Prop := fun d => ∃ W : List Tri, d = wishD W ∧ wishOk W = false
abbrev sp__law_bad_wish (K : PySem.W.Frag) : Sp := spD K (fun a : List Tri × Int => [.dat (wishD a.1), .dat (.int a.2)]) (fun a => WOk a.1) (fun _ => isBadW)
theorem ev_ins {Γ : List Item} {α : Type} {f : α → PyData} {l : List α} {n m : Nat} {x : α} {t1 t2 t3 t4 : TE} (hl : l.length ≤ 1000) (h1 : Ev K H0 t1 Γ (.list (l.map f))) (h2 : Ev K H0 t2 Γ (.int (n : Nat))) (h3 : Ev K H0 t3 Γ (f x)) (h4 : Ev K H0 t4 Γ (.int (m : Nat))) :
    Ev K H0 (tOp rCat (tOp rCat (tSl (rSlL K) t1 tNoPart (tPart t2)) (tLst (tCons t3 tNil))) (tSl (rSlL K) t1 (tPart t4) tNoPart)) Γ (.list ((l.take n ++ [x] ++ l.drop m).map f)) := by
  have a := (en_slice h1 eo_none (eo_some h2)).is (by rw [cut_map, cut_take])
  have b := (en_slice h1 (eo_some h4) eo_none).is (by rw [cut_map, cut_drop])
  have l1 : (l.take n).length ≤ l.length := by rw [List.length_take]; omega
  have l2 : (l.drop m).length ≤ l.length := by rw [List.length_drop]; omega
  refine ((en_cat (en_cat a.h (en_lst (ds := [f x]) (ea_cons h3 ea_nil) (len_ok rfl)).h (by rw [List.length_map]; show _ + 1 ≤ _; omega)).h b.h (by rw [List.length_append, List.length_map, List.length_map]; show _ + 1 + _ ≤ _; omega)).is ?_).ev
  rw [List.map_append, List.map_append]; rfl
theorem rd__law_bad_wish (a : List Tri × Int) (h : WOk a.1) : Sx K H0 (t__law_bad_wish K) ([.dat (wishD a.1), .dat (.int a.2)] ++ List.replicate (N__law_bad_wish.length - 2) .no) (poD K isBadW) := by
  obtain ⟨W, c⟩ := a
  have w : WOk W := h
  have hn := w.l2
  have hn1 := w.l1
  show Sx K H0 _ ([.dat (wishD W), .dat (.int c)] ++ _) _
  have p0 : 0 ≤ c / 8 % (W.length : Nat) := Int.emod_nonneg _ (by omega)
  have p1 : c / 8 % (W.length : Nat) < (W.length : Nat) := Int.emod_lt_of_pos _ (by omega)
  refine sx_seq (sx_asg (ev_mod (ev_div (ev_var rfl) ev_int (by decide) (by decide)) (ev_lenW (ev_var rfl)) (by omega)) ?_)
  obtain ⟨p, hp⟩ : ∃ p : Nat, c / 8 % (W.length : Nat) = (p : Int) := ⟨(c / 8 % (W.length : Nat)).toNat, (Int.toNat_of_nonneg p0).symm⟩
  rw [hp] at p0 p1 ⊢
  have hpl : p < W.length := by omega
  have tp := w.tri hpl
  refine sx_seq (sx_asgG (ev_W hpl (ev_var rfl) (ev_var rfl)) (tg_tup (tgs_cons tg_name (tgs_cons tg_name (tgs_cons tg_name tgs_nil))) rfl) ?_)
  have o0 : 0 ≤ c / 160 % G60 := Int.emod_nonneg _ (by decide)
  refine sx_seq (sx_asg (ev_mod (ev_div (ev_var rfl) ev_int (by decide) (by decide)) ev_pow60 (by decide)) ?_)
  generalize c / 160 % G60 = o at *
  show Sx K H0 _ [.dat (wishD W), .dat (.int c), .dat (.int (p : Nat)), .dat (.int (siz W p)), .dat (.int (man W p)), .dat (.int (bin W p)), .dat (.int o), .no, .no] _
  refine sx_seq (sx_newLs (ds := [encT (0 - o, man W p, bin W p), encT (G60 + 1 + o, man W p, bin W p), encT (siz W p, 0 - o, bin W p)]) (ea_cons (ev_tup (ds := [.int (0 - o), .int (man W p), .int (bin W p)]) (ea_cons (ev_subI ev_int (ev_var rfl)) (ea_cons (ev_var rfl) (ea_cons (ev_var rfl) ea_nil))) (len_ok rfl)) (ea_cons (ev_tup (ds := [.int (G60 + 1 + o), .int (man W p), .int (bin W p)]) (ea_cons (ev_addI (ev_addI ev_pow60 ev_int) (ev_var rfl)) (ea_cons (ev_var rfl) (ea_cons (ev_var rfl) ea_nil))) (len_ok rfl)) (ea_cons (ev_tup (ds := [.int (siz W p), .int (0 - o), .int (bin W p)]) (ea_cons (ev_var rfl) (ea_cons (ev_subI ev_int (ev_var rfl)) (ea_cons (ev_var rfl) ea_nil))) (len_ok rfl)) ea_nil))) (len_ok rfl) ?_)
  refine sx_seq (sx_asg (d := .list ((badT (siz W p) (man W p) (bin W p) o).map encT)) (en_cat (eh_own (ds := [encT (0 - o, man W p, bin W p), encT (G60 + 1 + o, man W p, bin W p), encT (siz W p, 0 - o, bin W p)]) rfl) (en_lst (ds := [encT (siz W p, G60 + 1 + o, bin W p), encT (siz W p, man W p, 6 + o), encT (siz W p, man W p, -1 - o)]) (ea_cons (ev_tup (ds := [.int (siz W p), .int (G60 + 1 + o), .int (bin W p)]) (ea_cons (ev_var rfl) (ea_cons (ev_addI (ev_addI ev_pow60 ev_int) (ev_var rfl)) (ea_cons (ev_var rfl) ea_nil))) (len_ok rfl)) (ea_cons (ev_tup (ds := [.int (siz W p), .int (man W p), .int (6 + o)]) (ea_cons (ev_var rfl) (ea_cons (ev_var rfl) (ea_cons (ev_addI ev_int (ev_var rfl)) ea_nil))) (len_ok rfl)) (ea_cons (ev_tup (ds := [.int (siz W p), .int (man W p), .int (-1 - o)]) (ea_cons (ev_var rfl) (ea_cons (ev_var rfl) (ea_cons (ev_subI (ev_neg ev_int) (ev_var rfl)) ea_nil))) (len_ok rfl)) ea_nil))) (len_ok rfl)).h (Nat.le_of_ble_eq_true rfl)).ev ?_)
  have c0 : 0 ≤ c % 8 := Int.emod_nonneg _ (by decide)
  have c8 : c % 8 < 8 := Int.emod_lt_of_pos _ (by decide)
  refine sx_seq (sx_if (et_test (ev_op (ev_mod (ev_var rfl) ev_int (by decide)) ev_int (rv_IB (g := fun i j => decide (i < j))))) (fun h6 => ?_) (fun h6 => sx_next ?_))
  · have h6 := of_decide_eq_true h6
    obtain ⟨q, hq⟩ : ∃ q : Nat, c % 8 = (q : Int) := ⟨(c % 8).toNat, by omega⟩
    have q6 : q < 6 := by omega
    have hql : q < (badT (siz W p) (man W p) (bin W p) o).length := q6
    refine sx_retP (ev_ins (m := p + 1) (x := (badT (siz W p) (man W p) (bin W p) o).getD q (0, 0, 0)) (by omega) (ev_var rfl) (ev_var rfl) (ev_op (ev_var rfl) (Ev.is (ev_mod (ev_var rfl) ev_int (by decide)) (by rw [hq])) (rv_ixL (at_map encT _ _ hql))) (ev_succ (ev_var rfl))) (fun d e => ⟨_, e, not_ok fun ok => ?_⟩) rfl
    refine badT_not (s := siz W p) (m := man W p) (b := bin W p) o0 _ ?_ (ok.all ((badT (siz W p) (man W p) (bin W p) o).getD q (0, 0, 0)) (by simp))
    rw [List.getD_eq_getElem?_getD, List.getElem?_eq_getElem hql]
    exact List.getElem_mem hql
  refine sx_seq (sx_if (et_test (ev_op (ev_mod (ev_var rfl) ev_int (by decide)) ev_int rv_eqI)) (fun h7 => ?_) (fun h7 => sx_next ?_))
  · refine sx_retP (ev_ins (m := p) (x := tri W p) (by omega) (ev_var rfl) (ev_var rfl) (ev_W hpl (ev_var rfl) (ev_var rfl)) (ev_var rfl)) (fun d e => ⟨_, e, not_ok fun ok => ?_⟩) rfl
    have up := ok.up
    rw [List.drop_eq_getElem_cons hpl] at up
    have := (List.pairwise_append.mp up).2.2 (tri W p) (by simp) W[p] List.mem_cons_self
    have e2 : tri W p = W[p] := by
      unfold tri
      rw [List.getD_eq_getElem?_getD, List.getElem?_eq_getElem hpl] <;> rfl
    rw [e2] at this
    exact absurd this (Int.lt_irrefl _)
  · have hL : Ev K H0 (tLc (iRng1 (tCons (tC (.int 21)) tNil)) (gName 8) tYes (tTup (tCons (tOp (rI0 fun i j => .int (i + j)) (tVar 8) (tC (.int 1))) (tCons (tC (.int 1)) (tCons (tC (.int 0)) tNil)))) [8]) [.dat (wishD W), .dat (.int c), .dat (.int (p : Nat)), .dat (.int (siz W p)), .dat (.int (man W p)), .dat (.int (bin W p)), .dat (.int o), .dat (.list ((badT (siz W p) (man W p) (bin W p) o).map encT)), .no] (wishD ((List.range 21).map fun k : Nat => ((k : Int) + 1, 1, 0))) := by
      refine ((en_map (enc := fun k : Nat => .int (k : Nat)) (out := fun k : Nat => encT ((k : Int) + 1, 1, 0)) (List.range 21) (wk_rng1 (n := 21) ev_int (by decide) (by decide)) (by decide) fun k hk => ?_).is (by rw [List.map_map]; rfl)).ev
      exact ⟨_, _, tg_name, fun j h => h, ev_tup (ds := [.int ((k : Int) + 1), .int 1, .int 0]) (ea_cons (ev_addI (ev_var rfl) ev_int) (ea_cons ev_int (ea_cons ev_int ea_nil))) (len_ok rfl)⟩
    refine sx_retP (ev_op (ev_lst (ds := [wishD [], wishD ((List.range 21).map fun k : Nat => ((k : Int) + 1, 1, 0)), wishD (W.take p ++ [(G60, 1, 0)] ++ W.drop p)]) (ea_cons (ev_lst (ds := []) ea_nil (len_ok rfl)) (ea_cons hL (ea_cons (ev_ins (by omega) (ev_var rfl) (ev_var rfl) (ev_tup (ds := [.int G60, .int 1, .int 0]) (ea_cons ev_pow60 (ea_cons ev_int (ea_cons ev_int ea_nil))) (len_ok rfl)) (ev_var rfl)) ea_nil))) (len_ok rfl)) (ev_mod (ev_div (ev_var rfl) ev_int (by decide) (by decide)) ev_int (by decide)) (rv_ixLP (P := isBadW) (Int.emod_nonneg _ (by decide)) (Int.emod_lt_of_pos _ (by decide)) fun d hd => ?_)) (fun d e => e) rfl
    simp only [List.mem_cons, List.not_mem_nil, or_false] at hd
    rcases hd with rfl | rfl | rfl
    · exact ⟨[], rfl, by decide⟩
    · exact ⟨_, rfl, not_ok fun ok => by have := ok.l2; rw [List.length_map, List.length_range] at this; omega⟩
    · refine ⟨_, rfl, not_ok fun ok => ?_⟩
      have up := ok.up
      rw [List.drop_eq_getElem_cons hpl] at up
      have := (List.pairwise_append.mp up).2.2 (G60, 1, 0) (by simp) W[p] List.mem_cons_self
      have h2 := (w.all _ (List.getElem_mem hpl)).s2
      have this : G60 < W[p].1 := this
      omega
/-! _law_bad_stock -/
def badP (o : Int) : List (Int × Int) := [(0 - o, 1), (G60 + 1 + o, 1), (5, -1 - o), (5, G60 + 1 + o)]
theorem badP_not {o : Int} (h : 0 ≤ o) : ∀ x ∈ badP o, ¬ PrOk x := by
  intro x hx t
  obtain ⟨h1, h2, h3, h4⟩ := t
  unfold badP at hx
  simp only [List.mem_cons, List.not_mem_nil, or_false] at hx
  rcases hx with rfl | rfl | rfl | rfl
  · have h1 : 1 ≤ 0 - o := h1
    omega
  · have h2 : G60 + 1 + o ≤ G60 := h2
    omega
  · have h3 : 0 ≤ -1 - o := h3
    omega
  · have h4 : G60 + 1 + o ≤ G60 := h4
    omega
abbrev isBadS : PyData → Prop := fun d => ∃ S : List (Int × Int), d = stockD S ∧ stockOk S = false
abbrev sp__law_bad_stock (K : PySem.W.Frag) : Sp := spD K (fun a : List (Int × Int) × Int => [.dat (stockD a.1), .dat (.int a.2)]) (fun a => SOk a.1) (fun _ => isBadS)
theorem rd__law_bad_stock (a : List (Int × Int) × Int) (h : SOk a.1) : Sx K H0 (t__law_bad_stock K) ([.dat (stockD a.1), .dat (.int a.2)] ++ List.replicate (N__law_bad_stock.length - 2) .no) (poD K isBadS) := by
  obtain ⟨S, c⟩ := a
  have w : SOk S := h
  have hn := w.l2
  show Sx K H0 _ ([.dat (stockD S), .dat (.int c)] ++ _) _
  have p0 : 0 ≤ c / 6 % ((S.length : Nat) + 1 : Int) := Int.emod_nonneg _ (by omega)
  have p1 : c / 6 % ((S.length : Nat) + 1 : Int) < (S.length : Nat) + 1 := Int.emod_lt_of_pos _ (by omega)
  refine sx_seq (sx_asg (ev_mod (ev_div (ev_var rfl) ev_int (by decide) (by decide)) (ev_addI (ev_lenW (ev_var rfl)) ev_int) (by omega)) ?_)
  obtain ⟨p, hp⟩ : ∃ p : Nat, c / 6 % ((S.length : Nat) + 1 : Int) = (p : Int) := ⟨(c / 6 % ((S.length : Nat) + 1 : Int)).toNat, (Int.toNat_of_nonneg p0).symm⟩
  rw [hp] at p0 p1 ⊢
  have o0 : 0 ≤ c / 200 % G60 := Int.emod_nonneg _ (by decide)
  refine sx_seq (sx_asg (ev_mod (ev_div (ev_var rfl) ev_int (by decide) (by decide)) ev_pow60 (by decide)) ?_)
  generalize c / 200 % G60 = o at *
  refine sx_seq (sx_asg (d := .list ((badP o).map encP)) (ev_lst (ds := [encP (0 - o, 1), encP (G60 + 1 + o, 1), encP (5, -1 - o), encP (5, G60 + 1 + o)]) (ea_cons (ev_tup (ds := [.int (0 - o), .int 1]) (ea_cons (ev_subI ev_int (ev_var rfl)) (ea_cons ev_int ea_nil)) (len_ok rfl)) (ea_cons (ev_tup (ds := [.int (G60 + 1 + o), .int 1]) (ea_cons (ev_addI (ev_addI ev_pow60 ev_int) (ev_var rfl)) (ea_cons ev_int ea_nil)) (len_ok rfl)) (ea_cons (ev_tup (ds := [.int 5, .int (-1 - o)]) (ea_cons ev_int (ea_cons (ev_subI (ev_neg ev_int) (ev_var rfl)) ea_nil)) (len_ok rfl)) (ea_cons (ev_tup (ds := [.int 5, .int (G60 + 1 + o)]) (ea_cons ev_int (ea_cons (ev_addI (ev_addI ev_pow60 ev_int) (ev_var rfl)) ea_nil)) (len_ok rfl)) ea_nil)))) (len_ok rfl)) ?_)
  have c0 : 0 ≤ c % 6 := Int.emod_nonneg _ (by decide)
  refine sx_seq (sx_if (et_test (ev_op (ev_mod (ev_var rfl) ev_int (by decide)) ev_int (rv_IB (g := fun i j => decide (i < j))))) (fun h6 => ?_) (fun h6 => sx_next ?_))
  · have h6 := of_decide_eq_true h6
    obtain ⟨q, hq⟩ : ∃ q : Nat, c % 6 = (q : Int) := ⟨(c % 6).toNat, by omega⟩
    have q6 : q < 4 := by omega
    have hql : q < (badP o).length := q6
    refine sx_retP (ev_ins (m := p + 1) (x := (badP o).getD q (0, 0)) (by omega) (ev_var rfl) (ev_var rfl) (ev_op (ev_var rfl) (Ev.is (ev_mod (ev_var rfl) ev_int (by decide)) (by rw [hq])) (rv_ixL (at_map encP _ _ hql))) (ev_succ (ev_var rfl))) (fun d e => ⟨_, e, not_okS fun ok => ?_⟩) rfl
    refine badP_not o0 _ ?_ (ok.all ((badP o).getD q (0, 0)) (by simp))
    rw [List.getD_eq_getElem?_getD, List.getElem?_eq_getElem hql]
    exact List.getElem_mem hql
  refine sx_seq (sx_if (et_and (et_test (ev_op (ev_mod (ev_var rfl) ev_int (by decide)) ev_int rv_eqI)) fun _ => et_test (ev_op (ev_var rfl) ev_int (rv_IB (g := fun i j => decide (j < i))))) (fun h7 => ?_) (fun h7 => sx_next ?_))
  · rw [Bool.and_eq_true] at h7
    have h0 := of_decide_eq_true h7.2
    obtain ⟨q, rfl⟩ : ∃ q, p = q + 1 := ⟨p - 1, by omega⟩
    have hql : q < S.length := by omega
    refine sx_retP (ev_ins (m := q + 1) (x := S.getD q (0, 0)) (by omega) (ev_var rfl) (ev_var rfl) (ev_op (ev_var rfl) (Ev.is (ev_subI (ev_var rfl) ev_int) (by rw [show ((q + 1 : Nat) : Int) - 1 = (q : Nat) by omega])) (rv_ixL (at_map encP _ _ hql))) (ev_var rfl)) (fun d e => ⟨_, e, not_okS fun ok => ?_⟩) rfl
    have up := ok.up
    have e2 : S.getD q (0, 0) = S[q] := by rw [List.getD_eq_getElem?_getD, List.getElem?_eq_getElem hql] <;> rfl
    rw [e2, List.take_succ_eq_append_getElem hql] at up
    have := (List.pairwise_append.mp (List.pairwise_append.mp up).1).2.2 S[q] (List.mem_append_right _ (List.mem_singleton_self _)) S[q] List.mem_cons_self
    exact absurd this (Int.lt_irrefl _)
  · refine sx_retP ((en_map (enc := fun k : Nat => .int (k : Nat)) (out := fun k : Nat => encP ((k : Int) + 1, (k : Int))) (List.range 31) (wk_rng1 (n := 31) ev_int (by decide) (by decide)) (by decide) fun k hk => ?_).is (es := ((List.range 31).map fun k : Nat => ((k : Int) + 1, (k : Int))).map encP) (by rw [List.map_map]; rfl)).ev (fun d e => ⟨_, e, not_okS fun ok => by have := ok.l2; rw [List.length_map, List.length_range] at this; omega⟩) rfl
    exact ⟨_, _, tg_name, fun j h => h, ev_tup (ds := [.int ((k : Int) + 1), .int (k : Int)]) (ea_cons (ev_addI (ev_var rfl) ev_int) (ea_cons (ev_var rfl) ea_nil)) (len_ok rfl)⟩
end
end K58
set_option Elab.async false
set_option linter.all false
set_option maxRecDepth 100000
set_option maxHeartbeats 2000000
namespace K58
open PySem PySem.Spec PyProof.Rows L2
/-- the own errors: asked by isinstance and in the except clause -/
structure RefTxt (K : PySem.W.Frag) (CM CW CS : Addr) : Prop where
  eW : ExcC K CW
  eS : ExcC K CS
  mW : PySem.W.exmOne K (.ref CW) (.ref CM) = some true
  mS : PySem.W.exmOne K (.ref CS) (.ref CM) = some true
  ww : PySem.W.kitOne K (.ref CW) (.ref CW) = some true
  ws : PySem.W.kitOne K (.ref CW) (.ref CS) = some false
  sw : PySem.W.kitOne K (.ref CS) (.ref CW) = some false
  ss : PySem.W.kitOne K (.ref CS) (.ref CS) = some true
/-! _law_refusal -/
def t_suiteR (K : PySem.W.Frag) (CW CS : Addr) : Addr → Value → Option Addr → TS := fun a cls d =>
  tSeq (tIfS (tB (tCB (rIsE2 K a cls d) (tCons (tVar 3) (tCons (tC (.ref CW)) tNil)))) (tDrop (tBM K "list" rAppend (tVar 2) (tCons (tC (.str "wish")) tNil))) tNext)
    (tIfS (tB (tCB (rIsE2 K a cls d) (tCons (tVar 3) (tCons (tC (.ref CS)) tNil)))) (tDrop (tBM K "list" rAppend (tVar 2) (tCons (tC (.str "stock")) tNil))) tNext)
def t_tryR (K : PySem.W.Frag) (sp : Sp) (CM CW CS : Addr) : TS := fun D σ H =>
  tDrop (tCallS sp (WE (wAs K (.ref CM) 3 (t_suiteR K CW CS) (fun _ _ _ _ => False) D)) (tCons (tVar 0) (tCons (tVar 1) tNil))) D σ H
def t__law_refusal (K : PySem.W.Frag) (sp : Sp) (CM CW CS : Addr) : TS :=
  tSeq (tAsg (tLst tNil) (gName 2)) (tSeq (t_tryR K sp CM CW CS) (tRet (tVar 2)))
theorem ps__law_refusal {P : Program} {w : World} {K : PySem.W.Frag} {mg : Str → Option Value} {base : Heap} {f : Addr} {k : Nat} (T : Txt mg) {l : Nat} {sp : Sp} (c : Cal P w K mg base (L2.CX P w) l "least_tree" ["wish", "stock"] sp) (h : l ≤ k) {CM CW CS : Addr}
    (gM : mg "MeshError" = some (.ref CM)) (gW : mg "BadWish" = some (.ref CW)) (gS : mg "BadStock" = some (.ref CS)) (cdv : Value) (A : Around) (outer : List PySem.Env) (s : Shared) (H : Hp) (E : XK)
    (hr : Room k (A.deeper (envOfC "_law_refusal" (defScope s__law_refusal) s.heap.objs.size f cdv))) : PSs (cxOf CX0 P w K mg base N__law_refusal "_law_refusal" (defScope s__law_refusal) f cdv A outer s H E).nox (defBody s__law_refusal) (t__law_refusal K sp CM CW CS) := by
  have nd := sc__law_refusal.nd
  obtain ⟨g, gd, F, m, kp, b⟩ := c.ex
  exact pss_cons (ps_set (i := 2) nd rfl (by first | exact Or.inl rfl | exact Or.inr rfl) (pe_lst pa_nil))
    (pss_cons (ps_try_as (i := 3) (tb := fun W => tDrop (tCallS sp (WE W) (tCons (tVar 0) (tCons (tVar 1) tNil)))) (ts := t_suiteR K CW CS) (Wout := fun _ _ _ _ => False) rfl rfl nd rfl rfl ⟨rfl, by decide, Or.inl gM⟩ takes0
      (fun W pn xe tk _ => pss_one (ps_expr (by exact (pe_callS F (hr.mono h) rfl m kp b (fun σ => passAt tk σ) (by exact (pa_cons (pv 0) (pa_cons (pv 1) pa_nil)))))))
      (fun a oe cls d pn hz hf => pss_cons (ps_if (pt_val (pe_callB (call_isE2 hz hf) (by rfl) T.isinstance (by decide +kernel) (pa_cons (pv 3) (pa_cons (pe_glob rfl gW rfl) pa_nil)))) (pss_one (ps_expr (pe_bm PySem.F.plainAttrs_list PySem.F.slot_list_append PySem.F.type_list_append mt_append (pv 2) (pa_cons pe_str pa_nil)))) pss_nil)
        (pss_one (ps_if (pt_val (pe_callB (call_isE2 hz hf) (by rfl) T.isinstance (by decide +kernel) (pa_cons (pv 3) (pa_cons (pe_glob rfl gS rfl) pa_nil)))) (pss_one (ps_expr (pe_bm PySem.F.plainAttrs_list PySem.F.slot_list_append PySem.F.type_list_append mt_append (pv 2) (pa_cons pe_str pa_nil)))) pss_nil))))
    (pss_one (ps_ret (pv 2))))
section
variable {K : PySem.W.Frag} {H0 : Hp}
theorem et_isE {Γ : List Item} {i : Nat} {C D a : Addr} {b : Bool} (h : Γ[i]? = some (.raw (.ref a))) (c : ExcC K C) (hk : PySem.W.kitOne K (.ref C) (.ref D) = some b) : EvT K H0 (tB (tCB (rIsE2 K a (.ref C) none) (tCons (tVar i) (tCons (tC (.ref D)) tNil)))) Γ b := fun B H σ E Q q => by
  obtain ⟨o, ho, ei⟩ := E.at_ i _ h
  have ei : o = some (.ref a) := ei
  subst ei
  exact ⟨_, ho, C, rfl, rfl, c, .ref D, .ref D, b, rfl, fun u r => r, hk, b, rfl, q B H (Stp.refl E.ob)⟩
def refD (a : WS) : PyData := if wishOk a.1 = false then .list [.str "wish"] else .list [.str "stock"]
abbrev sp__law_refusal (K : PySem.W.Frag) : Sp := spD K ltArgs (fun a => wishOk a.1 = false ∨ stockOk a.2 = false) (fun a d => d = refD a)
theorem sx_suiteR {CM CW CS a C : Addr} (R : RefTxt K CM CW CS) {W : List Tri} {S : List (Int × Int)} {b : Bool} (hC : (b = true ∧ C = CW) ∨ (b = false ∧ C = CS)) :
    Sx K H0 (t_suiteR K CW CS a (.ref C) none) [.dat (wishD W), .dat (stockD S), .lst [], .raw (.ref a)] { nx := fun Γ => ∃ x3, Γ = [.dat (wishD W), .dat (stockD S), .lst (if b then [.str "wish"] else [.str "stock"]), x3] } := by
  rcases hC with ⟨rfl, rfl⟩ | ⟨rfl, rfl⟩
  · refine sx_seq (sx_if (et_isE rfl R.eW R.ww) (fun _ => ?_) (fun h => nomatch h))
    refine sx_app rfl ev_str (by decide) fun d e => ?_
    subst e
    refine sx_if (et_isE rfl R.eW R.ws) (fun h => nomatch h) (fun _ => sx_next ⟨_, rfl⟩)
  · refine sx_seq (sx_if (et_isE rfl R.eS R.sw) (fun h => nomatch h) (fun _ => sx_next ?_))
    refine sx_if (et_isE rfl R.eS R.ss) (fun _ => ?_) (fun h => nomatch h)
    refine sx_app rfl ev_str (by decide) fun d e => ?_
    subst e
    exact ⟨_, rfl⟩
theorem sx_tryR {CM CW CS : Addr} (R : RefTxt K CM CW CS) {a : WS} (h : wishOk a.1 = false ∨ stockOk a.2 = false) {x3 : Item} {φ : Po}
    (k : ∀ x3, φ.nx [.dat (wishD a.1), .dat (stockD a.2), .lst (if wishOk a.1 = false then [.str "wish"] else [.str "stock"]), x3]) : Sx K H0 (t_tryR K (sp_least_tree K CW CS) CM CW CS) [.dat (wishD a.1), .dat (stockD a.2), .lst [], x3] φ := fun B H σ D E hd => by
  have ea : EvA K H0 (tCons (tVar 0) (tCons (tVar 1) tNil)) [.dat (wishD a.1), .dat (stockD a.2), .lst [], x3] (fun ts => ts = ltArgs a) := ea_cons (ev_var rfl) (ea_cons (ev_var rfl) ea_nil)
  unfold t_tryR tDrop tCallS
  refine ea B H σ E _ fun vs ts B1 H1 e s1 hs => ?_
  subst e
  refine ⟨a, B1, s1.ob, hs, trivial, fun v B2 H2 p s2 => ?_, fun C H2 hx sm => ?_⟩
  · obtain ⟨w, s, _⟩ := p
    rcases h with h | h
    · rw [wishOk_iff.mpr w] at h; cases h
    · rw [stockOk_iff.mpr s] at h; cases h
  · have hx' : ∃ b, ((b = true ∧ C = CW) ∨ (b = false ∧ C = CS)) ∧ (if b then [PyData.str "wish"] else [.str "stock"]) = (if wishOk a.1 = false then [.str "wish"] else [.str "stock"]) := by
      rcases hx with ⟨h1, h2⟩ | ⟨h1, _, h2⟩
      · exact ⟨true, .inl ⟨rfl, h2⟩, by rw [if_pos h1, if_pos rfl]⟩
      · exact ⟨false, .inr ⟨rfl, h2⟩, by rw [h1, if_neg (by decide), if_neg (by decide)]⟩
    obtain ⟨b, hC, hb⟩ := hx'
    have em : PySem.W.exmOne K (.ref C) (.ref CM) = some true := by
      rcases hC with ⟨_, rfl⟩ | ⟨_, rfl⟩
      · exact R.mW
      · exact R.mS
    refine ⟨true, em, fun _ x hx0 => ?_, fun z => nomatch z⟩
    have st : Stp B H B1 H2 := s1.trans (Stp.side s1.ob sm)
    have E2 : Sit K H0 B1 H2 (σ.set 3 (some (.ref x))) [.dat (wishD a.1), .dat (stockD a.2), .lst [], .raw (.ref x)] := (E.step st).set_any (i := 3) (t := .raw (.ref x)) (o := some (.ref x)) rfl (fun z => nomatch z)
    refine sx_suiteR R hC B1 H2 _ _ E2 ⟨fun Γ σ' B' H' p r S' => ?_, fun _ _ _ z => z.elim, fun _ _ _ _ z => z.elim, fun _ _ _ _ z => z.elim⟩
    obtain ⟨y, rfl⟩ := p
    rw [hb] at S'
    exact hd.nx _ _ B' H' (k .no) ((st.rch E.oh).trans r) (S'.set_no (i := 3) (o := none))
theorem rd__law_refusal {CM CW CS : Addr} (R : RefTxt K CM CW CS) (a : WS) (h : wishOk a.1 = false ∨ stockOk a.2 = false) : Sx K H0 (t__law_refusal K (sp_least_tree K CW CS) CM CW CS) (ltArgs a ++ List.replicate (N__law_refusal.length - 2) .no) (poD K fun d => d = refD a) := by
  refine sx_seq (sx_newL (sx_seq ?_))
  refine sx_tryR R h fun x3 => ?_
  refine sx_retL rfl fun v B H hv => ⟨_, ?_, hv⟩
  unfold refD
  split <;> rfl
/-! _law_refused -/
abbrev lrArgs : List Tri × List (Int × Int) × Int → List Item := fun a => [.dat (wishD a.1), .dat (stockD a.2.1), .dat (.int a.2.2)]
abbrev sp__law_refused (K : PySem.W.Frag) : Sp := spD K lrArgs (fun a => WOk a.1 ∧ SOk a.2.1) (fun _ d => d = .bool true)
theorem ev_lstP {Γ : List Item} {ta : TA} {A : List Item → Prop} {R : PyData → Prop} (h : EvA K H0 ta Γ A) (w : ∀ ts, A ts → ∃ ds : List PyData, ts = ds.map .dat ∧ ds.length ≤ 100000 ∧ R (.list ds)) : EvP K H0 (tLst ta) Γ R := fun B H σ E Q q =>
  h B H σ E _ fun vs ts B1 H1 a s hs => by
    obtain ⟨ds, e, hl, r⟩ := w ts a
    subst e
    have hd := args_data hs
    refine ⟨Nat.le_trans (by rw [dpa_len hd]; exact hl) (by decide), fun p hp => ?_⟩
    have x := Stp.new (o := .lst vs) s.ob hp
    exact q _ _ _ _ r (s.trans x) (.lst (.inl (.inl upd_same)) (DpAll.up x.eb hd))
theorem ev_refusal {Γ : List Item} {t1 t2 : TE} {a : WS} (h : wishOk a.1 = false ∨ stockOk a.2 = false) (h1 : Ev K H0 t1 Γ (wishD a.1)) (h2 : Ev K H0 t2 Γ (stockD a.2)) : Ev K H0 (tCall (sp__law_refusal K) [] E0 (tCons t1 (tCons t2 tNil))) Γ (refD a) := ev_callD a (ea_cons h1 (ea_cons h2 ea_nil)) h fun d e => e
theorem shaped_ws (W : List Tri) (S : List (Int × Int)) : SeqAt.shaped (.list [wishD W, stockD S]) = true := by
  refine shaped_of (lay_list ?_) ?_
  · rw [PyData.canLayAll0, PyData.canLayAll0, PyData.canLayAll0, lay_list (canLayAll_map _ lay_T W), lay_list (canLayAll_map _ lay_P S)]; rfl
  · have h1 : (wishD W).depth ≤ 2 := dep_list (depthAll_map encT 1 (fun x => by rw [dep_T] <;> omega) W)
    have h2 : (stockD S).depth ≤ 2 := dep_list (depthAll_map encP 1 (fun x => by rw [dep_P] <;> omega) S)
    rw [PyData.depth, PyData.depthAll, PyData.depthAll, PyData.depthAll]
    omega
theorem flat_ws (W : List Tri) (S : List (Int × Int)) : flat (.list [wishD W, stockD S]) = true := by
  rw [flat, flatAll, flatAll, flatAll, flat, flat, flatAll_map _ flat_T, flatAll_map _ flat_P]; rfl
theorem shaped_s (x : Str) (h : PyData.canLay0 (.str x) = true) : SeqAt.shaped (.list [.str x]) = true := by
  refine shaped_of (lay_list ?_) ?_
  · rw [PyData.canLayAll0, PyData.canLayAll0, h]; rfl
  · simp [PyData.depth, PyData.depthAll]
theorem flat_s (x : Str) : flat (.list [.str x]) = true := by simp [flat, flatAll]
theorem lay_w : PyData.canLay0 (.str "wish") = true := by decide +kernel
theorem lay_s : PyData.canLay0 (.str "stock") = true := by decide +kernel
theorem rd__law_refused (a : List Tri × List (Int × Int) × Int) (h : WOk a.1 ∧ SOk a.2.1) : Sx K H0 (t__law_refused K (sp__law_bad_stock K) (sp__law_bad_wish K) (sp__law_refusal K)) (lrArgs a ++ List.replicate (N__law_refused.length - 3) .no) (poD K fun d => d = .bool true) := by
  obtain ⟨W, S, c⟩ := a
  obtain ⟨w, s⟩ := h
  have w : WOk W := w
  have s : SOk S := s
  show Sx K H0 _ ([.dat (wishD W), .dat (stockD S), .dat (.int c)] ++ _) _
  refine sx_seq (sx_asgP (P := fun d => ∃ W' S', d = .list [wishD W', stockD S'] ∧ wishOk W' = false ∧ stockOk S' = false) (ev_lstP (ea_consP (P := isBadW) (ev_callD (W, c % G60) (ea_cons (ev_var rfl) (ea_cons (ev_mod (ev_var rfl) ev_pow60 (by decide)) ea_nil)) w fun d e => e) (ea_consP (P := isBadS) (ev_callD (S, c % G60 / 7) (ea_cons (ev_var rfl) (ea_cons (ev_div (ev_mod (ev_var rfl) ev_pow60 (by decide)) ev_int (by decide) (by decide)) ea_nil)) s fun d e => e) ea_nil)) ?_) ?_)
  · rintro ts ⟨d1, r1, e1, ⟨W', f1, g1⟩, d2, r2, e2, ⟨S', f2, g2⟩, e3⟩
    exact ⟨[wishD W', stockD S'], by rw [e1, e2, e3, f1, f2]; rfl, len_ok rfl, W', S', rfl, g1, g2⟩
  · rintro d ⟨W', S', rfl, bw, bs⟩
    have b0 : ∀ {Γ : List Item}, Γ[3]? = some (.dat (.list [wishD W', stockD S'])) → Ev K H0 (tOp (rIxL K) (tVar 3) (tC (.int 0))) Γ (wishD W') := fun {Γ} h => ev_op (ev_var h) ev_int (rv_ixL rfl)
    have b1 : ∀ {Γ : List Item}, Γ[3]? = some (.dat (.list [wishD W', stockD S'])) → Ev K H0 (tOp (rIxL K) (tVar 3) (tC (.int 1))) Γ (stockD S') := fun {Γ} h => ev_op (ev_var h) ev_int (rv_ixL rfl)
    refine sx_seq (sx_asg (ev_lst (ds := [wishD W', stockD S']) (ea_cons (en_list (b0 rfl)).ev (ea_cons (en_list (b1 rfl)).ev ea_nil)) (len_ok rfl)) ?_)
    have rw1 : ∀ S2, refD (W', S2) = .list [.str "wish"] := fun S2 => if_pos bw
    have rs1 : refD (W, S') = .list [.str "stock"] := if_neg (by rw [wishOk_iff.mpr w]; decide)
    have t1 : ∀ {Γ : List Item} {u1 u2 : TE} {S2 : List (Int × Int)}, Ev K H0 u1 Γ (wishD W') → Ev K H0 u2 Γ (stockD S2) → EvT K H0 (tTest (tOp (rNeD K) (tCall (sp__law_refusal K) [] E0 (tCons u1 (tCons u2 tNil))) (tLst (tCons (tC (.str "wish")) tNil)))) Γ false := fun {Γ u1 u2 S2} h1 h2 =>
      (et_test (ev_op (Ev.is (ev_refusal (a := (W', S2)) (.inl bw) h1 h2) (rw1 S2)) (ev_lst (ds := [.str "wish"]) (ea_cons ev_str ea_nil) (len_ok rfl)) (rv_neD (shaped_s _ lay_w) (shaped_s _ lay_w)))).is (by rw [eqv_self _ (flat_s _)]; rfl)
    refine sx_seq (sx_if (b := false) (EvT.is (et_or (t1 (b0 rfl) (en_list (ev_var rfl)).ev) fun _ => t1 (b0 rfl) (b1 rfl)) rfl) (fun h => nomatch h) (fun _ => sx_next ?_))
    refine sx_retP (ev_andV (a := true) (b := true) (Ev.is (ev_op (Ev.is (ev_refusal (a := (W, S')) (.inr bs) (en_list (ev_var rfl)).ev (b1 rfl)) rs1) (ev_lst (ds := [.str "stock"]) (ea_cons ev_str ea_nil) (len_ok rfl)) (rv_eqD (shaped_s _ lay_s) (shaped_s _ lay_s))) (by rw [eqv_self _ (flat_s _)])) fun _ => Ev.is (ev_op (ev_var rfl) (ev_var rfl) (rv_eqD (shaped_ws _ _) (shaped_ws _ _))) (by rw [eqv_self _ (flat_ws _ _)])) (fun d e => e) rfl
end
end K58
set_option Elab.async false
set_option linter.all false
set_option maxRecDepth 100000
set_option maxHeartbeats 2000000
namespace K58
open PySem PySem.Spec PyProof.Rows L2
/-! ### trees as data -/
theorem lay_tr : ∀ t : Tree, PyData.canLay0 (encTr t) = true
  | .leaf n => by simp [encTr, PyData.canLay0]
  | .node o u v => by simp [encTr, PyData.canLay0, PyData.canLayAll0, lay_tr u, lay_tr v]
theorem depth_tr : ∀ t : Tree, (encTr t).depth ≤ dep t
  | .leaf n => by simp [encTr, PyData.depth]
  | .node o u v => by
    have h1 := depth_tr u
    have h2 := depth_tr v
    simp only [encTr, PyData.depth, PyData.depthAll, dep]
    omega
theorem flat_tr : ∀ t : Tree, flat (encTr t) = true
  | .leaf n => by simp [encTr, flat]
  | .node o u v => by simp [encTr, flat, flatAll, flat_tr u, flat_tr v]
theorem shaped_cut {t : Tree} {n : Int} (h : dep t ≤ 20) : SeqAt.shaped (.tuple [encTr t, .int n]) = true := by
  have := depth_tr t
  refine shaped_of (by simp [PyData.canLay0, PyData.canLayAll0, lay_tr]) ?_
  simp only [PyData.depth, PyData.depthAll]
  omega
theorem flat_cut {t : Tree} {n : Int} : flat (.tuple [encTr t, .int n]) = true := by simp [flat, flatAll, flat_tr]
theorem lay_ints (l : List Int) : PyData.canLay0 (intsD l) = true := lay_list (canLayAll_map _ (fun _ => by simp [PyData.canLay0]) l)
theorem depth_ints (l : List Int) : (intsD l).depth ≤ 2 := dep_list (depthAll_map _ 1 (fun x => by simp [PyData.depth]) l)
theorem shaped_rows (W : List Tri) (S : List (Int × Int)) : SeqAt.shaped (rowsD W S) = true :=
  shaped_of (lay_list (canLayAll_map (fun i => intsD (rowT W S i)) (fun i => lay_ints _) _)) (Nat.le_trans (dep_list (depthAll_map (fun i => intsD (rowT W S i)) 2 (fun i => depth_ints _) _)) (by decide))
theorem flat_rows (W : List Tri) (S : List (Int × Int)) : flat (rowsD W S) = true := by rw [flat]; exact flatAll_map (fun i => intsD (rowT W S i)) (fun i => flat_ints' _) _
theorem shaped_shut (a b : Int) : SeqAt.shaped (.tuple [.str "shut", encP (a, b)]) = true := by
  refine shaped_of ?_ (by simp [PyData.depth, PyData.depthAll, encP])
  have : PyData.canLay0 (.str "shut") = true := by decide +kernel
  simp [PyData.canLay0, PyData.canLayAll0, encP] at this ⊢
  exact this
theorem flat_shut (a b : Int) : flat (.tuple [.str "shut", encP (a, b)]) = true := by simp [flat, flatAll, encP]
section
variable {K : PySem.W.Frag} {H0 B H : Hp} {σ : L2.St} {Γ : List Item}
theorem rows_dpa {B : Hp} (f : Nat → List Int) : ∀ (rs : List Addr) (k : Nat), (∀ (i : Nat) x, rs[i]? = some x → B x = some (.lst ((f (k + i)).map V.int))) → DpAll K B (rs.map V.ref) ((List.range' k rs.length).map fun i => intsD (f i))
  | [], k, _ => .nil
  | x :: rs, k, h => .cons (.lst (.inl (.inl (h 0 x rfl))) (ints_dpa _)) (rows_dpa f rs (k + 1) fun i y e => by
      have := h (i + 1) y e
      rw [show k + 1 + i = k + (i + 1) by omega]
      exact this)
theorem rows_data {B : Hp} {W : List Tri} {S : List (Int × Int)} {r : Addr} {rs : List Addr} (hr : B r = some (.lst (rs.map V.ref))) (hl : rs.length = W.length) (h : ∀ (i : Nat) x, rs[i]? = some x → B x = some (.lst ((rowT W S i).map V.int))) : Dp K B (.ref r) (rowsD W S) := by
  refine .lst (.inl (.inl hr)) ?_
  rw [List.range_eq_range', ← hl]
  exact rows_dpa (fun i => rowT W S i) rs 0 fun i x e => by rw [Nat.zero_add]; exact h i x e
theorem ex_rows {B : Hp} : ∀ l : List Addr, (∀ x ∈ l, ∃ ns : List Int, B x = some (.lst (ns.map V.int))) → ∃ ds, DpAll K B (l.map V.ref) ds
  | [], _ => ⟨[], .nil⟩
  | x :: l, h => by
    obtain ⟨ns, hx⟩ := h x List.mem_cons_self
    obtain ⟨ds, hd⟩ := ex_rows l fun y hy => h y (List.mem_cons_of_mem _ hy)
    exact ⟨intsD ns :: ds, .cons (.lst (.inl (.inl hx)) (ints_dpa _)) hd⟩
/-! ### other bases for a situation -/
def Item.pl : Item → Bool
  | .no => true
  | .dat _ => true
  | .raw _ => true
  | _ => false
theorem Sit.re (E : Sit K H0 B H σ Γ) (hn : Γ.all Item.pl = true) {B' H' : Hp} (e : Same B B') (ob : Same B' H') : Sit K H' B' H' σ Γ := by
  have pl : ∀ (i : Nat) t, Γ[i]? = some t → t.pl = true := fun i t h => List.all_eq_true.mp hn t (List.mem_of_getElem? h)
  refine ⟨ob, Same.refl _, E.len, fun i t h => ?_, fun i j s t l h1 _ o1 => ?_⟩
  · obtain ⟨o, a, q⟩ := E.at_ i t h
    refine ⟨o, a, ?_⟩
    have p := pl i t h
    cases t with
    | no => trivial
    | dat d => obtain ⟨v, e', q'⟩ := q; exact ⟨v, e', Dp.up e q'⟩
    | raw v => exact q
    | lst _ => cases p
    | dk _ => cases p
    | dt _ => cases p
    | bt _ => cases p
  · have p := pl i s h1
    cases s <;> first | (cases o1; done) | (cases p; done)
theorem Sit.give (E : Sit K H0 B H σ Γ) {i : Nat} {v : V} {d : PyData} (h : σ[i]? = some (some v)) (hv : Dp K B v d) : Sit K H0 B H σ (Γ.set i (.dat d)) := by
  have e : σ.set i (some v) = σ := by
    apply List.ext_getElem?
    intro j
    rw [List.getElem?_set]
    by_cases q : i = j
    · subst q
      have hl : i < σ.length := (List.getElem?_eq_some_iff.mp h).1
      rw [if_pos rfl, if_pos hl, h]
    · rw [if_neg q]
  have := E.set_dat (i := i) hv
  rw [e] at this
  exact this
theorem if_no {tt : TT} {t u : TS} {D : Ends} (E : Sit K H0 B H σ Γ) (h : EvT K H0 tt Γ false) (k : ∀ B2 H2, Stp B H B2 H2 → u D σ H2) : tIfS tt t u D σ H := h B H σ E _ fun B2 H2 s => by
  show u D σ H2
  exact k B2 H2 s
abbrev poT (K : PySem.W.Frag) : Po := { rt := rtP K fun d => d = .bool true }
theorem hold_T {D : Ends} (hQ : ∀ H', D.rt (.bl true) H') : Hold K H0 B (poT K) D :=
  ⟨fun _ _ _ _ z => z.elim, fun v B' H' ⟨d, e, hv⟩ _ _ _ => by subst e; rw [dp_bl hv]; exact hQ H', fun _ _ _ _ z => z.elim, fun _ _ _ _ z => z.elim⟩
/-! ### law -/
abbrev tHand : TA := tCons (tOp (rIxL K) (tVar 3) (tC (.int 0))) (tCons (tOp (rIxL K) (tVar 3) (tC (.int 1))) tNil)
theorem ev_at0 {n : Nat} {ns : List Int} (h : Γ[0]? = some (.dat (intsD ns))) : EvP K H0 (tCall (sp__law_cell_at K) [] E0 (tCons (tVar 0) (tCons (tC (.int (n : Nat))) tNil))) Γ isInt := ev_callD (ns, n) (ea_cons (ev_var h) (ea_cons ev_int ea_nil)) trivial fun d e => e
theorem ev_refused {ns : List Int} {W : List Tri} {S : List (Int × Int)} (w : WOk W) (s : SOk S) (h0 : Γ[0]? = some (.dat (intsD ns))) (h1 : Γ[1]? = some (.dat (wishD W))) (h2 : Γ[2]? = some (.dat (stockD S))) :
    Ev K H0 (tCall (sp__law_refused K) [] E0 (tCons (tVar 1) (tCons (tVar 2) (tCons (tCall (sp__law_cell_at K) [] E0 (tCons (tVar 0) (tCons (tC (.int 2)) tNil))) tNil)))) Γ (.bool true) :=
  ev_callA (ea_consP (P := fun d => d = wishD W) (ev_var h1) (ea_consP (P := fun d => d = stockD S) (ev_var h2) (ea_consP (P := isInt) (ev_at0 (n := 2) h0) ea_nil))) fun ts ⟨d1, r1, e1, p1, d2, r2, e2, p2, d3, r3, e3, ⟨z, p3⟩, e4⟩ => ⟨(W, S, z), by rw [e1, e2, e3, e4, p1, p2, p3], ⟨w, s⟩, fun d e => e⟩
theorem et_same {W : List Tri} {S : List (Int × Int)} {d : PyData} (h1 : Γ[1]? = some (.dat (wishD W))) (h2 : Γ[2]? = some (.dat (stockD S))) (h3 : Γ[3]? = some (.dat (.list [wishD W, stockD S]))) (h4 : Γ[4]? = some (.dat d)) (hd : kitB (tyName d) "tuple" = some true) :
    EvT K H0 (tOr (tNot (tB (tCB (rIsi K) (tCons (tVar 4) (tCons (tC (.ty "tuple")) tNil))))) (tTest (tOp (rNeD K) (tVar 3) (tLst (tCons (tVar 1) (tCons (tVar 2) tNil)))))) Γ false :=
  (et_or (et_not (et_B (ev_isi (ev_var h4) hd))) fun _ => et_test (ev_op (ev_var h3) (ev_lst (ds := [wishD W, stockD S]) (ea_cons (ev_var h1) (ea_cons (ev_var h2) ea_nil)) (len_ok rfl)) (rv_neD (shaped_ws _ _) (shaped_ws _ _)))).is (by rw [eqv_self _ (flat_ws _ _)]; rfl)
def tEnd (K : PySem.W.Frag) : TS :=
  tSeq (tIfS (tOr (tTest (tOp (rNeD K) (tSl (rSlT K) (tVar 7) (tPart (tC (.int 1))) (tPart (tC (.int 3)))) (tSl (rSlT K) (tVar 4) (tPart (tC (.int 1))) (tPart (tC (.int 3)))))) (tTest (tOp (rNeD K) (tOp (rIxT K) (tVar 7) (tC (.int 3))) (tVar 6)))) (tRet (tC (.bl false))) tNext)
    (tRet (tCall (sp__law_refused K) [] E0 (tCons (tVar 1) (tCons (tVar 2) (tCons (tCall (sp__law_cell_at K) [] E0 (tCons (tVar 0) (tCons (tC (.int 2)) tNil))) tNil)))))
theorem sx_end {ns : List Int} {W : List Tri} {S : List (Int × Int)} (g : Good W S) {x3 x5 x8 : Item} {Y : PyData} : Sx K H0 (tEnd K) [.dat (intsD ns), .dat (wishD W), .dat (stockD S), x3, .dat (.tuple [.str "tree", encTr (treeT W S 0 (W.length - 1)), .int (tn W S 0 (W.length - 1)), Y]), x5, .dat (rowsD W S), .dat (foundD W S), x8] (poT K) := by
  have hn := g.w.l2
  have hn1 := g.w.l1
  obtain ⟨ct, _⟩ := treeT_cutT g (W.length - 1 - 0 + 1) 0 (W.length - 1) (by omega) (by omega) (by omega)
  obtain ⟨_, tdep⟩ := ct.ok g.w (by omega) (by omega)
  have hd : dep (treeT W S 0 (W.length - 1)) ≤ 20 := by omega
  have cutE : ∀ {i : Nat} {Γ : List Item} {Y : PyData}, Γ[i]? = some (.dat (.tuple [.str "tree", encTr (treeT W S 0 (W.length - 1)), .int (tn W S 0 (W.length - 1)), Y])) → Ev K H0 (tSl (rSlT K) (tVar i) (tPart (tC (.int 1))) (tPart (tC (.int 3)))) Γ (.tuple [encTr (treeT W S 0 (W.length - 1)), .int (tn W S 0 (W.length - 1))]) := fun {i Γ Y} h =>
    (ev_sliceT (lo := some 1) (hi := some 3) (ev_var h) (eo_some ev_int) (eo_some ev_int) (by show ¬ (HT.sIx 4 0 (some 1) = 0 ∧ HT.sIx 4 4 (some 3) = 4); decide)).is rfl
  refine sx_seq (sx_if (b := false) (EvT.is (et_or (et_test (ev_op (cutE rfl) (cutE rfl) (rv_neD (shaped_cut hd) (shaped_cut hd)))) fun _ => et_test (ev_op (ev_op (ev_var (d := foundD W S) rfl) ev_int (rv_ixT (d := rowsD W S) rfl)) (ev_var rfl) (rv_neD (shaped_rows W S) (shaped_rows W S)))) (by rw [eqv_self _ flat_cut, eqv_self _ (flat_rows W S)]; rfl)) (fun h => nomatch h) (fun _ => sx_next ?_))
  exact sx_retP (ev_refused g.w g.s rfl rfl rfl) (fun d e => e) rfl
def tAgain (K : PySem.W.Frag) (sp : Sp) : TS := tSeq (tAsg (tCall sp [] E0 (tCons (tOp (rIxL K) (tVar 3) (tC (.int 0))) (tCons (tOp (rIxL K) (tVar 3) (tC (.int 1))) tNil))) (gName 7)) (tEnd K)
def tMut (K : PySem.W.Frag) (sp : Sp) : TS :=
  tSeq (tDrop (tBM K "list" rAppend (tOp (rIxL K) (tOp (rIxT K) (tVar 4) (tC (.int 3))) (tC (.int 0))) (tCons (tC (.int 1)) tNil)))
    (tSeq (tDrop (tBM K "list" rAppend (tOp (rIxT K) (tVar 4) (tC (.int 3))) (tCons (tLst tNil) tNil))) (tAgain K sp))
def tKept (K : PySem.W.Frag) (sp : Sp) : TS := tSeq (tAsg (tLc (iList K (tOp (rIxT K) (tVar 4) (tC (.int 3)))) (gName 8) tYes (tCB (rListQ K) (tCons (tVar 8) tNil)) [8]) (gName 6)) (tMut K sp)
def tMid (K : PySem.W.Frag) (sp : Sp) : TS :=
  (tSeq (tAsg (tCall (sp__law_shut K) [] E0 (tCons (tVar 1) (tCons (tVar 2) tNil))) (gName 5))
      (tSeq (tIfS (tOr (tNot (tB (tCB (rIsi K) (tCons (tVar 4) (tCons (tC (.ty "tuple")) tNil))))) (tTest (tOp (rNeD K) (tVar 3) (tLst (tCons (tVar 1) (tCons (tVar 2) tNil)))))) (tRet (tC (.bl false))) tNext)
      (tSeq (tIfS (tTest (tOp rNotN (tVar 5) (tC .non))) (tRet (tAndV (tOp (rEqD K) (tVar 4) (tTup (tCons (tC (.str "shut")) (tCons (tVar 5) tNil)))) (tCall (sp__law_refused K) [] E0 (tCons (tVar 1) (tCons (tVar 2) (tCons (tCall (sp__law_cell_at K) [] E0 (tCons (tVar 0) (tCons (tC (.int 2)) tNil))) tNil)))))) tNext)
      (tSeq (tIfS (tNot (tB (tCall (sp__law_holds K) [] E0 (tCons (tVar 4) (tCons (tVar 1) (tCons (tVar 2) (tCons (tOp (rI (fun _ j => 0 < j) fun i j => .int (i % j)) (tCall (sp__law_cell_at K) [] E0 (tCons (tVar 0) (tCons (tC (.int 1)) tNil))) (tOp (rI CPow fun i j => .int (i ^ j.toNat)) (tC (.int 10)) (tC (.int 60)))) tNil))))))) (tRet (tC (.bl false))) tNext)
      (tKept K sp)))))
theorem sx_shut {sp : Sp} {ns : List Int} {W : List Tri} {S : List (Int × Int)} {i : Nat} (w : WOk W) (s : SOk S) (o : firstShut W S = some i) {x5 x6 x7 x8 : Item} : Sx K H0 (tMid K sp) [.dat (intsD ns), .dat (wishD W), .dat (stockD S), .dat (.list [wishD W, stockD S]), .dat (.tuple [.str "shut", encP (siz W i, siz W (i + 1))]), x5, x6, x7, x8] (poT K) := by
  have hn := w.l2
  have hs := s.l2
  have bnd : (W, S).1.length ≤ 1000 ∧ (W, S).2.length ≤ 1000 := ⟨by show W.length ≤ 1000; omega, by show S.length ≤ 1000; omega⟩
  have e1 : shutD W S = encP (siz W i, siz W (i + 1)) := by unfold shutD; rw [o]
  refine sx_seq (sx_asg (d := encP (siz W i, siz W (i + 1))) (ev_callD (W, S) (ea_cons (ev_var rfl) (ea_cons (ev_var rfl) ea_nil)) bnd fun d e => e.trans e1) ?_)
  refine sx_seq (sx_if (b := false) (et_same rfl rfl rfl rfl (by decide +kernel : kitB "tuple" "tuple" = some true)) (fun h => nomatch h) (fun _ => sx_next ?_))
  refine sx_seq (sx_if (b := true) (et_test (ev_op (ev_var rfl) ev_non (rv_isNot fun B x h => non_tup h))) (fun _ => ?_) (fun h => nomatch h))
  refine sx_retP (ev_andV (a := true) (b := true) (Ev.is (ev_op (ev_var rfl) (ev_tup (ds := [.str "shut", encP (siz W i, siz W (i + 1))]) (ea_cons ev_str (ea_cons (ev_var rfl) ea_nil)) (len_ok rfl)) (rv_eqD (shaped_shut _ _) (shaped_shut _ _))) (by rw [eqv_self _ (flat_shut _ _)])) fun _ => ev_refused w s rfl rfl rfl) (fun d e => e) rfl
end
end K58
set_option Elab.async false
set_option linter.all false
set_option maxRecDepth 100000
set_option maxHeartbeats 2000000
namespace K58
open PySem PySem.Spec PyProof.Rows L2
section
variable {K : PySem.W.Frag} {H0 B H : Hp} {σ : L2.St} {Γ : List Item}
abbrev gam (ns : List Int) (W : List Tri) (S : List (Int × Int)) (x4 x5 x6 x7 : Item) : List Item := [.dat (intsD ns), .dat (wishD W), .dat (stockD S), .dat (.list [wishD W, stockD S]), x4, x5, x6, x7, .no]
theorem raw_at (E : Sit K H0 B H σ Γ) {i : Nat} {v : V} (h : Γ[i]? = some (.raw v)) : σ[i]? = some (some v) := by
  obtain ⟨o, a, q⟩ := E.at_ i _ h
  have q : o = some v := q
  rw [a, q]
theorem ea_hand {ns : List Int} {W : List Tri} {S : List (Int × Int)} {x4 x5 x6 x7 : Item} : EvA K H0 (tCons (tOp (rIxL K) (tVar 3) (tC (.int 0))) (tCons (tOp (rIxL K) (tVar 3) (tC (.int 1))) tNil)) (gam ns W S x4 x5 x6 x7) (fun ts => ts = ltArgs (W, S)) :=
  ea_cons (ev_op (ev_var (d := .list [wishD W, stockD S]) rfl) ev_int (rv_ixL rfl)) (ea_cons (ev_op (ev_var (d := .list [wishD W, stockD S]) rfl) ev_int (rv_ixL rfl)) ea_nil)
/-- what a tree's answer gives, as data -/
theorem found_data {W : List Tri} {S : List (Int × Int)} {H1 : Hp} {v : V} {B2 H2 : Hp} (h : ltTree W S K H1 v B2 H2) (ob : Same B2 H2) : Dp K H2 v (foundD W S) := by
  obtain ⟨p, tv, r, rs, rfl, _, _, hp, htv, _, _, hr, hl, hrs⟩ := h
  exact .tup (.inl (.inl hp)) (.cons (.str _) (.cons (Dp.up ob htv) (.cons (.int _) (.cons (rows_data hr hl fun i x e => (hrs i x e).2.2.2) .nil))))
theorem law_again {CW CS p D' : Addr} {D : Ends} {ns : List Int} {W : List Tri} {S : List (Int × Int)} (g : Good W S) (hQ : ∀ H', D.rt (.bl true) H') (E : Sit K H B H σ (gam ns W S (.raw (.ref p)) .no (.raw (.ref D')) .no)) {Y : PyData}
    (fd : Dp K H (.ref p) (.tuple [.str "tree", encTr (treeT W S 0 (W.length - 1)), .int (tn W S 0 (W.length - 1)), Y])) (kd : Dp K H (.ref D') (rowsD W S)) : tAgain K (sp_least_tree K CW CS) D σ H := by
  refine seq_u (asg_u ?_)
  refine ea_hand B H σ E _ fun vs ts B1 H1 e s1 hs => ?_
  subst e
  rw [List.append_nil]
  refine ⟨(W, S), B1, s1.ob, hs, trivial, fun v B2 H2 q s2 => ?_, fun C H2 hx _ => ?_⟩
  · obtain ⟨_, _, q⟩ := q
    have o' : firstShut (W, S).1 (W, S).2 = none := g.o
    rw [o'] at q
    have q : ltTree W S K H1 v B2 H2 := q
    have sH : Same H H2 := s1.eh.trans s2.eh
    have E2 : Sit K H2 H2 H2 (σ.set 7 (some v)) (gam ns W S (.raw (.ref p)) .no (.raw (.ref D')) (.dat (foundD W S))) := (E.re (B' := H2) (H' := H2) rfl (E.ob.trans sH) (Same.refl _)).set_dat (i := 7) (found_data q s2.ob)
    have E3 := (E2.give (i := 4) (raw_at E2 rfl) (Dp.up sH fd)).give (i := 6) (d := rowsD W S) (raw_at E2 rfl) (Dp.up sH kd)
    exact sx_end g H2 H2 _ D E3 (hold_T hQ)
  · rcases hx with ⟨a, _⟩ | ⟨_, a, _⟩
    · rw [show (W, S).1 = W from rfl, wishOk_iff.mpr g.w] at a; cases a
    · rw [show (W, S).2 = S from rfl, stockOk_iff.mpr g.s] at a; cases a
theorem law_mut {CW CS p r r0 D' : Addr} {rs rs' : List Addr} {tv : V} {D : Ends} {ns : List Int} {W : List Tri} {S : List (Int × Int)} (g : Good W S) (hQ : ∀ H', D.rt (.bl true) H') (E : Sit K H0 B H σ (gam ns W S (.raw (.ref p)) .no (.raw (.ref D')) .no))
    (hp : H p = some (.tup [.str "tree", tv, .int (tn W S 0 (W.length - 1)), .ref r])) (htv : Dp K B tv (encTr (treeT W S 0 (W.length - 1)))) (br : B r = none) (hr : H r = some (.lst ((r0 :: rs).map V.ref))) (hl : (r0 :: rs).length = W.length)
    (hrs : ∀ (i : Nat) x, (r0 :: rs)[i]? = some x → B x = none ∧ x ≠ r ∧ H x = some (.lst ((rowT W S i).map V.int)))
    (hk : H D' = some (.lst (rs'.map V.ref))) (kl : rs'.length = W.length) (kr : D' ≠ r) (k0 : D' ≠ r0)
    (hks : ∀ (i : Nat) x, rs'[i]? = some x → x ≠ r ∧ x ≠ r0 ∧ H x = some (.lst ((rowT W S i).map V.int))) : tMut K (sp_least_tree K CW CS) D σ H := by
  obtain ⟨b0, n0, h0⟩ := hrs 0 r0 rfl
  have n2 := g.w.l2
  have e4 : σ[4]? = some (some (.ref p)) := raw_at E rfl
  have p0 : p ≠ r0 := fun e => by rw [e, h0] at hp; cases hp
  have pr : p ≠ r := fun e => by rw [e, hr] at hp; cases hp
  have ln : ((rowT W S 0).map V.int).length < sizeLine := Nat.lt_of_lt_of_le (by unfold rowT; rw [List.length_map, List.length_map, List.length_range]; omega : _ < 100000) (by decide)
  refine seq_u ?_
  refine ⟨_, e4, p, _, 3, .ref r, rfl, rfl, .inl (.inl hp), rfl, r, _, 0, .ref r0, rfl, rfl, .inl (.inl hr), atI_nat (j := 0) rfl, .inl ⟨rfl, _, .inl (.inl h0)⟩, r0, _, .int 1, rfl, rfl, h0, ln, ?_⟩
  have hp7 : upd H r0 (.lst ((rowT W S 0).map V.int ++ [.int 1])) p = some (.tup [.str "tree", tv, .int (tn W S 0 (W.length - 1)), .ref r]) := by rw [upd_ne p0]; exact hp
  have hr7 : upd H r0 (.lst ((rowT W S 0).map V.int ++ [.int 1])) r = some (.lst ((r0 :: rs).map V.ref)) := by rw [upd_ne (Ne.symm n0)]; exact hr
  refine seq_u ?_
  refine ⟨_, e4, p, _, 3, .ref r, rfl, rfl, .inl (.inl hp7), rfl, .inl ⟨rfl, _, .inl (.inl hr7)⟩, by decide, fun q hq => ?_⟩
  have qr : r ≠ q := ne_of_none hr7 hq
  have qp : p ≠ q := ne_of_none hp7 hq
  have q0 : r0 ≠ q := fun e => by rw [← e, upd_same] at hq; cases hq
  refine ⟨r, _, .ref q, rfl, rfl, by rw [upd_ne qr]; exact hr7, Nat.lt_of_lt_of_le (by rw [List.length_map, hl]; omega : _ < 100000) (by decide), ?_⟩
  have far : ∀ x u, H x = some u → x ≠ r → x ≠ r0 → upd (upd (upd H r0 (.lst ((rowT W S 0).map V.int ++ [.int 1]))) q (.lst [])) r (.lst ((r0 :: rs).map V.ref ++ [.ref q])) x = some u := fun x u hx h1 h2 => by
    have h7 : upd H r0 (.lst ((rowT W S 0).map V.int ++ [.int 1])) x = some u := by rw [upd_ne h2]; exact hx
    rw [upd_ne h1, upd_ne (ne_of_none h7 hq)]
    exact h7
  have at0 : upd (upd (upd H r0 (.lst ((rowT W S 0).map V.int ++ [.int 1]))) q (.lst [])) r (.lst ((r0 :: rs).map V.ref ++ [.ref q])) r0 = some (.lst ((rowT W S 0).map V.int ++ [.int 1])) := by rw [upd_ne n0, upd_ne q0, upd_same]
  have atq : upd (upd (upd H r0 (.lst ((rowT W S 0).map V.int ++ [.int 1]))) q (.lst [])) r (.lst ((r0 :: rs).map V.ref ++ [.ref q])) q = some (.lst []) := by rw [upd_ne (Ne.symm qr), upd_same]
  have atr : upd (upd (upd H r0 (.lst ((rowT W S 0).map V.int ++ [.int 1]))) q (.lst [])) r (.lst ((r0 :: rs).map V.ref ++ [.ref q])) r = some (.lst ((r0 :: rs).map V.ref ++ [.ref q])) := upd_same
  generalize upd (upd (upd H r0 (.lst ((rowT W S 0).map V.int ++ [.int 1]))) q (.lst [])) r (.lst ((r0 :: rs).map V.ref ++ [.ref q])) = H8 at far at0 atq atr ⊢
  have ob8 : Same B H8 := fun a u ha => far a u (E.ob a u ha) (fun e => by rw [e, br] at ha; cases ha) (fun e => by rw [e, b0] at ha; cases ha)
  have E8 : Sit K H8 B H8 σ (gam ns W S (.raw (.ref p)) .no (.raw (.ref D')) .no) := E.re rfl (Same.refl _) ob8
  obtain ⟨ds, hds⟩ := ex_rows (K := K) (B := H8) ((r0 :: rs) ++ [q]) fun x hx => by
    rcases List.mem_append.mp hx with hx | hx
    · obtain ⟨i, hi, e⟩ := List.getElem_of_mem hx
      have := hrs i x (by rw [List.getElem?_eq_getElem hi, e])
      by_cases z : x = r0
      · exact ⟨rowT W S 0 ++ [1], by rw [z, at0, List.map_append]; rfl⟩
      · exact ⟨rowT W S i, far x _ this.2.2 this.2.1 z⟩
    · exact ⟨[], by rw [List.mem_singleton.mp hx]; exact atq⟩
  have yd : Dp K H8 (.ref r) (.list ds) := .lst (.inl (.inl (by rw [atr]))) (by rw [List.map_append] at hds; exact hds)
  have fd : Dp K H8 (.ref p) (.tuple [.str "tree", encTr (treeT W S 0 (W.length - 1)), .int (tn W S 0 (W.length - 1)), .list ds]) :=
    .tup (.inl (.inl (far p _ hp pr p0))) (.cons (.str _) (.cons (Dp.up ob8 htv) (.cons (.int _) (.cons yd .nil))))
  have kd : Dp K H8 (.ref D') (rowsD W S) := rows_data (far D' _ hk kr k0) kl fun i x e => far x _ (hks i x e).2.2 (hks i x e).1 (hks i x e).2.1
  exact law_again g hQ E8 fd kd
theorem law_kept {CW CS p r r0 : Addr} {rs : List Addr} {tv : V} {D : Ends} {ns : List Int} {W : List Tri} {S : List (Int × Int)} (g : Good W S) (hQ : ∀ H', D.rt (.bl true) H') (E : Sit K H0 B H σ (gam ns W S (.raw (.ref p)) .no .no .no))
    (hp : H p = some (.tup [.str "tree", tv, .int (tn W S 0 (W.length - 1)), .ref r])) (htv : Dp K B tv (encTr (treeT W S 0 (W.length - 1)))) (br : B r = none) (hr : H r = some (.lst ((r0 :: rs).map V.ref))) (hl : (r0 :: rs).length = W.length)
    (hrs : ∀ (i : Nat) x, (r0 :: rs)[i]? = some x → B x = none ∧ x ≠ r ∧ H x = some (.lst ((rowT W S i).map V.int))) : tKept K (sp_least_tree K CW CS) D σ H := by
  have n2 := g.w.l2
  have e4 : σ[4]? = some (some (.ref p)) := raw_at E rfl
  have len : σ.length = 9 := E.len
  refine seq_u (asg_u ?_)
  refine lc_fresh W.length (rowT W S) (fun i => .ref ((r0 :: rs).getD i 0)) (List.mem_singleton_self 8) (by omega) (fun R q => ?_) (fun i hi H' s' Q q => ?_) fun D' rs' H6 s6 nD hD hlD hrD => ?_
  · refine ⟨_, e4, p, _, 3, .ref r, rfl, rfl, .inl (.inl hp), rfl, r, rfl, ⟨_, .inl (.inl hr)⟩, q _ H (Same.refl _) fun H3 e3 i => ?_⟩
    have sq : SqL K H3 r ((r0 :: rs).map V.ref) := .inl (.inl (e3 _ _ hr))
    refine ⟨fun hi => ?_, fun hi => ?_, fun x H4 hi y => ?_⟩
    · have hi' : i < ((r0 :: rs).map V.ref).length := by rw [List.length_map, hl]; exact hi
      exact ⟨_, _, sq, List.getElem?_eq_getElem hi'⟩
    · exact ⟨_, sq, by rw [List.length_map, hl]; exact hi⟩
    · refine ⟨y.1, ?_⟩
      have e := y.2 _ sq
      have hi' : i < (r0 :: rs).length := by rw [hl]; exact hi
      rw [List.getElem?_map, List.getElem?_eq_getElem hi'] at e
      have e := Option.some.inj e
      rw [← e, List.getD_eq_getElem?_getD, List.getElem?_eq_getElem hi'] <;> rfl
  · have hi' : i < (r0 :: rs).length := by rw [hl]; exact hi
    have ex : (r0 :: rs)[i]? = some ((r0 :: rs).getD i 0) := by rw [List.getD_eq_getElem?_getD, List.getElem?_eq_getElem hi'] <;> rfl
    have hx := s' _ _ (hrs i _ ex).2.2
    exact ⟨_, set_at (by rw [wipe_length, len]; decide), _, _, rfl, .inl (.inl (.inl hx)), fun l hn => q l _ (same_new hn) hn upd_same⟩
  · have E6 : Sit K H0 B H6 (σ.set 6 (some (.ref D'))) (gam ns W S (.raw (.ref p)) .no (.raw (.ref D')) .no) := (E.step (Stp.side E.ob s6)).set_any (i := 6) (t := .raw (.ref D')) (o := some (.ref D')) rfl (fun z => nomatch z)
    have ne_r : ∀ x, H x = none → x ≠ r := fun x hx e => by rw [e, hr] at hx; cases hx
    have h00 := (hrs 0 r0 rfl).2.2
    have ne_0 : ∀ x, H x = none → x ≠ r0 := fun x hx e => by rw [e, h00] at hx; cases hx
    exact law_mut g hQ E6 (s6 _ _ hp) htv br (s6 _ _ hr) hl (fun i x e => ⟨(hrs i x e).1, (hrs i x e).2.1, s6 _ _ (hrs i x e).2.2⟩) hD hlD (ne_r _ nD) (ne_0 _ nD) fun i x e => ⟨ne_r _ (hrD i x e).1, ne_0 _ (hrD i x e).1, (hrD i x e).2.2⟩
theorem law_mid {CW CS : Addr} {v : V} {H1 B2 H2 : Hp} {D : Ends} {ns : List Int} {W : List Tri} {S : List (Int × Int)} (g : Good W S) (hQ : ∀ H', D.rt (.bl true) H') (E : Sit K H0 B2 H2 σ (gam ns W S (.raw v) .no .no .no)) (h : ltTree W S K H1 v B2 H2) : tMid K (sp_least_tree K CW CS) D σ H2 := by
  have fd := found_data h E.ob
  obtain ⟨p, tv, r, rs, rfl, _, _, hp, htv, _, br, hr, hl, hrs⟩ := h
  have hn := g.w.l2
  have hn1 := g.w.l1
  have hs := g.s.l2
  have bnd : (W, S).1.length ≤ 1000 ∧ (W, S).2.length ≤ 1000 := ⟨by show W.length ≤ 1000; omega, by show S.length ≤ 1000; omega⟩
  obtain ⟨r0, rs, rfl⟩ : ∃ r0 rs', rs = r0 :: rs' := by
    cases rs with
    | nil => rw [List.length_nil] at hl; omega
    | cons a l => exact ⟨a, l, rfl⟩
  have e1 : shutD W S = .none := by unfold shutD; rw [g.o]
  have full : ∀ H', Same H2 H' → Sit K H' H' H' (σ.set 5 (some .non)) (gam ns W S (.dat (foundD W S)) (.dat .none) .no .no) := fun H' s => by
    have a := E.re (B' := H') (H' := H') rfl (E.ob.trans s) (Same.refl _)
    exact (a.give (i := 4) (raw_at a rfl) (Dp.up s fd)).set_dat (i := 5) .non
  have full0 : Sit K H2 H2 H2 σ (gam ns W S (.dat (foundD W S)) .no .no .no) := by
    have a := E.re (B' := H2) (H' := H2) rfl E.ob (Same.refl _)
    exact a.give (i := 4) (raw_at a rfl) fd
  refine seq_u (asg_u ?_)
  have es : Ev K H2 (tCall (sp__law_shut K) [] E0 (tCons (tVar 1) (tCons (tVar 2) tNil))) (gam ns W S (.dat (foundD W S)) .no .no .no) .none := ev_callD (W, S) (ea_cons (ev_var rfl) (ea_cons (ev_var rfl) ea_nil)) bnd fun d e => e.trans e1
  refine es H2 H2 σ full0 _ fun x d B3 H3 e s3 hx => ?_
  subst e
  have hx := dp_non hx
  subst hx
  refine seq_u ?_
  refine if_no (full H3 s3.eh) (et_same rfl rfl rfl rfl (by decide +kernel : kitB "tuple" "tuple" = some true)) fun B4 H4 s4 => ?_
  have sm4 := s3.eh.trans s4.eh
  refine seq_u ?_
  refine if_no (full H4 sm4) (et_test (ev_op (ev_var rfl) ev_non (rv_isNot fun B x h => non_non h))) fun B5 H5 s5 => ?_
  have sm5 := sm4.trans s5.eh
  refine seq_u ?_
  refine if_no (full H5 sm5) (et_not (et_B (b := true) (ev_callA (ea_consP (P := fun d => d = foundD W S) (ev_var rfl) (ea_consP (P := fun d => d = wishD W) (ev_var rfl) (ea_consP (P := fun d => d = stockD S) (ev_var rfl) (ea_consP (P := fun d => ∃ z : Int, d = .int z ∧ 0 ≤ z ∧ z ≤ G60) (ev_bin (P := isInt) (R := fun d => d = .int G60) (ev_at0 (n := 1) rfl) ev_pow60 fun dx dy ⟨z, ex⟩ ey => ?_) ea_nil)))) fun ts ⟨d1, r1, e1, p1, d2, r2, e2, p2, d3, r3, e3, p3, d4, r4, e4, ⟨z, p4, z0, z1⟩, e5⟩ => ⟨⟨W, S, z⟩, by rw [e1, e2, e3, e4, e5, p1, p2, p3, p4], ⟨g, z0, z1⟩, fun d e => e⟩))) fun B6 H6 s6 => ?_
  · subst ex ey
    intro B H x y o hx hy Q q
    exact rv_CI (C := fun _ j => 0 < j) (g := fun i j => i % j) (by decide) B H x y o hx hy Q fun v d B2 H2 e => q v d B2 H2 ⟨_, e, Int.emod_nonneg _ (by decide), Int.le_of_lt (Int.emod_lt_of_pos _ (by decide))⟩
  have sm6 := sm5.trans s6.eh
  have E6 : Sit K H6 B2 H6 (σ.set 5 (some .non)) (gam ns W S (.raw (.ref p)) .no .no .no) := (E.re (B' := B2) (H' := H6) rfl (Same.refl _) (E.ob.trans sm6)).set_no (i := 5) (o := some .non)
  exact law_kept g hQ E6 (sm6 _ _ hp) htv br (sm6 _ _ hr) hl fun i x e => ⟨(hrs i x e).2.1, (hrs i x e).2.2.1, sm6 _ _ (hrs i x e).2.2.2⟩
def tFound (K : PySem.W.Frag) (sp : Sp) : TS := tSeq (tAsg (tCall sp [] E0 (tCons (tOp (rIxL K) (tVar 3) (tC (.int 0))) (tCons (tOp (rIxL K) (tVar 3) (tC (.int 1))) tNil))) (gName 4)) (tMid K sp)
theorem law_found {CW CS : Addr} {D : Ends} {ns : List Int} {W : List Tri} {S : List (Int × Int)} (w : WOk W) (s : SOk S) (hQ : ∀ H', D.rt (.bl true) H') (E : Sit K H0 B H σ (gam ns W S .no .no .no .no)) : tFound K (sp_least_tree K CW CS) D σ H := by
  refine seq_u (asg_u ?_)
  refine ea_hand B H σ E _ fun vs ts B1 H1 e s1 hs => ?_
  subst e
  rw [List.append_nil]
  refine ⟨(W, S), B1, s1.ob, hs, trivial, fun v B2 H2 q s2 => ?_, fun C H2 hx _ => ?_⟩
  · obtain ⟨_, _, q⟩ := q
    have E2 := E.step (s1.trans s2)
    cases o : firstShut W S with
    | some i =>
      have o' : firstShut (W, S).1 (W, S).2 = some i := o
      rw [o'] at q
      exact sx_shut w s o B2 H2 _ D (E2.set_dat (i := 4) q) (hold_T hQ)
    | none =>
      have o' : firstShut (W, S).1 (W, S).2 = none := o
      rw [o'] at q
      have q : ltTree W S K H1 v B2 H2 := q
      have E3 : Sit K H0 B2 H2 (σ.set 4 (some v)) (gam ns W S (.raw v) .no .no .no) := E2.set_any (i := 4) (t := .raw v) (o := some v) rfl (fun z => nomatch z)
      exact law_mid ⟨w, s, o⟩ hQ E3 q
  · rcases hx with ⟨a, _⟩ | ⟨_, a, _⟩
    · rw [show (W, S).1 = W from rfl, wishOk_iff.mpr w] at a; cases a
    · rw [show (W, S).2 = S from rfl, stockOk_iff.mpr s] at a; cases a
def tTop (K : PySem.W.Frag) : TS :=
  (tSeq (tAsg (tCall (sp__law_wish K) [] E0 (tCons (tStepL K (tVar 0) (tPart (tC (.int 3)))) (tCons (tOp (rI0 fun i j => .int (i + j)) (tC (.int 2)) (tOp (rI (fun _ j => 0 < j) fun i j => .int (i % j)) (tCall (sp__law_cell_at K) [] E0 (tCons (tVar 0) (tCons (tC (.int 0)) tNil))) (tC (.int 5)))) tNil))) (gName 1))
      (tSeq (tAsg (tCall (sp__law_stock K) [] E0 (tCons (tStepL K (tVar 0) (tPart (tC (.int 4)))) (tCons (tVar 1) (tCons (tOp (rI0 fun i j => .bl (decide (j < i))) (tOp (rI (fun _ j => 0 < j) fun i j => .int (i % j)) (tOp (rI CDivW fun i j => .int (i / j)) (tCall (sp__law_cell_at K) [] E0 (tCons (tVar 0) (tCons (tC (.int 0)) tNil))) (tC (.int 5))) (tC (.int 4))) (tC (.int 0))) tNil)))) (gName 2))
      (tAsg (tLst (tCons (tCB (rListQ K) (tCons (tVar 1) tNil)) (tCons (tCB (rListQ K) (tCons (tVar 2) tNil)) tNil))) (gName 3))))
theorem sx_top {ns : List Int} (hl : ns.length ≤ 63) : Sx K H0 (tTop K) ([.dat (intsD ns)] ++ List.replicate (N_law.length - 1) .no) { nx := fun Γ => ∃ W S, WOk W ∧ SOk S ∧ Γ = gam ns W S .no .no .no .no } := by
  refine sx_seq (sx_asgP (P := isWish) (ev_callA (ea_consP (ev_stepL (ns := ns) (ev_var rfl) (eo_some ev_int)) (ea_consP (P := fun d => ∃ z : Int, d = .int z ∧ 2 ≤ z ∧ z ≤ 6) (ev_bin (P := fun d => d = .int 2) (R := fun d => ∃ z : Int, d = .int z ∧ 0 ≤ z ∧ z < 5) ev_int (ev_bin (P := isInt) (R := fun d => d = .int 5) (ev_at0 (n := 0) rfl) ev_int fun dx dy ⟨z, ex⟩ ey => ?_) fun dx dy ex ⟨z, ey, z0, z1⟩ => ?_) ea_nil)) fun ts ⟨d1, r1, e1, ⟨ms, p1, l1⟩, d2, r2, e2, ⟨z, p2, z0, z1⟩, e3⟩ => ⟨(ms, z), by rw [e1, e2, e3, p1, p2], ⟨by show ms.length ≤ 1000; omega, z0, z1⟩, fun d e => e⟩) ?_)
  · subst ex ey
    intro B H x y o hx hy Q q
    exact rv_CI (C := fun _ j => 0 < j) (g := fun i j => i % j) (by decide) B H x y o hx hy Q fun v d B2 H2 e => q v d B2 H2 ⟨_, e, Int.emod_nonneg _ (by decide), Int.emod_lt_of_pos _ (by decide)⟩
  · subst ex ey
    intro B H x y o hx hy Q q
    exact rv_II B H x y o hx hy Q fun v d B2 H2 e => q v d B2 H2 ⟨_, e, by omega, by omega⟩
  rintro d ⟨W, rfl, w⟩
  refine sx_seq (sx_asgP (P := isStock) (ev_callA (ea_consP (ev_stepL (ns := ns) (ev_var rfl) (eo_some ev_int)) (ea_consP (P := fun d => d = wishD W) (ev_var rfl) (ea_consP (P := fun d => ∃ b : Bool, d = .bool b) (ev_bin (P := isInt) (R := fun d => d = .int 0) (ev_bin (P := isInt) (R := fun d => d = .int 4) (ev_bin (P := isInt) (R := fun d => d = .int 5) (ev_at0 (n := 0) rfl) ev_int fun dx dy ⟨z, ex⟩ ey => ?_) ev_int fun dx dy ⟨z, ex⟩ ey => ?_) ev_int fun dx dy ⟨z, ex⟩ ey => ?_) ea_nil))) fun ts ⟨d1, r1, e1, ⟨ms, p1, l1⟩, d2, r2, e2, p2, d3, r3, e3, ⟨b, p3⟩, e4⟩ => ⟨(ms, W, b), by rw [e1, e2, e3, e4, p1, p2, p3], w, fun d e => e⟩) ?_)
  · subst ex ey
    intro B H x y o hx hy Q q
    exact rv_CI (C := CDivW) (g := fun i j => i / j) (div_ok (by decide) (by decide)) B H x y o hx hy Q fun v d B2 H2 e => q v d B2 H2 ⟨_, e⟩
  · subst ex ey
    intro B H x y o hx hy Q q
    exact rv_CI (C := fun _ j => 0 < j) (g := fun i j => i % j) (by decide) B H x y o hx hy Q fun v d B2 H2 e => q v d B2 H2 ⟨_, e⟩
  · subst ex ey
    intro B H x y o hx hy Q q
    exact rv_IB (g := fun i j => decide (j < i)) B H x y o hx hy Q fun v d B2 H2 e => q v d B2 H2 ⟨_, e⟩
  rintro d ⟨S, rfl, s⟩
  refine sx_asg (ev_lst (ds := [wishD W, stockD S]) (ea_cons (en_list (ev_var rfl)).ev (ea_cons (en_list (ev_var rfl)).ev ea_nil)) (len_ok rfl)) ⟨W, S, w, s, rfl⟩
abbrev spLaw (K : PySem.W.Frag) : Sp := fun vs H Q _ => ∃ (a : Addr) (ns : List Int), vs = [.ref a] ∧ SqL K H a (ns.map V.int) ∧ ns.length ≤ 63 ∧ ∀ H', Q (.bl true) H'
abbrev t_lawK (K : PySem.W.Frag) (CW CS : Addr) : TS := t_law K (sp__law_wish K) (sp__law_cell_at K) (sp__law_stock K) (sp_least_tree K CW CS) (sp__law_shut K) (sp__law_refused K) (sp__law_holds K)
theorem seq3 {a b c r : TS} {D : Ends} (h : tSeq a (tSeq b c) { D with nx := r D } σ H) : tSeq a (tSeq b (tSeq c r)) D σ H := h
theorem rd_law {CW CS : Addr} {vs : List V} {Q : VK} {E : XK} (h : spLaw K vs H Q E) : t_lawK K CW CS { nx := fun _ H' => Q .non H', rt := Q } (L2.start N_law vs) H := by
  obtain ⟨a, ns, rfl, sq, hl, hQ⟩ := h
  have E0 : Sit K H H H (L2.start N_law [.ref a]) ([.dat (intsD ns)] ++ List.replicate (N_law.length - 1) .no) := sit_start (K := K) (B := H) (H := H) (N := N_law) (vs := [.ref a]) (ts := [.dat (intsD ns)]) (Same.refl _) (.cons (show ArgOk K H H (.ref a) (.dat (intsD ns)) from .lst sq (ints_dpa ns)) .nil) (Nat.le_of_ble_eq_true rfl)
  unfold t_lawK t_law
  refine seq3 ?_
  refine sx_top hl H H _ _ E0 ⟨?_, fun _ _ _ z => z.elim, fun _ _ _ _ z => z.elim, fun _ _ _ _ z => z.elim⟩
  rintro Γ σ B' H' ⟨W, S, w, s, rfl⟩ _ E'
  exact law_found w s hQ E'
end
end K58
set_option Elab.async false
set_option linter.all false
set_option maxRecDepth 100000
set_option maxHeartbeats 2000000
namespace K58
open PySem PySem.Spec PyProof.Rows L2
/-- a def of the text: its function stands in the top's names -/
def FD (K : PySem.W.Frag) (mg : Str → Option Value) (x : Str) (st : Stmt) : Prop := ∃ f fd, Fun K x x st f fd ∧ mg x = some (.ref f)
structure Defs (K : PySem.W.Frag) (mg : Str → Option Value) : Prop where
  d_in_bounds : FD K mg "in_bounds" s_in_bounds
  d_check_wish : FD K mg "check_wish" s_check_wish
  d_check_stock : FD K mg "check_stock" s_check_stock
  d_between : FD K mg "between" s_between
  d_borders_of : FD K mg "borders_of" s_borders_of
  d_shut_border : FD K mg "shut_border" s_shut_border
  d_cheapest_cuts : FD K mg "cheapest_cuts" s_cheapest_cuts
  d_grains_from : FD K mg "grains_from" s_grains_from
  d_has_one_bin : FD K mg "has_one_bin" s_has_one_bin
  d_best_cut : FD K mg "best_cut" s_best_cut
  d_cut_table : FD K mg "cut_table" s_cut_table
  d_tree_by : FD K mg "tree_by" s_tree_by
  d_least_tree : FD K mg "least_tree" s_least_tree
  d__law_cell_at : FD K mg "_law_cell_at" s__law_cell_at
  d__law_whole : FD K mg "_law_whole" s__law_whole
  d__law_pair : FD K mg "_law_pair" s__law_pair
  d__law_wish : FD K mg "_law_wish" s__law_wish
  d__law_stock : FD K mg "_law_stock" s__law_stock
  d__law_shut : FD K mg "_law_shut" s__law_shut
  d__law_met : FD K mg "_law_met" s__law_met
  d__law_is_tree : FD K mg "_law_is_tree" s__law_is_tree
  d__law_served : FD K mg "_law_served" s__law_served
  d__law_tree_by : FD K mg "_law_tree_by" s__law_tree_by
  d__law_bad_wish : FD K mg "_law_bad_wish" s__law_bad_wish
  d__law_bad_stock : FD K mg "_law_bad_stock" s__law_bad_stock
  d__law_bound : FD K mg "_law_bound" s__law_bound
  d__law_sound : FD K mg "_law_sound" s__law_sound
  d__law_work : FD K mg "_law_work" s__law_work
  d__law_numbers : FD K mg "_law_numbers" s__law_numbers
  d__law_holds : FD K mg "_law_holds" s__law_holds
  d__law_refusal : FD K mg "_law_refusal" s__law_refusal
  d__law_refused : FD K mg "_law_refused" s__law_refused
  d_law : FD K mg "law" s_law
theorem Cal.no {P : Program} {w : World} {K : PySem.W.Frag} {mg : Str → Option Value} {base : Heap} {k : Nat} {x qual : Str} {st : Stmt} {f : Addr} {fd : FuncData} {ps : List Str} {sp : Sp} (F : Fun K x qual st f fd) (m : mg x = some (.ref f)) (no : ∀ vs H Q E, sp vs H Q E → False)
    (hb : ∀ (kV doc pm : Value) (an : Option Addr) (cdv ct : Value) (us : List Value), us.length = ps.length → bindArgs (PySem.W.fnOf x qual (defArgs st) (defBody st) (defScope st) .none kV doc pm an cdv ct) ⟨us, []⟩ = pure (ps.zip us)) : Cal P w K mg base CX0 k x ps sp :=
  Cal.of F ⟨fun vs H Q E h => (no vs H Q E h).elim, fun _ _ _ _ _ _ vs Q E _ _ _ _ h => (no vs _ Q E h).elim⟩ m hb
section
variable {P : Program} {w : World} {K : PySem.W.Frag} {mg : Str → Option Value} {base : Heap} {CM CW CS : Addr}
theorem cal_in_bounds (T : Txt mg) (D : Defs K mg) : Cal P w K mg base CX0 1 "in_bounds" ["number"] (sp_in_bounds K) := by
  obtain ⟨f, fd, F, mf⟩ := D.d_in_bounds
  exact Cal.of F (okD0 (k := 0) F sc_in_bounds (fun _ => rfl) (by decide) (t_in_bounds K) (fun cdv A outer s H E hr => ps_in_bounds T cdv A outer s H E hr) fun H a hp => rd_in_bounds a) mf (fun _ _ _ _ _ _ us hl => match us, hl with | [_], _ => rfl)
theorem cal_check_wish (T : Txt mg) (D : Defs K mg) (cW : ExcCls K mg "BadWish" CW) : Cal P w K mg base (L2.CX P w) 2 "check_wish" ["wish"] (sp_check_wish K CW) := by
  obtain ⟨f, fd, F, mf⟩ := D.d_check_wish
  exact Cal.of F (okDX (k := 1) F sc_check_wish (fun _ => rfl) (by decide) (fun E => (t_check_wish K (sp_in_bounds K) CW E)) (fun cdv A outer s H E hr => ps_check_wish T (cal_in_bounds T D) (by decide) cW cdv A outer s H E hr) fun H E a hp hx => rd_check_wish a hx) mf (fun _ _ _ _ _ _ us hl => match us, hl with | [_], _ => rfl)
theorem cal_check_stock (T : Txt mg) (D : Defs K mg) (cS : ExcCls K mg "BadStock" CS) : Cal P w K mg base (L2.CX P w) 2 "check_stock" ["stock"] (sp_check_stock K CS) := by
  obtain ⟨f, fd, F, mf⟩ := D.d_check_stock
  exact Cal.of F (okDX (k := 1) F sc_check_stock (fun _ => rfl) (by decide) (fun E => (t_check_stock K (sp_in_bounds K) CS E)) (fun cdv A outer s H E hr => ps_check_stock T (cal_in_bounds T D) (by decide) cS cdv A outer s H E hr) fun H E a hp hx => rd_check_stock a hx) mf (fun _ _ _ _ _ _ us hl => match us, hl with | [_], _ => rfl)
theorem cal_between (T : Txt mg) (D : Defs K mg) : Cal P w K mg base CX0 1 "between" ["stock", "lesser", "greater"] (sp_between K) := by
  obtain ⟨f, fd, F, mf⟩ := D.d_between
  exact Cal.of F (okD0 (k := 0) F sc_between (fun _ => rfl) (by decide) (t_between K) (fun cdv A outer s H E hr => ps_between T cdv A outer s H E hr) fun H a hp => rd_between a hp) mf (fun _ _ _ _ _ _ us hl => match us, hl with | [_, _, _], _ => rfl)
theorem cal_borders_of (T : Txt mg) (D : Defs K mg) : Cal P w K mg base CX0 1 "borders_of" ["wish"] (sp_borders_of K) := by
  obtain ⟨f, fd, F, mf⟩ := D.d_borders_of
  exact Cal.of F (okD0 (k := 0) F sc_borders_of (fun _ => rfl) (by decide) (t_borders_of K) (fun cdv A outer s H E hr => ps_borders_of T cdv A outer s H E hr) fun H a hp => rd_borders_of a hp) mf (fun _ _ _ _ _ _ us hl => match us, hl with | [_], _ => rfl)
theorem cal_shut_border (T : Txt mg) (D : Defs K mg) : Cal P w K mg base CX0 2 "shut_border" ["wish", "stock"] (sp_shut_border K) := by
  obtain ⟨f, fd, F, mf⟩ := D.d_shut_border
  exact Cal.of F (okD0 (k := 1) F sc_shut_border (fun _ => rfl) (by decide) (t_shut_border K (sp_borders_of K) (sp_between K)) (fun cdv A outer s H E hr => ps_shut_border T (cal_borders_of T D) (by decide) (cal_between T D) (by decide) cdv A outer s H E hr) fun H a hp => rd_shut_border a hp) mf (fun _ _ _ _ _ _ us hl => match us, hl with | [_, _], _ => rfl)
theorem cal_cheapest_cuts (T : Txt mg) (D : Defs K mg) : Cal P w K mg base CX0 2 "cheapest_cuts" ["wish", "stock"] (sp_cheapest_cuts K) := by
  obtain ⟨f, fd, F, mf⟩ := D.d_cheapest_cuts
  exact Cal.of F (okD0 (k := 1) F sc_cheapest_cuts (fun _ => rfl) (by decide) (t_cheapest_cuts K (sp_between K)) (fun cdv A outer s H E hr => ps_cheapest_cuts T (cal_between T D) (by decide) cdv A outer s H E hr) fun H a hp => rd_cheapest_cuts a hp) mf (fun _ _ _ _ _ _ us hl => match us, hl with | [_, _], _ => rfl)
theorem cal_grains_from (T : Txt mg) (D : Defs K mg) : Cal P w K mg base CX0 1 "grains_from" ["wish", "first", "last"] (sp_grains_from K) := by
  obtain ⟨f, fd, F, mf⟩ := D.d_grains_from
  exact Cal.of F (okD0 (k := 0) F sc_grains_from (fun _ => rfl) (by decide) (t_grains_from K) (fun cdv A outer s H E hr => ps_grains_from T cdv A outer s H E hr) fun H a hp => rd_grains_from a hp) mf (fun _ _ _ _ _ _ us hl => match us, hl with | [_, _, _], _ => rfl)
theorem cal_has_one_bin (T : Txt mg) (D : Defs K mg) : Cal P w K mg base CX0 1 "has_one_bin" ["wish", "first", "last"] (sp_has_one_bin K) := by
  obtain ⟨f, fd, F, mf⟩ := D.d_has_one_bin
  exact Cal.of F (okD0 (k := 0) F sc_has_one_bin (fun _ => rfl) (by decide) (t_has_one_bin K) (fun cdv A outer s H E hr => ps_has_one_bin T cdv A outer s H E hr) fun H a hp => rd_has_one_bin a hp) mf (fun _ _ _ _ _ _ us hl => match us, hl with | [_, _, _], _ => rfl)
theorem cal_best_cut (T : Txt mg) (D : Defs K mg) : Cal P w K mg base CX0 1 "best_cut" ["cuts", "table", "first", "last", "grains"] (sp_best_cut K) := by
  obtain ⟨f, fd, F, mf⟩ := D.d_best_cut
  exact Cal.of F (okD0 (k := 0) F sc_best_cut (fun _ => rfl) (by decide) (t_best_cut K) (fun cdv A outer s H E hr => ps_best_cut T cdv A outer s H E hr) fun H a hp => rd_best_cut a hp) mf (fun _ _ _ _ _ _ us hl => match us, hl with | [_, _, _, _, _], _ => rfl)
theorem cal_cut_table (T : Txt mg) (D : Defs K mg) : Cal P w K mg base CX0 2 "cut_table" ["wish", "cuts"] (sp_cut_table K) := by
  obtain ⟨f, fd, F, mf⟩ := D.d_cut_table
  exact Cal.of F (okF0 (k := 1) F sc_cut_table (fun _ => rfl) (by decide) (t_cut_table K (sp_has_one_bin K) (sp_best_cut K) (sp_grains_from K)) (fun cdv A outer s H E hr => ps_cut_table T (cal_has_one_bin T D) (by decide) (cal_best_cut T D) (by decide) (cal_grains_from T D) (by decide) cdv A outer s H E hr) fun H a hp => rd_cut_table a hp) mf (fun _ _ _ _ _ _ us hl => match us, hl with | [_, _], _ => rfl)
theorem cal_tree_by (T : Txt mg) (D : Defs K mg) : ∀ m : Nat, Cal P w K mg base CX0 (m + 1) "tree_by" ["wish", "cuts", "places", "first", "last"] (sp_tree_by K m)
  | 0 => by
    obtain ⟨f, fd, F, mf⟩ := D.d_tree_by
    exact Cal.no F mf (fun vs H Q E ⟨a, B, _, _, h, _⟩ => by have := h.m; omega) (fun _ _ _ _ _ _ us hl => match us, hl with | [_, _, _, _, _], _ => rfl)
  | m + 1 => by
    obtain ⟨f, fd, F, mf⟩ := D.d_tree_by
    exact Cal.of F (okD0 (k := m + 1) F sc_tree_by (fun _ => rfl) (by decide) (t_tree_by K (sp_tree_by K m)) (fun cdv A outer s H E hr => ps_tree_by T (cal_tree_by T D m) (Nat.le_refl _) cdv A outer s H E hr) fun H a hp => rd_tree_by m a hp) mf (fun _ _ _ _ _ _ us hl => match us, hl with | [_, _, _, _, _], _ => rfl)
theorem cal_least_tree (T : Txt mg) (D : Defs K mg) (cW : ExcCls K mg "BadWish" CW) (cS : ExcCls K mg "BadStock" CS) : Cal P w K mg base (L2.CX P w) 22 "least_tree" ["wish", "stock"] (sp_least_tree K CW CS) := by
  obtain ⟨f, fd, F, mf⟩ := D.d_least_tree
  exact Cal.of F (okFX (k := 21) F sc_least_tree (fun _ => rfl) (by decide) (fun E => (t_least_tree K (sp_check_wish K CW) (sp_check_stock K CS) (sp_shut_border K) (sp_cheapest_cuts K) (sp_cut_table K) (sp_tree_by K 20) E)) (fun cdv A outer s H E hr => ps_least_tree T (cal_check_wish T D cW) (by decide) (cal_check_stock T D cS) (by decide) (cal_shut_border T D) (by decide) (cal_cheapest_cuts T D) (by decide) (cal_cut_table T D) (by decide) (cal_tree_by T D 20) (by decide) cdv A outer s H E hr) fun H E a hp hx => rd_least_tree a hx) mf (fun _ _ _ _ _ _ us hl => match us, hl with | [_, _], _ => rfl)
theorem cal__law_cell_at (T : Txt mg) (D : Defs K mg) : Cal P w K mg base CX0 1 "_law_cell_at" ["script", "k"] (sp__law_cell_at K) := by
  obtain ⟨f, fd, F, mf⟩ := D.d__law_cell_at
  exact Cal.of F (okD0 (k := 0) F sc__law_cell_at (fun _ => rfl) (by decide) (t__law_cell_at K) (fun cdv A outer s H E hr => ps__law_cell_at T cdv A outer s H E hr) fun H a hp => rd__law_cell_at a) mf (fun _ _ _ _ _ _ us hl => match us, hl with | [_, _], _ => rfl)
theorem cal__law_whole (T : Txt mg) (D : Defs K mg) : Cal P w K mg base CX0 1 "_law_whole" ["found"] (sp__law_whole K) := by
  obtain ⟨f, fd, F, mf⟩ := D.d__law_whole
  exact Cal.of F (okD0 (k := 0) F sc__law_whole (fun _ => rfl) (by decide) (t__law_whole K) (fun cdv A outer s H E hr => ps__law_whole T cdv A outer s H E hr) fun H a hp => rd__law_whole a) mf (fun _ _ _ _ _ _ us hl => match us, hl with | [_], _ => rfl)
theorem cal__law_pair (T : Txt mg) (D : Defs K mg) : Cal P w K mg base CX0 1 "_law_pair" ["cell"] (sp__law_pair K) := by
  obtain ⟨f, fd, F, mf⟩ := D.d__law_pair
  exact Cal.of F (okD0 (k := 0) F sc__law_pair (fun _ => rfl) (by decide) (t__law_pair K) (fun cdv A outer s H E hr => ps__law_pair T cdv A outer s H E hr) fun H a hp => rd__law_pair a) mf (fun _ _ _ _ _ _ us hl => match us, hl with | [_], _ => rfl)
theorem cal__law_wish (T : Txt mg) (D : Defs K mg) : Cal P w K mg base CX0 2 "_law_wish" ["cells", "kinds"] (sp__law_wish K) := by
  obtain ⟨f, fd, F, mf⟩ := D.d__law_wish
  exact Cal.of F (okD0 (k := 1) F sc__law_wish (fun _ => rfl) (by decide) (t__law_wish K (sp__law_pair K)) (fun cdv A outer s H E hr => ps__law_wish T (cal__law_pair T D) (by decide) cdv A outer s H E hr) fun H a hp => rd__law_wish a hp) mf (fun _ _ _ _ _ _ us hl => match us, hl with | [_, _], _ => rfl)
theorem cal__law_stock (T : Txt mg) (D : Defs K mg) : Cal P w K mg base CX0 1 "_law_stock" ["cells", "wish", "whole"] (sp__law_stock K) := by
  obtain ⟨f, fd, F, mf⟩ := D.d__law_stock
  exact Cal.of F (okD0 (k := 0) F sc__law_stock (fun _ => rfl) (by decide) (t__law_stock K) (fun cdv A outer s H E hr => ps__law_stock T cdv A outer s H E hr) fun H a hp => rd__law_stock a hp) mf (fun _ _ _ _ _ _ us hl => match us, hl with | [_, _, _], _ => rfl)
theorem cal__law_shut (T : Txt mg) (D : Defs K mg) : Cal P w K mg base CX0 1 "_law_shut" ["wish", "stock"] (sp__law_shut K) := by
  obtain ⟨f, fd, F, mf⟩ := D.d__law_shut
  exact Cal.of F (okD0 (k := 0) F sc__law_shut (fun _ => rfl) (by decide) (t__law_shut K) (fun cdv A outer s H E hr => ps__law_shut T cdv A outer s H E hr) fun H a hp => rd__law_shut a hp) mf (fun _ _ _ _ _ _ us hl => match us, hl with | [_, _], _ => rfl)
theorem cal__law_met (T : Txt mg) (D : Defs K mg) : Cal P w K mg base CX0 1 "_law_met" ["tree", "size"] (sp__law_met K) := by
  obtain ⟨f, fd, F, mf⟩ := D.d__law_met
  exact Cal.of F (okD0 (k := 0) F sc__law_met (fun _ => rfl) (by decide) (t__law_met K) (fun cdv A outer s H E hr => ps__law_met T cdv A outer s H E hr) fun H a hp => rd__law_met a hp) mf (fun _ _ _ _ _ _ us hl => match us, hl with | [_, _], _ => rfl)
theorem cal__law_is_tree (T : Txt mg) (D : Defs K mg) : ∀ m : Nat, Cal P w K mg base CX0 (m + 1) "_law_is_tree" ["tree", "openings"] (sp__law_is_tree K m)
  | 0 => by
    obtain ⟨f, fd, F, mf⟩ := D.d__law_is_tree
    exact Cal.no F mf (fun vs H Q E ⟨a, B, _, _, h, _⟩ => by have := h.1; omega) (fun _ _ _ _ _ _ us hl => match us, hl with | [_, _], _ => rfl)
  | m + 1 => by
    obtain ⟨f, fd, F, mf⟩ := D.d__law_is_tree
    exact Cal.of F (okD0 (k := m + 1) F sc__law_is_tree (fun _ => rfl) (by decide) (t__law_is_tree K (sp__law_whole K) (sp__law_is_tree K m)) (fun cdv A outer s H E hr => ps__law_is_tree T (cal__law_whole T D) (Nat.succ_le_succ (Nat.zero_le _)) (cal__law_is_tree T D m) (Nat.le_refl _) cdv A outer s H E hr) fun H a hp => rd__law_is_tree m a hp) mf (fun _ _ _ _ _ _ us hl => match us, hl with | [_, _], _ => rfl)
theorem cal__law_served (T : Txt mg) (D : Defs K mg) : Cal P w K mg base CX0 23 "_law_served" ["tree", "wish", "stock"] (sp__law_served K) := by
  obtain ⟨f, fd, F, mf⟩ := D.d__law_served
  exact Cal.of F (okD0 (k := 22) F sc__law_served (fun _ => rfl) (by decide) (t__law_served K (sp__law_is_tree K 21) (sp__law_met K)) (fun cdv A outer s H E hr => ps__law_served T (cal__law_is_tree T D 21) (by decide) (cal__law_met T D) (by decide) cdv A outer s H E hr) fun H a hp => rd__law_served a hp) mf (fun _ _ _ _ _ _ us hl => match us, hl with | [_, _, _], _ => rfl)
theorem cal__law_tree_by (T : Txt mg) (D : Defs K mg) : ∀ m : Nat, Cal P w K mg base CX0 (m + 1) "_law_tree_by" ["wish", "stock", "cell"] (sp__law_tree_by K m)
  | 0 => by
    obtain ⟨f, fd, F, mf⟩ := D.d__law_tree_by
    exact Cal.no F mf (fun vs H Q E ⟨a, B, _, _, h, _⟩ => by have := h.m; omega) (fun _ _ _ _ _ _ us hl => match us, hl with | [_, _, _], _ => rfl)
  | m + 1 => by
    obtain ⟨f, fd, F, mf⟩ := D.d__law_tree_by
    exact Cal.of F (okD0 (k := m + 1) F sc__law_tree_by (fun _ => rfl) (by decide) (t__law_tree_by K (sp__law_tree_by K m)) (fun cdv A outer s H E hr => ps__law_tree_by T (cal__law_tree_by T D m) (Nat.le_refl _) cdv A outer s H E hr) fun H a hp => rd__law_tree_by m a hp) mf (fun _ _ _ _ _ _ us hl => match us, hl with | [_, _, _], _ => rfl)
theorem cal__law_bad_wish (T : Txt mg) (D : Defs K mg) : Cal P w K mg base CX0 1 "_law_bad_wish" ["wish", "cell"] (sp__law_bad_wish K) := by
  obtain ⟨f, fd, F, mf⟩ := D.d__law_bad_wish
  exact Cal.of F (okD0 (k := 0) F sc__law_bad_wish (fun _ => rfl) (by decide) (t__law_bad_wish K) (fun cdv A outer s H E hr => ps__law_bad_wish T cdv A outer s H E hr) fun H a hp => rd__law_bad_wish a hp) mf (fun _ _ _ _ _ _ us hl => match us, hl with | [_, _], _ => rfl)
theorem cal__law_bad_stock (T : Txt mg) (D : Defs K mg) : Cal P w K mg base CX0 1 "_law_bad_stock" ["stock", "cell"] (sp__law_bad_stock K) := by
  obtain ⟨f, fd, F, mf⟩ := D.d__law_bad_stock
  exact Cal.of F (okD0 (k := 0) F sc__law_bad_stock (fun _ => rfl) (by decide) (t__law_bad_stock K) (fun cdv A outer s H E hr => ps__law_bad_stock T cdv A outer s H E hr) fun H a hp => rd__law_bad_stock a hp) mf (fun _ _ _ _ _ _ us hl => match us, hl with | [_, _], _ => rfl)
theorem cal__law_bound (T : Txt mg) (D : Defs K mg) : Cal P w K mg base CX0 1 "_law_bound" ["wish", "stock", "table", "i", "j"] (sp__law_bound K) := by
  obtain ⟨f, fd, F, mf⟩ := D.d__law_bound
  exact Cal.of F (okD0 (k := 0) F sc__law_bound (fun _ => rfl) (by decide) (t__law_bound K) (fun cdv A outer s H E hr => ps__law_bound T cdv A outer s H E hr) fun H a hp => rd__law_bound a hp) mf (fun _ _ _ _ _ _ us hl => match us, hl with | [_, _, _, _, _], _ => rfl)
theorem cal__law_sound (T : Txt mg) (D : Defs K mg) : Cal P w K mg base CX0 2 "_law_sound" ["wish", "stock", "table"] (sp__law_sound K) := by
  obtain ⟨f, fd, F, mf⟩ := D.d__law_sound
  exact Cal.of F (okD0 (k := 1) F sc__law_sound (fun _ => rfl) (by decide) (t__law_sound K (sp__law_bound K)) (fun cdv A outer s H E hr => ps__law_sound T (cal__law_bound T D) (by decide) cdv A outer s H E hr) fun H a hp => rd__law_sound a hp) mf (fun _ _ _ _ _ _ us hl => match us, hl with | [_, _, _], _ => rfl)
theorem cal__law_work (T : Txt mg) (D : Defs K mg) : Cal P w K mg base CX0 2 "_law_work" ["tree", "wish", "stock"] (sp__law_work K) := by
  obtain ⟨f, fd, F, mf⟩ := D.d__law_work
  exact Cal.of F (okD0 (k := 1) F sc__law_work (fun _ => rfl) (by decide) (t__law_work K (sp__law_met K)) (fun cdv A outer s H E hr => ps__law_work T (cal__law_met T D) (by decide) cdv A outer s H E hr) fun H a hp => rd__law_work a hp) mf (fun _ _ _ _ _ _ us hl => match us, hl with | [_, _, _], _ => rfl)
theorem cal__law_numbers (T : Txt mg) (D : Defs K mg) : Cal P w K mg base CX0 2 "_law_numbers" ["table"] (sp__law_numbers K) := by
  obtain ⟨f, fd, F, mf⟩ := D.d__law_numbers
  exact Cal.of F (okD0 (k := 1) F sc__law_numbers (fun _ => rfl) (by decide) (t__law_numbers K (sp__law_whole K)) (fun cdv A outer s H E hr => ps__law_numbers T (cal__law_whole T D) (by decide) cdv A outer s H E hr) fun H a hp => rd__law_numbers a hp) mf (fun _ _ _ _ _ _ us hl => match us, hl with | [_], _ => rfl)
theorem cal__law_holds (T : Txt mg) (D : Defs K mg) : Cal P w K mg base CX0 24 "_law_holds" ["found", "wish", "stock", "cell"] (sp__law_holds K) := by
  obtain ⟨f, fd, F, mf⟩ := D.d__law_holds
  exact Cal.of F (okD0 (k := 23) F sc__law_holds (fun _ => rfl) (by decide) (t__law_holds K (sp__law_whole K) (sp__law_numbers K) (sp__law_served K) (sp__law_work K) (sp__law_sound K) (sp__law_tree_by K 20)) (fun cdv A outer s H E hr => ps__law_holds T (cal__law_whole T D) (by decide) (cal__law_numbers T D) (by decide) (cal__law_served T D) (by decide) (cal__law_work T D) (by decide) (cal__law_sound T D) (by decide) (cal__law_tree_by T D 20) (by decide) cdv A outer s H E hr) fun H a hp => rd__law_holds a hp) mf (fun _ _ _ _ _ _ us hl => match us, hl with | [_, _, _, _], _ => rfl)
theorem cal__law_refusal (T : Txt mg) (D : Defs K mg) (gM : mg "MeshError" = some (.ref CM)) (cW : ExcCls K mg "BadWish" CW) (cS : ExcCls K mg "BadStock" CS) (R : RefTxt K CM CW CS) : Cal P w K mg base CX0 23 "_law_refusal" ["wish", "stock"] (sp__law_refusal K) := by
  obtain ⟨f, fd, F, mf⟩ := D.d__law_refusal
  exact Cal.of F (okD0 (k := 22) F sc__law_refusal (fun _ => rfl) (by decide) (t__law_refusal K (sp_least_tree K CW CS) CM CW CS) (fun cdv A outer s H E hr => ps__law_refusal T (cal_least_tree T D cW cS) (by decide) gM cW.gC cS.gC cdv A outer s H E hr) fun H a hp => rd__law_refusal R a hp) mf (fun _ _ _ _ _ _ us hl => match us, hl with | [_, _], _ => rfl)
theorem cal__law_refused (T : Txt mg) (D : Defs K mg) (gM : mg "MeshError" = some (.ref CM)) (cW : ExcCls K mg "BadWish" CW) (cS : ExcCls K mg "BadStock" CS) (R : RefTxt K CM CW CS) : Cal P w K mg base CX0 24 "_law_refused" ["wish", "stock", "cell"] (sp__law_refused K) := by
  obtain ⟨f, fd, F, mf⟩ := D.d__law_refused
  exact Cal.of F (okD0 (k := 23) F sc__law_refused (fun _ => rfl) (by decide) (t__law_refused K (sp__law_bad_stock K) (sp__law_bad_wish K) (sp__law_refusal K)) (fun cdv A outer s H E hr => ps__law_refused T (cal__law_bad_stock T D) (by decide) (cal__law_bad_wish T D) (by decide) (cal__law_refusal T D gM cW cS R) (by decide) cdv A outer s H E hr) fun H a hp => rd__law_refused a hp) mf (fun _ _ _ _ _ _ us hl => match us, hl with | [_, _, _], _ => rfl)
theorem ok_law (T : Txt mg) (D : Defs K mg) (gM : mg "MeshError" = some (.ref CM)) (cW : ExcCls K mg "BadWish" CW) (cS : ExcCls K mg "BadStock" CS) (R : RefTxt K CM CW CS) {f : Addr} {fd : FuncData} (F : Fun K "law" "law" s_law f fd) : FnOk P w K mg base CX0 25 f fd ["script"] (spLaw K) :=
  F.ok sc_law (fun vs H Q E ⟨a, ns, e, _⟩ => by rw [e]; rfl) fun cdv A outer s H vs Q E hr h => ⟨t_lawK K CW CS, ps_law T (cal__law_wish T D) (by decide) (cal__law_cell_at T D) (by decide) (cal__law_stock T D) (by decide) (cal_least_tree T D cW cS) (by decide) (cal__law_shut T D) (by decide) (cal__law_refused T D gM cW cS R) (by decide) (cal__law_holds T D) (by decide) cdv A outer s H E hr, rd_law h⟩
end
end K58
set_option Elab.async false
set_option linter.all false
set_option maxRecDepth 100000
set_option maxHeartbeats 2000000
namespace K58
open PySem PySem.Spec PyProof.Rows L2
theorem kit_ref {K : PySem.W.Frag} {C : Addr} {t : Value} {b : Bool} (hd : PySem.W.hasDictIn K C = true) (ht : PySem.W.typeIn K (.ref C) = some (.type "type")) (hs : PySem.W.subIn K t (.ref C) = some b) (self : PySem.W.subIn K (.ref C) (.ref C) = some true) : PySem.W.kitOne K t (.ref C) = some b := by
  obtain ⟨cd, hc, _⟩ := PySem.W.any_some hd
  unfold PySem.W.kitOne
  by_cases e : (t == Value.ref C) = true
  · have e2 := beq_iff_eq.mp e
    subst e2
    rw [if_pos e, ← hs, self]
  · rw [if_neg e]
    have e2 : ((PySem.W.clsIn K C).isSome && PySem.W.typeIn K (.ref C) == some (.type "type")) = true := by rw [hc, ht] <;> rfl
    show (if ((PySem.W.clsIn K C).isSome && PySem.W.typeIn K (.ref C) == some (.type "type")) = true then PySem.W.subIn K t (.ref C) else none) = some b
    rw [if_pos e2]
    exact hs
theorem all_mk {P : Program} {w : World} {K : PySem.W.Frag} {h : Heap} {mg : Str → Option Value} {fa CM CW CS : Addr} {f_in_bounds f_check_wish f_check_stock f_between f_borders_of f_shut_border f_cheapest_cuts f_grains_from f_has_one_bin f_best_cut f_cut_table f_tree_by f_least_tree f__law_cell_at f__law_whole f__law_pair f__law_wish f__law_stock f__law_shut f__law_met f__law_is_tree f__law_served f__law_tree_by f__law_bad_wish f__law_bad_stock f__law_bound f__law_sound f__law_work f__law_numbers f__law_holds f__law_refusal f__law_refused f_law : Addr} {t_MOST_WISHES t_MOST_STOCK t_MOST_BIN t_GREATEST : _} (X : K.In h) (G : h.Ns mainGlobals mg) (hfa : mg "law" = some (.ref fa))
    {odin_bounds anin_bounds : Option Addr} {slin_bounds : Array (Option Value)} {ocin_bounds kvin_bounds dcin_bounds pmin_bounds cdin_bounds ctin_bounds : Value}
    {odcheck_wish ancheck_wish : Option Addr} {slcheck_wish : Array (Option Value)} {occheck_wish kvcheck_wish dccheck_wish pmcheck_wish cdcheck_wish ctcheck_wish : Value}
    {odcheck_stock ancheck_stock : Option Addr} {slcheck_stock : Array (Option Value)} {occheck_stock kvcheck_stock dccheck_stock pmcheck_stock cdcheck_stock ctcheck_stock : Value}
    {odbetween anbetween : Option Addr} {slbetween : Array (Option Value)} {ocbetween kvbetween dcbetween pmbetween cdbetween ctbetween : Value}
    {odborders_of anborders_of : Option Addr} {slborders_of : Array (Option Value)} {ocborders_of kvborders_of dcborders_of pmborders_of cdborders_of ctborders_of : Value}
    {odshut_border anshut_border : Option Addr} {slshut_border : Array (Option Value)} {ocshut_border kvshut_border dcshut_border pmshut_border cdshut_border ctshut_border : Value}
    {odcheapest_cuts ancheapest_cuts : Option Addr} {slcheapest_cuts : Array (Option Value)} {occheapest_cuts kvcheapest_cuts dccheapest_cuts pmcheapest_cuts cdcheapest_cuts ctcheapest_cuts : Value}
    {odgrains_from angrains_from : Option Addr} {slgrains_from : Array (Option Value)} {ocgrains_from kvgrains_from dcgrains_from pmgrains_from cdgrains_from ctgrains_from : Value}
    {odhas_one_bin anhas_one_bin : Option Addr} {slhas_one_bin : Array (Option Value)} {ochas_one_bin kvhas_one_bin dchas_one_bin pmhas_one_bin cdhas_one_bin cthas_one_bin : Value}
    {odbest_cut anbest_cut : Option Addr} {slbest_cut : Array (Option Value)} {ocbest_cut kvbest_cut dcbest_cut pmbest_cut cdbest_cut ctbest_cut : Value}
    {odcut_table ancut_table : Option Addr} {slcut_table : Array (Option Value)} {occut_table kvcut_table dccut_table pmcut_table cdcut_table ctcut_table : Value}
    {odtree_by antree_by : Option Addr} {sltree_by : Array (Option Value)} {octree_by kvtree_by dctree_by pmtree_by cdtree_by cttree_by : Value}
    {odleast_tree anleast_tree : Option Addr} {slleast_tree : Array (Option Value)} {ocleast_tree kvleast_tree dcleast_tree pmleast_tree cdleast_tree ctleast_tree : Value}
    {od_law_cell_at an_law_cell_at : Option Addr} {sl_law_cell_at : Array (Option Value)} {oc_law_cell_at kv_law_cell_at dc_law_cell_at pm_law_cell_at cd_law_cell_at ct_law_cell_at : Value}
    {od_law_whole an_law_whole : Option Addr} {sl_law_whole : Array (Option Value)} {oc_law_whole kv_law_whole dc_law_whole pm_law_whole cd_law_whole ct_law_whole : Value}
    {od_law_pair an_law_pair : Option Addr} {sl_law_pair : Array (Option Value)} {oc_law_pair kv_law_pair dc_law_pair pm_law_pair cd_law_pair ct_law_pair : Value}
    {od_law_wish an_law_wish : Option Addr} {sl_law_wish : Array (Option Value)} {oc_law_wish kv_law_wish dc_law_wish pm_law_wish cd_law_wish ct_law_wish : Value}
    {od_law_stock an_law_stock : Option Addr} {sl_law_stock : Array (Option Value)} {oc_law_stock kv_law_stock dc_law_stock pm_law_stock cd_law_stock ct_law_stock : Value}
    {od_law_shut an_law_shut : Option Addr} {sl_law_shut : Array (Option Value)} {oc_law_shut kv_law_shut dc_law_shut pm_law_shut cd_law_shut ct_law_shut : Value}
    {od_law_met an_law_met : Option Addr} {sl_law_met : Array (Option Value)} {oc_law_met kv_law_met dc_law_met pm_law_met cd_law_met ct_law_met : Value}
    {od_law_is_tree an_law_is_tree : Option Addr} {sl_law_is_tree : Array (Option Value)} {oc_law_is_tree kv_law_is_tree dc_law_is_tree pm_law_is_tree cd_law_is_tree ct_law_is_tree : Value}
    {od_law_served an_law_served : Option Addr} {sl_law_served : Array (Option Value)} {oc_law_served kv_law_served dc_law_served pm_law_served cd_law_served ct_law_served : Value}
    {od_law_tree_by an_law_tree_by : Option Addr} {sl_law_tree_by : Array (Option Value)} {oc_law_tree_by kv_law_tree_by dc_law_tree_by pm_law_tree_by cd_law_tree_by ct_law_tree_by : Value}
    {od_law_bad_wish an_law_bad_wish : Option Addr} {sl_law_bad_wish : Array (Option Value)} {oc_law_bad_wish kv_law_bad_wish dc_law_bad_wish pm_law_bad_wish cd_law_bad_wish ct_law_bad_wish : Value}
    {od_law_bad_stock an_law_bad_stock : Option Addr} {sl_law_bad_stock : Array (Option Value)} {oc_law_bad_stock kv_law_bad_stock dc_law_bad_stock pm_law_bad_stock cd_law_bad_stock ct_law_bad_stock : Value}
    {od_law_bound an_law_bound : Option Addr} {sl_law_bound : Array (Option Value)} {oc_law_bound kv_law_bound dc_law_bound pm_law_bound cd_law_bound ct_law_bound : Value}
    {od_law_sound an_law_sound : Option Addr} {sl_law_sound : Array (Option Value)} {oc_law_sound kv_law_sound dc_law_sound pm_law_sound cd_law_sound ct_law_sound : Value}
    {od_law_work an_law_work : Option Addr} {sl_law_work : Array (Option Value)} {oc_law_work kv_law_work dc_law_work pm_law_work cd_law_work ct_law_work : Value}
    {od_law_numbers an_law_numbers : Option Addr} {sl_law_numbers : Array (Option Value)} {oc_law_numbers kv_law_numbers dc_law_numbers pm_law_numbers cd_law_numbers ct_law_numbers : Value}
    {od_law_holds an_law_holds : Option Addr} {sl_law_holds : Array (Option Value)} {oc_law_holds kv_law_holds dc_law_holds pm_law_holds cd_law_holds ct_law_holds : Value}
    {od_law_refusal an_law_refusal : Option Addr} {sl_law_refusal : Array (Option Value)} {oc_law_refusal kv_law_refusal dc_law_refusal pm_law_refusal cd_law_refusal ct_law_refusal : Value}
    {od_law_refused an_law_refused : Option Addr} {sl_law_refused : Array (Option Value)} {oc_law_refused kv_law_refused dc_law_refused pm_law_refused cd_law_refused ct_law_refused : Value}
    {odlaw anlaw : Option Addr} {sllaw : Array (Option Value)} {oclaw kvlaw dclaw pmlaw cdlaw ctlaw : Value}
    (a_in_bounds : PySem.W.nsIn K mainGlobals "in_bounds" = some (some (.ref f_in_bounds)))
    (l_in_bounds : K.lookup f_in_bounds = some ⟨ocin_bounds, odin_bounds, .func (PySem.W.fnOf "in_bounds" "in_bounds" (defArgs s_in_bounds) (defBody s_in_bounds) (defScope s_in_bounds) .none kvin_bounds dcin_bounds pmin_bounds anin_bounds cdin_bounds ctin_bounds), slin_bounds⟩)
    (c_in_bounds : PySem.W.codeIn K cdin_bounds "in_bounds" = true)
    (k_in_bounds : PySem.W.keepIn K (.ref f_in_bounds) = true)
    (a_check_wish : PySem.W.nsIn K mainGlobals "check_wish" = some (some (.ref f_check_wish)))
    (l_check_wish : K.lookup f_check_wish = some ⟨occheck_wish, odcheck_wish, .func (PySem.W.fnOf "check_wish" "check_wish" (defArgs s_check_wish) (defBody s_check_wish) (defScope s_check_wish) .none kvcheck_wish dccheck_wish pmcheck_wish ancheck_wish cdcheck_wish ctcheck_wish), slcheck_wish⟩)
    (c_check_wish : PySem.W.codeIn K cdcheck_wish "check_wish" = true)
    (k_check_wish : PySem.W.keepIn K (.ref f_check_wish) = true)
    (a_check_stock : PySem.W.nsIn K mainGlobals "check_stock" = some (some (.ref f_check_stock)))
    (l_check_stock : K.lookup f_check_stock = some ⟨occheck_stock, odcheck_stock, .func (PySem.W.fnOf "check_stock" "check_stock" (defArgs s_check_stock) (defBody s_check_stock) (defScope s_check_stock) .none kvcheck_stock dccheck_stock pmcheck_stock ancheck_stock cdcheck_stock ctcheck_stock), slcheck_stock⟩)
    (c_check_stock : PySem.W.codeIn K cdcheck_stock "check_stock" = true)
    (k_check_stock : PySem.W.keepIn K (.ref f_check_stock) = true)
    (a_between : PySem.W.nsIn K mainGlobals "between" = some (some (.ref f_between)))
    (l_between : K.lookup f_between = some ⟨ocbetween, odbetween, .func (PySem.W.fnOf "between" "between" (defArgs s_between) (defBody s_between) (defScope s_between) .none kvbetween dcbetween pmbetween anbetween cdbetween ctbetween), slbetween⟩)
    (c_between : PySem.W.codeIn K cdbetween "between" = true)
    (k_between : PySem.W.keepIn K (.ref f_between) = true)
    (a_borders_of : PySem.W.nsIn K mainGlobals "borders_of" = some (some (.ref f_borders_of)))
    (l_borders_of : K.lookup f_borders_of = some ⟨ocborders_of, odborders_of, .func (PySem.W.fnOf "borders_of" "borders_of" (defArgs s_borders_of) (defBody s_borders_of) (defScope s_borders_of) .none kvborders_of dcborders_of pmborders_of anborders_of cdborders_of ctborders_of), slborders_of⟩)
    (c_borders_of : PySem.W.codeIn K cdborders_of "borders_of" = true)
    (k_borders_of : PySem.W.keepIn K (.ref f_borders_of) = true)
    (a_shut_border : PySem.W.nsIn K mainGlobals "shut_border" = some (some (.ref f_shut_border)))
    (l_shut_border : K.lookup f_shut_border = some ⟨ocshut_border, odshut_border, .func (PySem.W.fnOf "shut_border" "shut_border" (defArgs s_shut_border) (defBody s_shut_border) (defScope s_shut_border) .none kvshut_border dcshut_border pmshut_border anshut_border cdshut_border ctshut_border), slshut_border⟩)
    (c_shut_border : PySem.W.codeIn K cdshut_border "shut_border" = true)
    (k_shut_border : PySem.W.keepIn K (.ref f_shut_border) = true)
    (a_cheapest_cuts : PySem.W.nsIn K mainGlobals "cheapest_cuts" = some (some (.ref f_cheapest_cuts)))
    (l_cheapest_cuts : K.lookup f_cheapest_cuts = some ⟨occheapest_cuts, odcheapest_cuts, .func (PySem.W.fnOf "cheapest_cuts" "cheapest_cuts" (defArgs s_cheapest_cuts) (defBody s_cheapest_cuts) (defScope s_cheapest_cuts) .none kvcheapest_cuts dccheapest_cuts pmcheapest_cuts ancheapest_cuts cdcheapest_cuts ctcheapest_cuts), slcheapest_cuts⟩)
    (c_cheapest_cuts : PySem.W.codeIn K cdcheapest_cuts "cheapest_cuts" = true)
    (k_cheapest_cuts : PySem.W.keepIn K (.ref f_cheapest_cuts) = true)
    (a_grains_from : PySem.W.nsIn K mainGlobals "grains_from" = some (some (.ref f_grains_from)))
    (l_grains_from : K.lookup f_grains_from = some ⟨ocgrains_from, odgrains_from, .func (PySem.W.fnOf "grains_from" "grains_from" (defArgs s_grains_from) (defBody s_grains_from) (defScope s_grains_from) .none kvgrains_from dcgrains_from pmgrains_from angrains_from cdgrains_from ctgrains_from), slgrains_from⟩)
    (c_grains_from : PySem.W.codeIn K cdgrains_from "grains_from" = true)
    (k_grains_from : PySem.W.keepIn K (.ref f_grains_from) = true)
    (a_has_one_bin : PySem.W.nsIn K mainGlobals "has_one_bin" = some (some (.ref f_has_one_bin)))
    (l_has_one_bin : K.lookup f_has_one_bin = some ⟨ochas_one_bin, odhas_one_bin, .func (PySem.W.fnOf "has_one_bin" "has_one_bin" (defArgs s_has_one_bin) (defBody s_has_one_bin) (defScope s_has_one_bin) .none kvhas_one_bin dchas_one_bin pmhas_one_bin anhas_one_bin cdhas_one_bin cthas_one_bin), slhas_one_bin⟩)
    (c_has_one_bin : PySem.W.codeIn K cdhas_one_bin "has_one_bin" = true)
    (k_has_one_bin : PySem.W.keepIn K (.ref f_has_one_bin) = true)
    (a_best_cut : PySem.W.nsIn K mainGlobals "best_cut" = some (some (.ref f_best_cut)))
    (l_best_cut : K.lookup f_best_cut = some ⟨ocbest_cut, odbest_cut, .func (PySem.W.fnOf "best_cut" "best_cut" (defArgs s_best_cut) (defBody s_best_cut) (defScope s_best_cut) .none kvbest_cut dcbest_cut pmbest_cut anbest_cut cdbest_cut ctbest_cut), slbest_cut⟩)
    (c_best_cut : PySem.W.codeIn K cdbest_cut "best_cut" = true)
    (k_best_cut : PySem.W.keepIn K (.ref f_best_cut) = true)
    (a_cut_table : PySem.W.nsIn K mainGlobals "cut_table" = some (some (.ref f_cut_table)))
    (l_cut_table : K.lookup f_cut_table = some ⟨occut_table, odcut_table, .func (PySem.W.fnOf "cut_table" "cut_table" (defArgs s_cut_table) (defBody s_cut_table) (defScope s_cut_table) .none kvcut_table dccut_table pmcut_table ancut_table cdcut_table ctcut_table), slcut_table⟩)
    (c_cut_table : PySem.W.codeIn K cdcut_table "cut_table" = true)
    (k_cut_table : PySem.W.keepIn K (.ref f_cut_table) = true)
    (a_tree_by : PySem.W.nsIn K mainGlobals "tree_by" = some (some (.ref f_tree_by)))
    (l_tree_by : K.lookup f_tree_by = some ⟨octree_by, odtree_by, .func (PySem.W.fnOf "tree_by" "tree_by" (defArgs s_tree_by) (defBody s_tree_by) (defScope s_tree_by) .none kvtree_by dctree_by pmtree_by antree_by cdtree_by cttree_by), sltree_by⟩)
    (c_tree_by : PySem.W.codeIn K cdtree_by "tree_by" = true)
    (k_tree_by : PySem.W.keepIn K (.ref f_tree_by) = true)
    (a_least_tree : PySem.W.nsIn K mainGlobals "least_tree" = some (some (.ref f_least_tree)))
    (l_least_tree : K.lookup f_least_tree = some ⟨ocleast_tree, odleast_tree, .func (PySem.W.fnOf "least_tree" "least_tree" (defArgs s_least_tree) (defBody s_least_tree) (defScope s_least_tree) .none kvleast_tree dcleast_tree pmleast_tree anleast_tree cdleast_tree ctleast_tree), slleast_tree⟩)
    (c_least_tree : PySem.W.codeIn K cdleast_tree "least_tree" = true)
    (k_least_tree : PySem.W.keepIn K (.ref f_least_tree) = true)
    (a__law_cell_at : PySem.W.nsIn K mainGlobals "_law_cell_at" = some (some (.ref f__law_cell_at)))
    (l__law_cell_at : K.lookup f__law_cell_at = some ⟨oc_law_cell_at, od_law_cell_at, .func (PySem.W.fnOf "_law_cell_at" "_law_cell_at" (defArgs s__law_cell_at) (defBody s__law_cell_at) (defScope s__law_cell_at) .none kv_law_cell_at dc_law_cell_at pm_law_cell_at an_law_cell_at cd_law_cell_at ct_law_cell_at), sl_law_cell_at⟩)
    (c__law_cell_at : PySem.W.codeIn K cd_law_cell_at "_law_cell_at" = true)
    (k__law_cell_at : PySem.W.keepIn K (.ref f__law_cell_at) = true)
    (a__law_whole : PySem.W.nsIn K mainGlobals "_law_whole" = some (some (.ref f__law_whole)))
    (l__law_whole : K.lookup f__law_whole = some ⟨oc_law_whole, od_law_whole, .func (PySem.W.fnOf "_law_whole" "_law_whole" (defArgs s__law_whole) (defBody s__law_whole) (defScope s__law_whole) .none kv_law_whole dc_law_whole pm_law_whole an_law_whole cd_law_whole ct_law_whole), sl_law_whole⟩)
    (c__law_whole : PySem.W.codeIn K cd_law_whole "_law_whole" = true)
    (k__law_whole : PySem.W.keepIn K (.ref f__law_whole) = true)
    (a__law_pair : PySem.W.nsIn K mainGlobals "_law_pair" = some (some (.ref f__law_pair)))
    (l__law_pair : K.lookup f__law_pair = some ⟨oc_law_pair, od_law_pair, .func (PySem.W.fnOf "_law_pair" "_law_pair" (defArgs s__law_pair) (defBody s__law_pair) (defScope s__law_pair) .none kv_law_pair dc_law_pair pm_law_pair an_law_pair cd_law_pair ct_law_pair), sl_law_pair⟩)
    (c__law_pair : PySem.W.codeIn K cd_law_pair "_law_pair" = true)
    (k__law_pair : PySem.W.keepIn K (.ref f__law_pair) = true)
    (a__law_wish : PySem.W.nsIn K mainGlobals "_law_wish" = some (some (.ref f__law_wish)))
    (l__law_wish : K.lookup f__law_wish = some ⟨oc_law_wish, od_law_wish, .func (PySem.W.fnOf "_law_wish" "_law_wish" (defArgs s__law_wish) (defBody s__law_wish) (defScope s__law_wish) .none kv_law_wish dc_law_wish pm_law_wish an_law_wish cd_law_wish ct_law_wish), sl_law_wish⟩)
    (c__law_wish : PySem.W.codeIn K cd_law_wish "_law_wish" = true)
    (k__law_wish : PySem.W.keepIn K (.ref f__law_wish) = true)
    (a__law_stock : PySem.W.nsIn K mainGlobals "_law_stock" = some (some (.ref f__law_stock)))
    (l__law_stock : K.lookup f__law_stock = some ⟨oc_law_stock, od_law_stock, .func (PySem.W.fnOf "_law_stock" "_law_stock" (defArgs s__law_stock) (defBody s__law_stock) (defScope s__law_stock) .none kv_law_stock dc_law_stock pm_law_stock an_law_stock cd_law_stock ct_law_stock), sl_law_stock⟩)
    (c__law_stock : PySem.W.codeIn K cd_law_stock "_law_stock" = true)
    (k__law_stock : PySem.W.keepIn K (.ref f__law_stock) = true)
    (a__law_shut : PySem.W.nsIn K mainGlobals "_law_shut" = some (some (.ref f__law_shut)))
    (l__law_shut : K.lookup f__law_shut = some ⟨oc_law_shut, od_law_shut, .func (PySem.W.fnOf "_law_shut" "_law_shut" (defArgs s__law_shut) (defBody s__law_shut) (defScope s__law_shut) .none kv_law_shut dc_law_shut pm_law_shut an_law_shut cd_law_shut ct_law_shut), sl_law_shut⟩)
    (c__law_shut : PySem.W.codeIn K cd_law_shut "_law_shut" = true)
    (k__law_shut : PySem.W.keepIn K (.ref f__law_shut) = true)
    (a__law_met : PySem.W.nsIn K mainGlobals "_law_met" = some (some (.ref f__law_met)))
    (l__law_met : K.lookup f__law_met = some ⟨oc_law_met, od_law_met, .func (PySem.W.fnOf "_law_met" "_law_met" (defArgs s__law_met) (defBody s__law_met) (defScope s__law_met) .none kv_law_met dc_law_met pm_law_met an_law_met cd_law_met ct_law_met), sl_law_met⟩)
    (c__law_met : PySem.W.codeIn K cd_law_met "_law_met" = true)
    (k__law_met : PySem.W.keepIn K (.ref f__law_met) = true)
    (a__law_is_tree : PySem.W.nsIn K mainGlobals "_law_is_tree" = some (some (.ref f__law_is_tree)))
    (l__law_is_tree : K.lookup f__law_is_tree = some ⟨oc_law_is_tree, od_law_is_tree, .func (PySem.W.fnOf "_law_is_tree" "_law_is_tree" (defArgs s__law_is_tree) (defBody s__law_is_tree) (defScope s__law_is_tree) .none kv_law_is_tree dc_law_is_tree pm_law_is_tree an_law_is_tree cd_law_is_tree ct_law_is_tree), sl_law_is_tree⟩)
    (c__law_is_tree : PySem.W.codeIn K cd_law_is_tree "_law_is_tree" = true)
    (k__law_is_tree : PySem.W.keepIn K (.ref f__law_is_tree) = true)
    (a__law_served : PySem.W.nsIn K mainGlobals "_law_served" = some (some (.ref f__law_served)))
    (l__law_served : K.lookup f__law_served = some ⟨oc_law_served, od_law_served, .func (PySem.W.fnOf "_law_served" "_law_served" (defArgs s__law_served) (defBody s__law_served) (defScope s__law_served) .none kv_law_served dc_law_served pm_law_served an_law_served cd_law_served ct_law_served), sl_law_served⟩)
    (c__law_served : PySem.W.codeIn K cd_law_served "_law_served" = true)
    (k__law_served : PySem.W.keepIn K (.ref f__law_served) = true)
    (a__law_tree_by : PySem.W.nsIn K mainGlobals "_law_tree_by" = some (some (.ref f__law_tree_by)))
    (l__law_tree_by : K.lookup f__law_tree_by = some ⟨oc_law_tree_by, od_law_tree_by, .func (PySem.W.fnOf "_law_tree_by" "_law_tree_by" (defArgs s__law_tree_by) (defBody s__law_tree_by) (defScope s__law_tree_by) .none kv_law_tree_by dc_law_tree_by pm_law_tree_by an_law_tree_by cd_law_tree_by ct_law_tree_by), sl_law_tree_by⟩)
    (c__law_tree_by : PySem.W.codeIn K cd_law_tree_by "_law_tree_by" = true)
    (k__law_tree_by : PySem.W.keepIn K (.ref f__law_tree_by) = true)
    (a__law_bad_wish : PySem.W.nsIn K mainGlobals "_law_bad_wish" = some (some (.ref f__law_bad_wish)))
    (l__law_bad_wish : K.lookup f__law_bad_wish = some ⟨oc_law_bad_wish, od_law_bad_wish, .func (PySem.W.fnOf "_law_bad_wish" "_law_bad_wish" (defArgs s__law_bad_wish) (defBody s__law_bad_wish) (defScope s__law_bad_wish) .none kv_law_bad_wish dc_law_bad_wish pm_law_bad_wish an_law_bad_wish cd_law_bad_wish ct_law_bad_wish), sl_law_bad_wish⟩)
    (c__law_bad_wish : PySem.W.codeIn K cd_law_bad_wish "_law_bad_wish" = true)
    (k__law_bad_wish : PySem.W.keepIn K (.ref f__law_bad_wish) = true)
    (a__law_bad_stock : PySem.W.nsIn K mainGlobals "_law_bad_stock" = some (some (.ref f__law_bad_stock)))
    (l__law_bad_stock : K.lookup f__law_bad_stock = some ⟨oc_law_bad_stock, od_law_bad_stock, .func (PySem.W.fnOf "_law_bad_stock" "_law_bad_stock" (defArgs s__law_bad_stock) (defBody s__law_bad_stock) (defScope s__law_bad_stock) .none kv_law_bad_stock dc_law_bad_stock pm_law_bad_stock an_law_bad_stock cd_law_bad_stock ct_law_bad_stock), sl_law_bad_stock⟩)
    (c__law_bad_stock : PySem.W.codeIn K cd_law_bad_stock "_law_bad_stock" = true)
    (k__law_bad_stock : PySem.W.keepIn K (.ref f__law_bad_stock) = true)
    (a__law_bound : PySem.W.nsIn K mainGlobals "_law_bound" = some (some (.ref f__law_bound)))
    (l__law_bound : K.lookup f__law_bound = some ⟨oc_law_bound, od_law_bound, .func (PySem.W.fnOf "_law_bound" "_law_bound" (defArgs s__law_bound) (defBody s__law_bound) (defScope s__law_bound) .none kv_law_bound dc_law_bound pm_law_bound an_law_bound cd_law_bound ct_law_bound), sl_law_bound⟩)
    (c__law_bound : PySem.W.codeIn K cd_law_bound "_law_bound" = true)
    (k__law_bound : PySem.W.keepIn K (.ref f__law_bound) = true)
    (a__law_sound : PySem.W.nsIn K mainGlobals "_law_sound" = some (some (.ref f__law_sound)))
    (l__law_sound : K.lookup f__law_sound = some ⟨oc_law_sound, od_law_sound, .func (PySem.W.fnOf "_law_sound" "_law_sound" (defArgs s__law_sound) (defBody s__law_sound) (defScope s__law_sound) .none kv_law_sound dc_law_sound pm_law_sound an_law_sound cd_law_sound ct_law_sound), sl_law_sound⟩)
    (c__law_sound : PySem.W.codeIn K cd_law_sound "_law_sound" = true)
    (k__law_sound : PySem.W.keepIn K (.ref f__law_sound) = true)
    (a__law_work : PySem.W.nsIn K mainGlobals "_law_work" = some (some (.ref f__law_work)))
    (l__law_work : K.lookup f__law_work = some ⟨oc_law_work, od_law_work, .func (PySem.W.fnOf "_law_work" "_law_work" (defArgs s__law_work) (defBody s__law_work) (defScope s__law_work) .none kv_law_work dc_law_work pm_law_work an_law_work cd_law_work ct_law_work), sl_law_work⟩)
    (c__law_work : PySem.W.codeIn K cd_law_work "_law_work" = true)
    (k__law_work : PySem.W.keepIn K (.ref f__law_work) = true)
    (a__law_numbers : PySem.W.nsIn K mainGlobals "_law_numbers" = some (some (.ref f__law_numbers)))
    (l__law_numbers : K.lookup f__law_numbers = some ⟨oc_law_numbers, od_law_numbers, .func (PySem.W.fnOf "_law_numbers" "_law_numbers" (defArgs s__law_numbers) (defBody s__law_numbers) (defScope s__law_numbers) .none kv_law_numbers dc_law_numbers pm_law_numbers an_law_numbers cd_law_numbers ct_law_numbers), sl_law_numbers⟩)
    (c__law_numbers : PySem.W.codeIn K cd_law_numbers "_law_numbers" = true)
    (k__law_numbers : PySem.W.keepIn K (.ref f__law_numbers) = true)
    (a__law_holds : PySem.W.nsIn K mainGlobals "_law_holds" = some (some (.ref f__law_holds)))
    (l__law_holds : K.lookup f__law_holds = some ⟨oc_law_holds, od_law_holds, .func (PySem.W.fnOf "_law_holds" "_law_holds" (defArgs s__law_holds) (defBody s__law_holds) (defScope s__law_holds) .none kv_law_holds dc_law_holds pm_law_holds an_law_holds cd_law_holds ct_law_holds), sl_law_holds⟩)
    (c__law_holds : PySem.W.codeIn K cd_law_holds "_law_holds" = true)
    (k__law_holds : PySem.W.keepIn K (.ref f__law_holds) = true)
    (a__law_refusal : PySem.W.nsIn K mainGlobals "_law_refusal" = some (some (.ref f__law_refusal)))
    (l__law_refusal : K.lookup f__law_refusal = some ⟨oc_law_refusal, od_law_refusal, .func (PySem.W.fnOf "_law_refusal" "_law_refusal" (defArgs s__law_refusal) (defBody s__law_refusal) (defScope s__law_refusal) .none kv_law_refusal dc_law_refusal pm_law_refusal an_law_refusal cd_law_refusal ct_law_refusal), sl_law_refusal⟩)
    (c__law_refusal : PySem.W.codeIn K cd_law_refusal "_law_refusal" = true)
    (k__law_refusal : PySem.W.keepIn K (.ref f__law_refusal) = true)
    (a__law_refused : PySem.W.nsIn K mainGlobals "_law_refused" = some (some (.ref f__law_refused)))
    (l__law_refused : K.lookup f__law_refused = some ⟨oc_law_refused, od_law_refused, .func (PySem.W.fnOf "_law_refused" "_law_refused" (defArgs s__law_refused) (defBody s__law_refused) (defScope s__law_refused) .none kv_law_refused dc_law_refused pm_law_refused an_law_refused cd_law_refused ct_law_refused), sl_law_refused⟩)
    (c__law_refused : PySem.W.codeIn K cd_law_refused "_law_refused" = true)
    (k__law_refused : PySem.W.keepIn K (.ref f__law_refused) = true)
    (a_law : PySem.W.nsIn K mainGlobals "law" = some (some (.ref f_law)))
    (l_law : K.lookup f_law = some ⟨oclaw, odlaw, .func (PySem.W.fnOf "law" "law" (defArgs s_law) (defBody s_law) (defScope s_law) .none kvlaw dclaw pmlaw anlaw cdlaw ctlaw), sllaw⟩)
    (c_law : PySem.W.codeIn K cdlaw "law" = true)
    (k_law : PySem.W.keepIn K (.ref f_law) = true)
    (n_len : PySem.W.nsIn K mainGlobals "len" = some none)
    (n_range : PySem.W.nsIn K mainGlobals "range" = some none)
    (n_sum : PySem.W.nsIn K mainGlobals "sum" = some none)
    (n_min : PySem.W.nsIn K mainGlobals "min" = some none)
    (n_sorted : PySem.W.nsIn K mainGlobals "sorted" = some none)
    (n_set : PySem.W.nsIn K mainGlobals "set" = some none)
    (n_isinstance : PySem.W.nsIn K mainGlobals "isinstance" = some none)
    (n_list : PySem.W.nsIn K mainGlobals "list" = some none)
    (n_dict : PySem.W.nsIn K mainGlobals "dict" = some none)
    (n_int : PySem.W.nsIn K mainGlobals "int" = some none)
    (n_tuple : PySem.W.nsIn K mainGlobals "tuple" = some none)
    (n_bool : PySem.W.nsIn K mainGlobals "bool" = some none)
    (v_MOST_WISHES : PySem.W.nsIn K mainGlobals "MOST_WISHES" = some (some (.int 20 t_MOST_WISHES)))
    (v_MOST_STOCK : PySem.W.nsIn K mainGlobals "MOST_STOCK" = some (some (.int 30 t_MOST_STOCK)))
    (v_MOST_BIN : PySem.W.nsIn K mainGlobals "MOST_BIN" = some (some (.int 5 t_MOST_BIN)))
    (v_GREATEST : PySem.W.nsIn K mainGlobals "GREATEST" = some (some (.int 1000000000000000000000000000000000000000000000000000000000000 t_GREATEST)))
    (aM : PySem.W.nsIn K mainGlobals "MeshError" = some (some (.ref CM)))
    (aW : PySem.W.nsIn K mainGlobals "BadWish" = some (some (.ref CW)))
    (qW : PySem.W.excIn K CW [.type "ValueError", .type "Exception", .type "BaseException", .type "object"] "ValueError.__new__" = true)
    (kW : PySem.W.keepIn K (.ref CW) = true)
    (bW : PySem.W.subIn K (.ref CW) (.type "BaseException") = some true)
    (tW : PySem.W.typeIn K (.ref CW) = some (.type "type"))
    (hgW : PySem.W.findIn K (.ref CW) "__getattribute__" = some (some (.builtin "BaseException.__getattribute__")))
    (hkW : PySem.W.findIn K (.ref CW) "__getattr__" = some none)
    (hdW : PySem.W.hasDictIn K CW = true)
    (haW : PySem.W.findIn K (.ref CW) "__class__" = some (some (.builtin "object.__class__")))
    (hmW : PySem.W.mroIn K CW (.type "object") = some true)
    (aS : PySem.W.nsIn K mainGlobals "BadStock" = some (some (.ref CS)))
    (qS : PySem.W.excIn K CS [.type "ValueError", .type "Exception", .type "BaseException", .type "object"] "ValueError.__new__" = true)
    (kS : PySem.W.keepIn K (.ref CS) = true)
    (bS : PySem.W.subIn K (.ref CS) (.type "BaseException") = some true)
    (tS : PySem.W.typeIn K (.ref CS) = some (.type "type"))
    (hgS : PySem.W.findIn K (.ref CS) "__getattribute__" = some (some (.builtin "BaseException.__getattribute__")))
    (hkS : PySem.W.findIn K (.ref CS) "__getattr__" = some none)
    (hdS : PySem.W.hasDictIn K CS = true)
    (haS : PySem.W.findIn K (.ref CS) "__class__" = some (some (.builtin "object.__class__")))
    (hmS : PySem.W.mroIn K CS (.type "object") = some true)
    (hn : PySem.W.specialIn K (.builtin "object.__class__") "__get__" = some (some (.builtin "getset_descriptor.__get__")))
    (ht : PySem.W.takesIn K (.builtin "object.__class__") = some true)
    (bM : PySem.W.subIn K (.ref CM) (.type "BaseException") = some true)
    (tM : PySem.W.typeIn K (.ref CM) = some (.type "type"))
    (hdM : PySem.W.hasDictIn K CM = true)
    (sWM : PySem.W.subIn K (.ref CW) (.ref CM) = some true)
    (sSM : PySem.W.subIn K (.ref CS) (.ref CM) = some true)
    (sWW : PySem.W.subIn K (.ref CW) (.ref CW) = some true)
    (sWS : PySem.W.subIn K (.ref CW) (.ref CS) = some false)
    (sSW : PySem.W.subIn K (.ref CS) (.ref CW) = some false)
    (sSS : PySem.W.subIn K (.ref CS) (.ref CS) = some true) :
    ∃ fd : FuncData, (∀ (s : Shared) (v : Value), BindsTo s fd ⟨[v], []⟩ [("script", v)]) ∧ ∀ base : Heap, K.In base → base.Ns mainGlobals mg → FnOk P w K mg base CX0 25 fa fd ["script"] (spLaw K) := by
  have e := hfa.symm.trans (PySem.W.mg_of X G a_law)
  cases e
  have T : Txt mg := ⟨PySem.W.mg_none_of X G n_len, PySem.W.mg_none_of X G n_range, PySem.W.mg_none_of X G n_sum, PySem.W.mg_none_of X G n_min, PySem.W.mg_none_of X G n_sorted, PySem.W.mg_none_of X G n_set, PySem.W.mg_none_of X G n_isinstance, PySem.W.mg_none_of X G n_list, PySem.W.mg_none_of X G n_dict, PySem.W.mg_none_of X G n_int, PySem.W.mg_none_of X G n_tuple, PySem.W.mg_none_of X G n_bool, ⟨_, PySem.W.mg_of X G v_MOST_WISHES⟩, ⟨_, PySem.W.mg_of X G v_MOST_STOCK⟩, ⟨_, PySem.W.mg_of X G v_MOST_BIN⟩, ⟨_, PySem.W.mg_of X G v_GREATEST⟩⟩
  have D : Defs K mg := ⟨⟨_, _, fun_mk (st := s_in_bounds) l_in_bounds c_in_bounds k_in_bounds, PySem.W.mg_of X G a_in_bounds⟩,
    ⟨_, _, fun_mk (st := s_check_wish) l_check_wish c_check_wish k_check_wish, PySem.W.mg_of X G a_check_wish⟩,
    ⟨_, _, fun_mk (st := s_check_stock) l_check_stock c_check_stock k_check_stock, PySem.W.mg_of X G a_check_stock⟩,
    ⟨_, _, fun_mk (st := s_between) l_between c_between k_between, PySem.W.mg_of X G a_between⟩,
    ⟨_, _, fun_mk (st := s_borders_of) l_borders_of c_borders_of k_borders_of, PySem.W.mg_of X G a_borders_of⟩,
    ⟨_, _, fun_mk (st := s_shut_border) l_shut_border c_shut_border k_shut_border, PySem.W.mg_of X G a_shut_border⟩,
    ⟨_, _, fun_mk (st := s_cheapest_cuts) l_cheapest_cuts c_cheapest_cuts k_cheapest_cuts, PySem.W.mg_of X G a_cheapest_cuts⟩,
    ⟨_, _, fun_mk (st := s_grains_from) l_grains_from c_grains_from k_grains_from, PySem.W.mg_of X G a_grains_from⟩,
    ⟨_, _, fun_mk (st := s_has_one_bin) l_has_one_bin c_has_one_bin k_has_one_bin, PySem.W.mg_of X G a_has_one_bin⟩,
    ⟨_, _, fun_mk (st := s_best_cut) l_best_cut c_best_cut k_best_cut, PySem.W.mg_of X G a_best_cut⟩,
    ⟨_, _, fun_mk (st := s_cut_table) l_cut_table c_cut_table k_cut_table, PySem.W.mg_of X G a_cut_table⟩,
    ⟨_, _, fun_mk (st := s_tree_by) l_tree_by c_tree_by k_tree_by, PySem.W.mg_of X G a_tree_by⟩,
    ⟨_, _, fun_mk (st := s_least_tree) l_least_tree c_least_tree k_least_tree, PySem.W.mg_of X G a_least_tree⟩,
    ⟨_, _, fun_mk (st := s__law_cell_at) l__law_cell_at c__law_cell_at k__law_cell_at, PySem.W.mg_of X G a__law_cell_at⟩,
    ⟨_, _, fun_mk (st := s__law_whole) l__law_whole c__law_whole k__law_whole, PySem.W.mg_of X G a__law_whole⟩,
    ⟨_, _, fun_mk (st := s__law_pair) l__law_pair c__law_pair k__law_pair, PySem.W.mg_of X G a__law_pair⟩,
    ⟨_, _, fun_mk (st := s__law_wish) l__law_wish c__law_wish k__law_wish, PySem.W.mg_of X G a__law_wish⟩,
    ⟨_, _, fun_mk (st := s__law_stock) l__law_stock c__law_stock k__law_stock, PySem.W.mg_of X G a__law_stock⟩,
    ⟨_, _, fun_mk (st := s__law_shut) l__law_shut c__law_shut k__law_shut, PySem.W.mg_of X G a__law_shut⟩,
    ⟨_, _, fun_mk (st := s__law_met) l__law_met c__law_met k__law_met, PySem.W.mg_of X G a__law_met⟩,
    ⟨_, _, fun_mk (st := s__law_is_tree) l__law_is_tree c__law_is_tree k__law_is_tree, PySem.W.mg_of X G a__law_is_tree⟩,
    ⟨_, _, fun_mk (st := s__law_served) l__law_served c__law_served k__law_served, PySem.W.mg_of X G a__law_served⟩,
    ⟨_, _, fun_mk (st := s__law_tree_by) l__law_tree_by c__law_tree_by k__law_tree_by, PySem.W.mg_of X G a__law_tree_by⟩,
    ⟨_, _, fun_mk (st := s__law_bad_wish) l__law_bad_wish c__law_bad_wish k__law_bad_wish, PySem.W.mg_of X G a__law_bad_wish⟩,
    ⟨_, _, fun_mk (st := s__law_bad_stock) l__law_bad_stock c__law_bad_stock k__law_bad_stock, PySem.W.mg_of X G a__law_bad_stock⟩,
    ⟨_, _, fun_mk (st := s__law_bound) l__law_bound c__law_bound k__law_bound, PySem.W.mg_of X G a__law_bound⟩,
    ⟨_, _, fun_mk (st := s__law_sound) l__law_sound c__law_sound k__law_sound, PySem.W.mg_of X G a__law_sound⟩,
    ⟨_, _, fun_mk (st := s__law_work) l__law_work c__law_work k__law_work, PySem.W.mg_of X G a__law_work⟩,
    ⟨_, _, fun_mk (st := s__law_numbers) l__law_numbers c__law_numbers k__law_numbers, PySem.W.mg_of X G a__law_numbers⟩,
    ⟨_, _, fun_mk (st := s__law_holds) l__law_holds c__law_holds k__law_holds, PySem.W.mg_of X G a__law_holds⟩,
    ⟨_, _, fun_mk (st := s__law_refusal) l__law_refusal c__law_refusal k__law_refusal, PySem.W.mg_of X G a__law_refusal⟩,
    ⟨_, _, fun_mk (st := s__law_refused) l__law_refused c__law_refused k__law_refused, PySem.W.mg_of X G a__law_refused⟩,
    ⟨_, _, fun_mk (st := s_law) l_law c_law k_law, PySem.W.mg_of X G a_law⟩⟩
  have cW : ExcCls K mg "BadWish" CW := ⟨PySem.W.mg_of X G aW, qW, kW, bW, tW⟩
  have cS : ExcCls K mg "BadStock" CS := ⟨PySem.W.mg_of X G aS, qS, kS, bS, tS⟩
  have R : RefTxt K CM CW CS := ⟨⟨hgW, hkW, bW, hdW, haW, hn, ht, hmW⟩, ⟨hgS, hkS, bS, hdS, haS, hn, ht, hmS⟩, PySem.W.exm_ref bM hdM tM sWM, PySem.W.exm_ref bM hdM tM sSM, kit_ref hdW tW sWW sWW, kit_ref hdS tS sWS sSS, kit_ref hdW tW sSW sWW, kit_ref hdS tS sSS sSS⟩
  exact ⟨PySem.W.fnOf "law" "law" (defArgs s_law) (defBody s_law) (defScope s_law) .none kvlaw dclaw pmlaw anlaw cdlaw ctlaw, fun s v => .of_eq rfl, fun base _ _ => ok_law T D (PySem.W.mg_of X G aM) cW cS R (fun_mk (st := s_law) l_law c_law k_law)⟩
theorem walk {l : PySem.W.OpenLaw} {q : Program} {loose : List Str} {XP : (Str → Option Value) → Heap → Prop} {YP : World → Heap → Prop} {d : DefRec} {K : Params → PySem.W.Frag} (hn : l.most = some 63) (hdf : d.params.defaults = [])
    (hY : ∀ (w : World) (h : Heap), YP w h → (K w.params).In h)
    (F : ∀ (w : World) (mg : Str → Option Value) (fa : Addr) (h : Heap), (K w.params).In h → h.Ns mainGlobals mg → mg d.name = some (.ref fa) →
      ∃ fd : FuncData, (∀ (s : Shared) (u : Value), BindsTo s fd ⟨[u], []⟩ [("script", u)]) ∧ ∀ base : Heap, (K w.params).In base → base.Ns mainGlobals mg → FnOk l.prog w (K w.params) mg base CX0 25 fa fd ["script"] (spLaw (K w.params))) :
    PySem.W.WalkO q loose XP YP l.row.toRowW d [] (fun f vs => PySem.call f vs) :=
  L2.walk_of (n := 63) (k := 25) (x := "script") (CX := fun _ => CX0) (sp := fun w => spLaw (K w.params)) hn (by decide) hdf ⟨rfl, by decide, by decide⟩ hY F (fun _ _ a ns hl _ hS => ⟨a, ns, rfl, hS, hl, fun _ => rfl⟩) fun _ _ _ _ _ z => z
end K58
open PySem PySem.W PyProof.Rows
set_option Elab.async false
set_option maxRecDepth 100000 in
set_option maxHeartbeats 0 in
theorem PySem.Challenge.cw_meshworks_k58_whole_least_work_holds : PySem.Challenge.rw_meshworks_k58_whole_least_work.Holds := by
  w_on; o_law; k_head; (case hw => w_witness2)
  k_fill
  refine K58.walk (l := PySem.Challenge.rw_meshworks_k58_whole_least_work) rfl rfl (fun w h Y => PySem.W.kIn_of Y) ?F
  case F =>
    intro w mg fa h KX G hmg
    refine' K58.all_mk KX G hmg ?a_in_bounds ?l_in_bounds ?c_in_bounds ?k_in_bounds ?a_check_wish ?l_check_wish ?c_check_wish ?k_check_wish ?a_check_stock ?l_check_stock ?c_check_stock ?k_check_stock ?a_between ?l_between ?c_between ?k_between ?a_borders_of ?l_borders_of ?c_borders_of ?k_borders_of ?a_shut_border ?l_shut_border ?c_shut_border ?k_shut_border ?a_cheapest_cuts ?l_cheapest_cuts ?c_cheapest_cuts ?k_cheapest_cuts ?a_grains_from ?l_grains_from ?c_grains_from ?k_grains_from ?a_has_one_bin ?l_has_one_bin ?c_has_one_bin ?k_has_one_bin ?a_best_cut ?l_best_cut ?c_best_cut ?k_best_cut ?a_cut_table ?l_cut_table ?c_cut_table ?k_cut_table ?a_tree_by ?l_tree_by ?c_tree_by ?k_tree_by ?a_least_tree ?l_least_tree ?c_least_tree ?k_least_tree ?a__law_cell_at ?l__law_cell_at ?c__law_cell_at ?k__law_cell_at ?a__law_whole ?l__law_whole ?c__law_whole ?k__law_whole ?a__law_pair ?l__law_pair ?c__law_pair ?k__law_pair ?a__law_wish ?l__law_wish ?c__law_wish ?k__law_wish ?a__law_stock ?l__law_stock ?c__law_stock ?k__law_stock ?a__law_shut ?l__law_shut ?c__law_shut ?k__law_shut ?a__law_met ?l__law_met ?c__law_met ?k__law_met ?a__law_is_tree ?l__law_is_tree ?c__law_is_tree ?k__law_is_tree ?a__law_served ?l__law_served ?c__law_served ?k__law_served ?a__law_tree_by ?l__law_tree_by ?c__law_tree_by ?k__law_tree_by ?a__law_bad_wish ?l__law_bad_wish ?c__law_bad_wish ?k__law_bad_wish ?a__law_bad_stock ?l__law_bad_stock ?c__law_bad_stock ?k__law_bad_stock ?a__law_bound ?l__law_bound ?c__law_bound ?k__law_bound ?a__law_sound ?l__law_sound ?c__law_sound ?k__law_sound ?a__law_work ?l__law_work ?c__law_work ?k__law_work ?a__law_numbers ?l__law_numbers ?c__law_numbers ?k__law_numbers ?a__law_holds ?l__law_holds ?c__law_holds ?k__law_holds ?a__law_refusal ?l__law_refusal ?c__law_refusal ?k__law_refusal ?a__law_refused ?l__law_refused ?c__law_refused ?k__law_refused ?a_law ?l_law ?c_law ?k_law ?n_len ?n_range ?n_sum ?n_min ?n_sorted ?n_set ?n_isinstance ?n_list ?n_dict ?n_int ?n_tuple ?n_bool ?v_MOST_WISHES ?v_MOST_STOCK ?v_MOST_BIN ?v_GREATEST ?aM ?aW ?qW ?kW ?bW ?tW ?hgW ?hkW ?hdW ?haW ?hmW ?aS ?qS ?kS ?bS ?tS ?hgS ?hkS ?hdS ?haS ?hmS ?hn ?ht ?bM ?tM ?hdM ?sWM ?sSM ?sWW ?sWS ?sSW ?sSS
    (case a_in_bounds => k_is)
    (case l_in_bounds => k_is)
    (case c_in_bounds => k_is)
    (case k_in_bounds => k_is)
    (case a_check_wish => k_is)
    (case l_check_wish => k_is)
    (case c_check_wish => k_is)
    (case k_check_wish => k_is)
    (case a_check_stock => k_is)
    (case l_check_stock => k_is)
    (case c_check_stock => k_is)
    (case k_check_stock => k_is)
    (case a_between => k_is)
    (case l_between => k_is)
    (case c_between => k_is)
    (case k_between => k_is)
    (case a_borders_of => k_is)
    (case l_borders_of => k_is)
    (case c_borders_of => k_is)
    (case k_borders_of => k_is)
    (case a_shut_border => k_is)
    (case l_shut_border => k_is)
    (case c_shut_border => k_is)
    (case k_shut_border => k_is)
    (case a_cheapest_cuts => k_is)
    (case l_cheapest_cuts => k_is)
    (case c_cheapest_cuts => k_is)
    (case k_cheapest_cuts => k_is)
    (case a_grains_from => k_is)
    (case l_grains_from => k_is)
    (case c_grains_from => k_is)
    (case k_grains_from => k_is)
    (case a_has_one_bin => k_is)
    (case l_has_one_bin => k_is)
    (case c_has_one_bin => k_is)
    (case k_has_one_bin => k_is)
    (case a_best_cut => k_is)
    (case l_best_cut => k_is)
    (case c_best_cut => k_is)
    (case k_best_cut => k_is)
    (case a_cut_table => k_is)
    (case l_cut_table => k_is)
    (case c_cut_table => k_is)
    (case k_cut_table => k_is)
    (case a_tree_by => k_is)
    (case l_tree_by => k_is)
    (case c_tree_by => k_is)
    (case k_tree_by => k_is)
    (case a_least_tree => k_is)
    (case l_least_tree => k_is)
    (case c_least_tree => k_is)
    (case k_least_tree => k_is)
    (case a__law_cell_at => k_is)
    (case l__law_cell_at => k_is)
    (case c__law_cell_at => k_is)
    (case k__law_cell_at => k_is)
    (case a__law_whole => k_is)
    (case l__law_whole => k_is)
    (case c__law_whole => k_is)
    (case k__law_whole => k_is)
    (case a__law_pair => k_is)
    (case l__law_pair => k_is)
    (case c__law_pair => k_is)
    (case k__law_pair => k_is)
    (case a__law_wish => k_is)
    (case l__law_wish => k_is)
    (case c__law_wish => k_is)
    (case k__law_wish => k_is)
    (case a__law_stock => k_is)
    (case l__law_stock => k_is)
    (case c__law_stock => k_is)
    (case k__law_stock => k_is)
    (case a__law_shut => k_is)
    (case l__law_shut => k_is)
    (case c__law_shut => k_is)
    (case k__law_shut => k_is)
    (case a__law_met => k_is)
    (case l__law_met => k_is)
    (case c__law_met => k_is)
    (case k__law_met => k_is)
    (case a__law_is_tree => k_is)
    (case l__law_is_tree => k_is)
    (case c__law_is_tree => k_is)
    (case k__law_is_tree => k_is)
    (case a__law_served => k_is)
    (case l__law_served => k_is)
    (case c__law_served => k_is)
    (case k__law_served => k_is)
    (case a__law_tree_by => k_is)
    (case l__law_tree_by => k_is)
    (case c__law_tree_by => k_is)
    (case k__law_tree_by => k_is)
    (case a__law_bad_wish => k_is)
    (case l__law_bad_wish => k_is)
    (case c__law_bad_wish => k_is)
    (case k__law_bad_wish => k_is)
    (case a__law_bad_stock => k_is)
    (case l__law_bad_stock => k_is)
    (case c__law_bad_stock => k_is)
    (case k__law_bad_stock => k_is)
    (case a__law_bound => k_is)
    (case l__law_bound => k_is)
    (case c__law_bound => k_is)
    (case k__law_bound => k_is)
    (case a__law_sound => k_is)
    (case l__law_sound => k_is)
    (case c__law_sound => k_is)
    (case k__law_sound => k_is)
    (case a__law_work => k_is)
    (case l__law_work => k_is)
    (case c__law_work => k_is)
    (case k__law_work => k_is)
    (case a__law_numbers => k_is)
    (case l__law_numbers => k_is)
    (case c__law_numbers => k_is)
    (case k__law_numbers => k_is)
    (case a__law_holds => k_is)
    (case l__law_holds => k_is)
    (case c__law_holds => k_is)
    (case k__law_holds => k_is)
    (case a__law_refusal => k_is)
    (case l__law_refusal => k_is)
    (case c__law_refusal => k_is)
    (case k__law_refusal => k_is)
    (case a__law_refused => k_is)
    (case l__law_refused => k_is)
    (case c__law_refused => k_is)
    (case k__law_refused => k_is)
    (case a_law => k_is)
    (case l_law => k_is)
    (case c_law => k_is)
    (case k_law => k_is)
    (case n_len => k_is)
    (case n_range => k_is)
    (case n_sum => k_is)
    (case n_min => k_is)
    (case n_sorted => k_is)
    (case n_set => k_is)
    (case n_isinstance => k_is)
    (case n_list => k_is)
    (case n_dict => k_is)
    (case n_int => k_is)
    (case n_tuple => k_is)
    (case n_bool => k_is)
    (case v_MOST_WISHES => k_is)
    (case v_MOST_STOCK => k_is)
    (case v_MOST_BIN => k_is)
    (case v_GREATEST => k_is)
    (case aM => k_is)
    (case aW => k_is)
    (case qW => k_exc)
    (case kW => k_is)
    (case bW => k_is)
    (case tW => k_is)
    (case hgW => k_is)
    (case hkW => k_is)
    (case hdW => k_is)
    (case haW => k_is)
    (case hmW => k_is)
    (case aS => k_is)
    (case qS => k_exc)
    (case kS => k_is)
    (case bS => k_is)
    (case tS => k_is)
    (case hgS => k_is)
    (case hkS => k_is)
    (case hdS => k_is)
    (case haS => k_is)
    (case hmS => k_is)
    (case hn => k_is)
    (case ht => k_is)
    (case bM => k_is)
    (case tM => k_is)
    (case hdM => k_is)
    (case sWM => k_is)
    (case sSM => k_is)
    (case sWW => first | rfl | k_is)
    (case sWS => k_is)
    (case sSW => k_is)
    (case sSS => first | rfl | k_is)
