import PyProof.Rows.All
import Wide.All
import OpenK.AllK
import Wide.FinOn
import HandS.ForMost
import HandS.ForExc
import HandS.IsInst
import HandS.Conv
import HandS.Deep
import HandS.Dict
import HandS.Iter
import HandS.Wide
import HandS.Head0
import HandS.Head1
import HandS.Head2
import HandS.HeadEnd
import HandS.HeadHook1
import HandS.SortKw
import KE.DatumOrd
import HandS.RevTup
import HandS.Rev
import HandS.Style
import HandS.Zip
import KE.GoesMore
import HandS.ExcIs
import HandS.ExcCtx
import HandS.HotCalls
import PyProof.EnumIter
import PyProof.Rows.TupIter
import PySem.Challenge.RW_pairrules_k08_texts_refused
set_option Elab.async false
set_option linter.all false
set_option maxRecDepth 100000
/-! The pure layer: data, abstract environments, what an expression computes. -/
namespace PL
open PySem PySem.Spec PyProof.Rows L2
variable {K : PySem.W.Frag}

abbrev D := PyData
theorem nr {α : Type} {a b : α} (h : a = b) : a = b := h
inductive Rs (α : Type) where
  | ok (a : α)
  | ex (c : Str)
  | no
def Rs.bind {α β : Type} (r : Rs α) (f : α → Rs β) : Rs β := match r with
  | .ok a => f a
  | .ex c => .ex c
  | .no => .no
@[simp] theorem Rs.bind_ok {α β : Type} (a : α) (f : α → Rs β) : (Rs.ok a).bind f = f a := nr rfl
@[simp] theorem Rs.bind_ex {α β : Type} (c : Str) (f : α → Rs β) : (Rs.ex c : Rs α).bind f = .ex c := nr rfl
@[simp] theorem Rs.bind_no {α β : Type} (f : α → Rs β) : (Rs.no : Rs α).bind f = .no := nr rfl
/-- a slot: nothing known, data that stands still, a list of one's own -/
inductive Sl where
  | un
  | im (d : D)
  | ow (ds : List D)
  | dk (kvs : List (List L2.Key × Int))
  | nl (dss : List (List D))
def Sl.own : Sl → Bool
  | .ow _ => true
  | .dk _ => true
  | .nl _ => true
  | _ => false
def Sl.isNl : Sl → Bool
  | .nl _ => true
  | _ => false
abbrev Rho := List Sl
def scalar : D → Bool
  | .none => true
  | .bool _ => true
  | .int _ => true
  | .str _ => true
  | _ => false

/-! ### heaps -/
structure Ext (B H B' H' : Hp) : Prop where
  b : Same B B'
  h : Same H H'
  s : Same B' H'
  f : ∀ a, B a = none → H a ≠ none → B' a = none ∨ ∃ xs, B' a = some (.tup xs)
theorem Ext.refl {B H : Hp} (s : Same B H) : Ext B H B H := ⟨.refl _, .refl _, s, fun _ h _ => .inl h⟩
theorem Same.some {H H' : Hp} (e : Same H H') {a : Addr} (h : H a ≠ none) : H' a ≠ none := by
  cases q : H a with
  | none => exact absurd q h
  | some o => rw [e a o q]; exact fun z => nomatch z
theorem Ext.trans {B H B1 H1 B2 H2 : Hp} (x : Ext B H B1 H1) (y : Ext B1 H1 B2 H2) : Ext B H B2 H2 :=
  ⟨x.b.trans y.b, x.h.trans y.h, y.s, fun a h1 h2 => by
    rcases x.f a h1 h2 with q | ⟨xs, q⟩
    · exact y.f a q (Same.some x.h h2)
    · exact .inr ⟨xs, y.b a _ q⟩⟩
/-- what stands and is no tuple does not come in -/
theorem Ext.out {B H B' H' : Hp} (x : Ext B H B' H') {a : Addr} {o : HO} (h1 : B a = none) (h2 : H a = some o) (h3 : ∀ xs, o ≠ .tup xs) : B' a = none := by
  rcases x.f a h1 (by rw [h2]; exact fun z => nomatch z) with q | ⟨xs, q⟩
  · exact q
  · have e := x.s a _ q
    rw [x.h a _ h2] at e
    exact absurd (Option.some.inj e) (h3 xs)
theorem Ext.same {B H H' : Hp} (s : Same B H) (h : Same H H') : Ext B H B H' := ⟨.refl _, h, s.trans h, fun _ h _ => .inl h⟩
/-- a new object -/
theorem Ext.new {B H : Hp} {p : Addr} {o : HO} (s : Same B H) (hp : H p = none) : Ext B H (upd B p o) (upd H p o) := by
  have bp : B p = none := s.free hp
  refine ⟨fun a u e => ?_, fun a u e => ?_, fun a u e => ?_, fun a h1 h2 => ?_⟩
  · rw [upd_ne (ne_of_none e bp)]; exact e
  · rw [upd_ne (ne_of_none e hp)]; exact e
  · by_cases q : a = p
    · subst q; rw [upd_same] at e ⊢; exact e
    · rw [upd_ne q] at e ⊢; exact s a u e
  · by_cases q : a = p
    · subst q; exact absurd hp h2
    · rw [upd_ne q]; exact .inl h1
/-- the script: a list that may be a written one -/
def scrD (ns : List Int) : D := .dict ((.none, .none) :: ns.map fun n => (.none, .int n))
/-- a dict whose keys are tuples of numbers and texts -/
def keyD : L2.Key → D
  | .inl i => .int i
  | .inr s => .str s
def ivs (kvs : List (List L2.Key × Int)) : List (List L2.Key × V) := kvs.map fun p => (p.1, .int p.2)
def dctD (kvs : List (List L2.Key × Int)) : D := .dict ((.bool true, .none) :: kvs.map fun p => (.tuple (p.1.map keyD), .int p.2))
/-! data that stands in the abstract heap -/
mutual
inductive Dq (K : PySem.W.Frag) (H : Hp) : V → D → Prop
  | non : Dq K H .non .none
  | bl (b : Bool) : Dq K H (.bl b) (.bool b)
  | int (i : Int) : Dq K H (.int i) (.int i)
  | str (x : Str) : Dq K H (.str x) (.str x)
  | lst {a : Addr} {xs : List V} {ds : List D} : Rd H a (.lst xs) → DqAll K H xs ds → Dq K H (.ref a) (.list ds)
  | tup {a : Addr} {xs : List V} {ds : List D} : H a = some (.tup xs) → DqAll K H xs ds → Dq K H (.ref a) (.tuple ds)
  | emp {a : Addr} : H a = some (.dK []) → Dq K H (.ref a) (.dict [])
  | scr {a : Addr} {ns : List Int} : SqL K H a (ns.map V.int) → Dq K H (.ref a) (scrD ns)
  | dct {a : Addr} {kvs : List (List L2.Key × Int)} : H a = some (.dT (ivs kvs)) → Dq K H (.ref a) (dctD kvs)
inductive DqAll (K : PySem.W.Frag) (H : Hp) : List V → List D → Prop
  | nil : DqAll K H [] []
  | cons {v : V} {vs : List V} {d : D} {ds : List D} : Dq K H v d → DqAll K H vs ds → DqAll K H (v :: vs) (d :: ds)
end
theorem Same.rd {H H' : Hp} {a : Addr} {u : HO} (e : Same H H') (h : Rd H a u) : Rd H' a u := by
  rcases h with h | ⟨o, h⟩
  · exact .inl (e _ _ h)
  · exact .inr ⟨o, e _ _ h⟩
mutual
theorem dq_mono {H H' : Hp} (e : Same H H') : ∀ (d : D) (v : V), Dq K H v d → Dq K H' v d
  | .none, _, h => by cases h; exact .non
  | .bool b, _, h => by cases h; exact .bl b
  | .int i, _, h => by cases h; exact .int i
  | .str x, _, h => by cases h; exact .str x
  | .list ds, _, h => by
    cases h with
    | lst hs ha => exact .lst (Same.rd e hs) (dqAll_mono e ds _ ha)
  | .tuple ds, _, h => by
    cases h with
    | tup hs ha => exact .tup (e _ _ hs) (dqAll_mono e ds _ ha)
  | .dict _, _, h => by
    cases h with
    | emp h => exact .emp (e _ _ h)
    | scr h => exact .scr (e.seq h)
    | dct h => exact .dct (e _ _ h)
theorem dqAll_mono {H H' : Hp} (e : Same H H') : ∀ (ds : List D) (vs : List V), DqAll K H vs ds → DqAll K H' vs ds
  | [], _, h => by cases h; exact .nil
  | d :: ds, _, h => by
    cases h with
    | cons h1 h2 => exact .cons (dq_mono e d _ h1) (dqAll_mono e ds _ h2)
end
mutual
theorem dq_dp {K : PySem.W.Frag} {H : Hp} : ∀ (d : D) (v : V), Dq K H v d → (SeqAt.shaped d = true ∨ True) → d.canLay0 = true → Dp K H v d
  | .none, _, h, _, _ => by cases h; exact .non
  | .bool b, _, h, _, _ => by cases h; exact .bl b
  | .int i, _, h, _, _ => by cases h; exact .int i
  | .str x, _, h, _, _ => by cases h; exact .str x
  | .list ds, _, h, _, c => by
    cases h with
    | lst hs ha => exact .lst (.inl hs) (dqAll_dp ds _ ha (by simpa [PyData.canLay0] using c))
  | .tuple ds, _, h, _, c => by
    cases h with
    | tup hs ha => exact .tup (.inl (.of hs)) (dqAll_dp ds _ ha (by simpa [PyData.canLay0] using c))
  | .dict _, _, h, _, c => by simp [PyData.canLay0] at c
theorem dqAll_dp {K : PySem.W.Frag} {H : Hp} : ∀ (ds : List D) (vs : List V), DqAll K H vs ds → PyData.canLayAll0 ds = true → DpAll K H vs ds
  | [], _, h, _ => by cases h; exact .nil
  | d :: ds, _, h, c => by
    cases h with
    | cons h1 h2 => exact .cons (dq_dp d _ h1 (.inr trivial) (by simp [PyData.canLayAll0] at c; exact c.1)) (dqAll_dp ds _ h2 (by simp [PyData.canLayAll0] at c; exact c.2))
end
theorem Dq.up {H H' : Hp} {d : D} {v : V} (h : Dq K H v d) (e : Same H H') : Dq K H' v d := dq_mono e d v h
theorem DqAll.up {H H' : Hp} {d : List D} {v : List V} (h : DqAll K H v d) (e : Same H H') : DqAll K H' v d := dqAll_mono e d v h
theorem dq_scalar {H H' : Hp} {d : D} {v : V} (h : Dq K H v d) (s : scalar d = true) : Dq K H' v d := by
  cases h with
  | non => exact .non
  | bl b => exact .bl b
  | int i => exact .int i
  | str x => exact .str x
  | lst _ _ => cases s
  | tup _ _ => cases s
  | emp _ => cases s
  | scr _ => cases s
  | dct _ => cases s
section
variable {H : Hp}
theorem DqAll.length : ∀ {vs : List V} {ds : List D}, DqAll K H vs ds → vs.length = ds.length
  | _, _, .nil => rfl
  | _, _, .cons _ t => by rw [List.length_cons, List.length_cons, DqAll.length t]
theorem DqAll.get : ∀ {vs : List V} {ds : List D} {i : Nat} {d : D}, DqAll K H vs ds → ds[i]? = some d → ∃ v, vs[i]? = some v ∧ Dq K H v d
  | _, _, _, _, .nil, e => by simp at e
  | _, _, 0, _, .cons r _, e => by simp at e; subst e; exact ⟨_, rfl, r⟩
  | _, _, i + 1, d, .cons _ t, e => by
    obtain ⟨u, h1, h2⟩ := DqAll.get (i := i) (d := d) t (by simpa using e)
    exact ⟨u, by simpa using h1, h2⟩
theorem DqAll.getV : ∀ {vs : List V} {ds : List D} {i : Nat} {v : V}, DqAll K H vs ds → vs[i]? = some v → ∃ d, ds[i]? = some d ∧ Dq K H v d
  | _, _, _, _, .nil, e => by simp at e
  | _, _, 0, _, .cons r _, e => by simp at e; subst e; exact ⟨_, rfl, r⟩
  | _, _, i + 1, d, .cons _ t, e => by
    obtain ⟨u, h1, h2⟩ := DqAll.getV (i := i) (v := d) t (by simpa using e)
    exact ⟨u, by simpa using h1, h2⟩
theorem DqAll.append : ∀ {vs ws : List V} {ds es : List D}, DqAll K H vs ds → DqAll K H ws es → DqAll K H (vs ++ ws) (ds ++ es)
  | _, _, _, _, .nil, s => s
  | _, _, _, _, .cons r t, s => .cons r (DqAll.append t s)
theorem DqAll.set {x : V} {d : D} (r : Dq K H x d) : ∀ {vs : List V} {ds : List D} (i : Nat), DqAll K H vs ds → DqAll K H (vs.set i x) (ds.set i d)
  | _, _, _, .nil => .nil
  | _, _, 0, .cons _ t => .cons r t
  | _, _, i + 1, .cons q t => .cons q (DqAll.set r i t)
theorem DqAll.take : ∀ {xs : List V} {us : List D} (n : Nat), DqAll K H xs us → DqAll K H (xs.take n) (us.take n)
  | _, _, 0, _ => .nil
  | _, _, _ + 1, .nil => .nil
  | _, _, n + 1, .cons r t => .cons r (DqAll.take n t)
theorem DqAll.drop : ∀ {xs : List V} {us : List D} (n : Nat), DqAll K H xs us → DqAll K H (xs.drop n) (us.drop n)
  | _, _, 0, r => r
  | _, _, _ + 1, .nil => .nil
  | _, _, n + 1, .cons _ t => DqAll.drop n t
theorem DqAll.reverse : ∀ {xs : List V} {us : List D}, DqAll K H xs us → DqAll K H xs.reverse us.reverse
  | _, _, .nil => .nil
  | _, _, .cons r t => by rw [List.reverse_cons, List.reverse_cons]; exact DqAll.append (DqAll.reverse t) (.cons r .nil)
theorem DqAll.dropLast {xs : List V} {us : List D} (h : DqAll K H xs us) : DqAll K H xs.dropLast us.dropLast := by
  rw [List.dropLast_eq_take, List.dropLast_eq_take, DqAll.length h]
  exact DqAll.take _ h
theorem DqAll.rep {xs : List V} {us : List D} (h : DqAll K H xs us) : ∀ k : Nat, DqAll K H (List.replicate k xs).flatten (List.replicate k us).flatten
  | 0 => .nil
  | k + 1 => by
    rw [List.replicate_succ, List.replicate_succ, List.flatten_cons, List.flatten_cons]
    exact DqAll.append h (DqAll.rep h k)
end

/-! ### environments -/
/-- lists of one's own within a list of one's own -/
structure InL (K : PySem.W.Frag) (H He B : Hp) (ls : List Addr) (dss : List (List D)) : Prop where
  n : ls.length = dss.length
  nd : ls.Nodup
  at_ : ∀ (i : Nat) (a : Addr) (ds : List D), ls[i]? = some a → dss[i]? = some ds → ∃ vs, H a = some (.lst vs) ∧ DqAll K B vs ds ∧ He a = none ∧ B a = none
theorem InL.mem {K : PySem.W.Frag} {H He B : Hp} {ls : List Addr} {dss : List (List D)} (h : InL K H He B ls dss) {a : Addr} (ha : a ∈ ls) : ∃ vs ds, H a = some (.lst vs) ∧ DqAll K B vs ds ∧ He a = none ∧ B a = none := by
  obtain ⟨i, hi⟩ := List.mem_iff_getElem?.mp ha
  have h1 := (List.getElem?_eq_some_iff.mp hi).1
  have h2 : i < dss.length := by rw [← h.n]; exact h1
  obtain ⟨vs, q⟩ := h.at_ i a dss[i] hi (List.getElem?_eq_getElem h2)
  exact ⟨vs, _, q⟩
def SlV (K : PySem.W.Frag) (He B H : Hp) (o : Option (Option V)) : Sl → Prop
  | .un => True
  | .im d => ∃ v, o = some (some v) ∧ Dq K B v d
  | .ow ds => ∃ l vs, o = some (some (.ref l)) ∧ H l = some (.lst vs) ∧ DqAll K B vs ds ∧ He l = none ∧ B l = none
  | .dk kvs => ∃ l, o = some (some (.ref l)) ∧ H l = some (.dT (ivs kvs)) ∧ He l = none ∧ B l = none
  | .nl dss => ∃ l ls, o = some (some (.ref l)) ∧ H l = some (.lst (ls.map V.ref)) ∧ He l = none ∧ B l = none ∧ l ∉ ls ∧ InL K H He B ls dss
/-- two names of dicts stand for two dicts -/
def NK (σ : L2.St) (ρ : Rho) : Prop := ∀ (i j : Nat) (ds es : List (List L2.Key × Int)), ρ[i]? = some (.dk ds) → ρ[j]? = some (.dk es) → σ[i]? = σ[j]? → i = j
/-- lists within lists stand apart from all else that is one's own -/
def NN (H : Hp) (σ : L2.St) (ρ : Rho) : Prop := ∀ (i j : Nat) (dss : List (List D)) (s : Sl), ρ[i]? = some (.nl dss) → ρ[j]? = some s → s.own = true → i ≠ j →
  s.isNl = false ∧ ∀ (l b : Addr) (ls : List Addr), σ[i]? = some (some (.ref l)) → H l = some (.lst (ls.map V.ref)) → σ[j]? = some (some (.ref b)) → b ≠ l ∧ b ∉ ls
structure Ev (K : PySem.W.Frag) (Be He B H : Hp) (σ : L2.St) (ρ : Rho) : Prop where
  eb : Same Be He
  be : Same Be B
  bm : ∀ a o, B a = some o → H a = some o ∧ (He a = none ∨ Be a ≠ none ∨ ∃ xs, o = .tup xs)
  he : Same He H
  len : σ.length = ρ.length
  sl : ∀ (i : Nat) (s : Sl), ρ[i]? = some s → SlV K He B H σ[i]? s
  nd : ∀ (i j : Nat) (ds es : List D), ρ[i]? = some (.ow ds) → ρ[j]? = some (.ow es) → σ[i]? = σ[j]? → i = j
  nk : NK σ ρ
  nn : NN H σ ρ
theorem ref_inj : ∀ {xs ys : List Addr}, xs.map V.ref = ys.map V.ref → xs = ys
  | [], [], _ => rfl
  | [], _ :: _, h => by cases h
  | _ :: _, [], h => by cases h
  | x :: xs, y :: ys, h => by
    rw [List.map_cons, List.map_cons] at h
    have h1 := (List.cons.inj h).1
    have h2 := ref_inj (List.cons.inj h).2
    cases h1; rw [h2]
section
variable {Be He B H B' H' : Hp} {σ : L2.St} {ρ : Rho}
theorem Ev.bh (e : Ev K Be He B H σ ρ) : Same B H := fun a o h => (e.bm a o h).1
theorem Ev.up (e : Ev K Be He B H σ ρ) (x : Ext B H B' H') : Ev K Be He B' H' σ ρ := by
  refine ⟨e.eb, e.be.trans x.b, fun a o h => ⟨x.s a o h, ?_⟩, e.he.trans x.h, e.len, fun i s hs => ?_, e.nd, e.nk, fun i j dss s h1 h2 h3 h4 => ?_⟩
  rotate_left 2
  · obtain ⟨n1, n2⟩ := e.nn i j dss s h1 h2 h3 h4
    refine ⟨n1, fun l b ls g1 g2 g3 => ?_⟩
    obtain ⟨l', ls', k1, k2, _⟩ := e.sl i _ h1
    rw [g1] at k1
    cases k1
    have k3 := x.h _ _ k2
    rw [g2] at k3
    have k4 : ls = ls' := ref_inj (by injection k3 with e; injection e)
    subst k4
    exact n2 l b ls g1 k2 g3
  · cases q : B a with
    | some u =>
      have z := x.b a u q
      rw [h] at z
      cases z
      exact (e.bm a _ q).2
    | none =>
      by_cases hh : H a = none
      · exact .inl (e.he.free hh)
      · rcases x.f a q hh with z | ⟨xs, z⟩
        · rw [z] at h; cases h
        · rw [z] at h; cases h; exact .inr (.inr ⟨xs, rfl⟩)
  · have r := e.sl i s hs
    cases s with
    | un => trivial
    | im d => obtain ⟨v, h1, h2⟩ := r; exact ⟨v, h1, Dq.up h2 x.b⟩
    | ow ds =>
      obtain ⟨l, vs, h1, h2, h3, h4, h5⟩ := r
      exact ⟨l, vs, h1, x.h l _ h2, DqAll.up h3 x.b, h4, x.out h5 h2 fun xs e => by cases e⟩
    | dk kvs =>
      obtain ⟨l, h1, h2, h4, h5⟩ := r
      exact ⟨l, h1, x.h l _ h2, h4, x.out h5 h2 fun xs e => by cases e⟩
    | nl dss =>
      obtain ⟨l, ls, h1, h2, h4, h5, h6, h7⟩ := r
      refine ⟨l, ls, h1, x.h l _ h2, h4, x.out h5 h2 (fun xs e => by cases e), h6, h7.n, h7.nd, fun i a ds q1 q2 => ?_⟩
      obtain ⟨vs, z1, z2, z3, z4⟩ := h7.at_ i a ds q1 q2
      exact ⟨vs, x.h _ _ z1, z2.up x.b, z3, x.out z4 z1 fun xs e => by cases e⟩
/-- all that is not the caller's -/
def isTu : Option HO → Bool
  | some (.tup _) => true
  | _ => false
def Mx (Be He H : Hp) : Hp := fun a => if (He a).isSome = true ∧ Be a = none ∧ isTu (H a) = false then none else H a
theorem Mx.same : Same (Mx Be He H) H := fun a o h => by
  unfold Mx at h
  split at h
  · cases h
  · exact h
theorem Mx.of {a : Addr} {o : HO} (h : H a = some o) (c : He a = none ∨ Be a ≠ none ∨ ∃ xs, o = .tup xs) : Mx Be He H a = some o := by
  unfold Mx
  rw [if_neg ?_]
  · exact h
  · rintro ⟨h1, h2, h3⟩
    rcases c with c | c | ⟨xs, c⟩
    · rw [c] at h1; cases h1
    · exact c h2
    · subst c; rw [h] at h3; cases h3
theorem Ev.mx (e : Ev K Be He B H σ ρ) : Same B (Mx Be He H) := fun a o h => Mx.of (e.bm a o h).1 (e.bm a o h).2
/-- the lists of one's own at the slots t -/
def own (t : List Nat) (σ : L2.St) (a : Addr) : Bool := t.any fun i => decide (σ[i]? = some (some (.ref a)))
def Ba (t : List Nat) (σ : L2.St) (B H : Hp) : Hp := fun a => if own t σ a = true then H a else B a
def frzT (t : List Nat) (ρ : Rho) : Rho := match t with
  | [] => ρ
  | i :: r => match (frzT r ρ)[i]? with
    | some (.ow ds) => (frzT r ρ).set i (.im (.list ds))
    | _ => frzT r ρ
/-- t are slots of lists of one's own -/
def OwT (ρ : Rho) (t : List Nat) : Prop := ∀ i, i ∈ t → ∃ ds, ρ[i]? = some (.ow ds)
theorem OwT.nil : OwT ρ [] := fun _ h => by cases h
theorem OwT.app {s t : List Nat} (a : OwT ρ s) (b : OwT ρ t) : OwT ρ (s ++ t) := fun i h => (List.mem_append.mp h).elim (a i) (b i)
theorem own_nil {a : Addr} : own [] σ a = false := rfl
theorem Ba_nil : Ba [] σ B H = B := rfl
theorem own_app {s t : List Nat} {a : Addr} : own (s ++ t) σ a = (own s σ a || own t σ a) := List.any_append
theorem Ev.own_at (e : Ev K Be He B H σ ρ) {t : List Nat} (ot : OwT ρ t) {a : Addr} (h : own t σ a = true) : He a = none ∧ B a = none ∧ H a ≠ none := by
  obtain ⟨i, hi, q⟩ := List.any_eq_true.mp h
  have q := of_decide_eq_true q
  obtain ⟨ds, hd⟩ := ot i hi
  obtain ⟨l, vs, h1, h2, h3, h4, h5⟩ := e.sl i _ hd
  rw [h1] at q
  cases q
  exact ⟨h4, h5, by rw [h2]; exact fun z => nomatch z⟩
theorem Ev.ba_h (e : Ev K Be He B H σ ρ) {t : List Nat} : Same (Ba t σ B H) H := fun a o h => by
  unfold Ba at h
  split at h
  · exact h
  · exact e.bh a o h
theorem Ev.b_ba (e : Ev K Be He B H σ ρ) {t : List Nat} (ot : OwT ρ t) : Same B (Ba t σ B H) := fun a o h => by
  unfold Ba
  split
  · exact e.bh a o h
  · exact h
theorem Ev.ba_mx (e : Ev K Be He B H σ ρ) {t : List Nat} (ot : OwT ρ t) : Same (Ba t σ B H) (Mx Be He H) := fun a o h => by
  have hh := e.ba_h (t := t) a o h
  unfold Ba at h
  split at h
  · rename_i w
    exact Mx.of hh (.inl (e.own_at ot w).1)
  · exact Mx.of hh (e.bm a o h).2
theorem Ba.mono {s t : List Nat} {H1 : Hp} (h : Same H H1) (b : Same B B') (bh : Same B H) (hs : ∀ a, own s σ a = true → own t σ a = true) (bn : ∀ a, own t σ a = true → own s σ a = false → B a = none) : Same (Ba s σ B H) (Ba t σ B' H1) := fun a o q => by
  unfold Ba at q ⊢
  split at q
  · rename_i w
    rw [if_pos (hs a w)]
    exact h a o q
  · rename_i w
    split
    · rename_i w2
      rw [bn a w2 (by simpa using w)] at q
      cases q
    · exact b a o q
/-- a value that may be one of the lists at t, or hold them -/
def DV (K : PySem.W.Frag) (σ : L2.St) (B H : Hp) (t : List Nat) (v : V) (d : D) : Prop := Dq K (Ba t σ B H) v d
def DVs (K : PySem.W.Frag) (σ : L2.St) (B H : Hp) (t : List Nat) (v : List V) (d : List D) : Prop := DqAll K (Ba t σ B H) v d
theorem Ev.ba_up (e : Ev K Be He B H σ ρ) (x : Ext B H B' H') {s t : List Nat} (ot : OwT ρ t) (hs : ∀ a, own s σ a = true → own t σ a = true) : Same (Ba s σ B H) (Ba t σ B' H') :=
  Ba.mono x.h x.b e.bh hs fun a w _ => (e.own_at ot w).2.1
end

/-! ### readings -/
section
variable (K) (mg : Str → Option Value) (E : XK)
def XW (c : Str) (He : Hp) : Prop := ∀ C H', mg c = some (.ref C) → Same He H' → E (.ref C) none H'
abbrev TD := D × List Nat
def Dn (He B H : Hp) (σ : L2.St) (r : Rs TD) (Q : VK) : Prop := match r with
  | .ok (d, t) => ∀ v B' H', Ext B H B' H' → DV K σ B' H' t v d → Q v H'
  | .ex c => XW mg E c He
  | .no => False
def tD (m : Rho → Rs TD) : TE := fun σ H Q => ∃ Be He B ρ, Ev K Be He B H σ ρ ∧ Dn K mg E He B H σ (m ρ) Q
def DnA (He B H : Hp) (σ : L2.St) (r : Rs (List D × List Nat)) (Q : List V → Hp → Prop) : Prop := match r with
  | .ok (ds, t) => ∀ vs B' H', Ext B H B' H' → DVs K σ B' H' t vs ds → Q vs H'
  | .ex c => XW mg E c He
  | .no => False
def tDA (m : Rho → Rs (List D × List Nat)) : TA := fun σ H Q => ∃ Be He B ρ, Ev K Be He B H σ ρ ∧ DnA K mg E He B H σ (m ρ) Q
def DnT (He B H : Hp) (r : Rs Bool) (Q : Bool → Hp → Prop) : Prop := match r with
  | .ok b => ∀ B' H', Ext B H B' H' → Q b H'
  | .ex c => XW mg E c He
  | .no => False
def tDT (m : Rho → Rs Bool) : TT := fun σ H Q => ∃ Be He B ρ, Ev K Be He B H σ ρ ∧ DnT mg E He B H (m ρ) Q
end
def Tnt (m : Rho → Rs TD) : Prop := ∀ ρ d t, m ρ = .ok (d, t) → OwT ρ t
def TntA (m : Rho → Rs (List D × List Nat)) : Prop := ∀ ρ d t, m ρ = .ok (d, t) → OwT ρ t
structure DE (X : Cx) (E : XK) (e : Expr) (m : Rho → Rs TD) : Prop where
  pe : PE X e (tD X.K X.mg E m)
  tn : Tnt m
structure DA (X : Cx) (E : XK) (es : List Expr) (m : Rho → Rs (List D × List Nat)) : Prop where
  pa : PA X es (tDA X.K X.mg E m)
  tn : TntA m
def DT (X : Cx) (E : XK) (e : Expr) (m : Rho → Rs Bool) : Prop := PT X e (tDT X.K X.mg E m)
def DW (X : Cx) (E : XK) (e : Expr) (m : Rho → Rs Bool) : Prop := PW X e (tDT X.K X.mg E m)
theorem pe_wk {X : Cx} {e : Expr} {t t' : TE} (h : PE X e t) (w : ∀ σ H Q, t' σ H Q → t σ H Q) : PE X e t' := ⟨fun pins s σ H Q I q => h.run pins s σ H Q I (w σ H Q q)⟩
theorem pa_wk {X : Cx} {e : List Expr} {t t' : TA} (h : PA X e t) (w : ∀ σ H Q, t' σ H Q → t σ H Q) : PA X e t' := ⟨fun pos pins s σ H Q I q => h.run pos pins s σ H Q I (w σ H Q q)⟩
theorem pt_wk {X : Cx} {e : Expr} {t t' : TT} (h : PT X e t) (w : ∀ σ H Q, t' σ H Q → t σ H Q) : PT X e t' := ⟨fun pins s σ H Q I q => h.run pins s σ H Q I (w σ H Q q)⟩
theorem pw_wk {X : Cx} {e : Expr} {t t' : TT} (h : PW X e t) (w : ∀ σ H Q, t' σ H Q → t σ H Q) : PW X e t' := ⟨fun wh pins s σ H Q I q => h.run wh pins s σ H Q I (w σ H Q q)⟩
theorem ps_wk {X : Cx} {e : Stmt} {t t' : TS} (h : PS X e t) (w : ∀ D σ H, t' D σ H → t D σ H) : PS X e t' := ⟨fun pins s σ H Q I q => h.run pins s σ H Q I (w Q σ H q)⟩
theorem pss_wk {X : Cx} {e : List Stmt} {t t' : TS} (h : PSs X e t) (w : ∀ D σ H, t' D σ H → t D σ H) : PSs X e t' := ⟨fun pins s σ H Q I q => h.run pins s σ H Q I (w Q σ H q)⟩
end PL

set_option Elab.async false
set_option linter.all false
set_option maxRecDepth 100000
set_option maxHeartbeats 1000000
namespace PL
open PySem PySem.Spec PyProof.Rows L2
variable {K : PySem.W.Frag}
section
variable {X : Cx} {E : XK} {e a b : Expr} {es : List Expr} {pos p : Pos} {m ma mb : Rho → Rs TD} {ms : Rho → Rs (List D × List Nat)}

/-! ### names, constants -/
def mV (i : Nat) : Rho → Rs TD := fun ρ => match ρ[i]? with
  | some (.im d) => .ok (d, [])
  | some (.ow ds) => .ok (.list ds, [i])
  | _ => .no
theorem Ba_own {t : List Nat} {σ : L2.St} {B H : Hp} {a : Addr} (h : own t σ a = true) : Ba t σ B H a = H a := by unfold Ba; rw [if_pos h]
theorem own_one {i : Nat} {σ : L2.St} {l : Addr} (h : σ[i]? = some (some (.ref l))) : own [i] σ l = true := by
  unfold own; simp [h]
theorem ev_var {Be He B H : Hp} {σ : L2.St} {ρ : Rho} (ev : Ev K Be He B H σ ρ) {i : Nat} {d : D} {t : List Nat} (h : mV i ρ = .ok (d, t)) : ∃ v, σ[i]? = some (some v) ∧ DV K σ B H t v d ∧ OwT ρ t := by
  unfold mV at h
  split at h
  · rename_i d' hd
    cases h
    obtain ⟨v, h1, h2⟩ := ev.sl i _ hd
    exact ⟨v, h1, h2, .nil⟩
  · rename_i ds hd
    cases h
    obtain ⟨l, vs, h1, h2, h3, h4, h5⟩ := ev.sl i _ hd
    refine ⟨_, h1, .lst (Rd.of ((Ba_own (own_one h1)).trans h2)) (DqAll.up h3 (ev.b_ba ?_)), ?_⟩ <;>
    · intro j hj
      have e : j = i := by simpa using hj
      subst e
      exact ⟨ds, hd⟩
  · cases h
theorem mV_tn (i : Nat) : Tnt (mV i) := fun ρ d t h => by
  unfold mV at h
  split at h
  · cases h; exact .nil
  · rename_i ds hd
    cases h
    intro j hj
    have e : j = i := by simpa using hj
    subst e
    exact ⟨ds, hd⟩
  · cases h
theorem mV_ex {i : Nat} {ρ : Rho} {c : Str} (h : mV i ρ = .ex c) : False := by
  unfold mV at h
  split at h <;> cases h
theorem dv (i : Nat) {x : Str} {pos : Pos} (hN : X.N[i]? = some x := by rfl) (hv : Vis X.env.scope x := by first | exact Or.inl rfl | exact Or.inr (Or.inl rfl) | exact Or.inr (Or.inr rfl)) (hd : (x == ("__debug__" : Str)) = false := by decide)
    (hcd : (x == ("__classdict__" : Str)) = false := by decide) : DE X E (.Name x pos) (mV i) := by
  refine ⟨pe_wk (pe_var hN hv hd hcd) fun σ H Q h => ?_, mV_tn i⟩
  obtain ⟨Be, He, B, ρ, ev, h⟩ := h
  cases r : mV i ρ with
  | no => rw [r] at h; exact h.elim
  | ex c => exact (mV_ex r).elim
  | ok q =>
    obtain ⟨d, t⟩ := q
    rw [r] at h
    obtain ⟨v, h1, h2, h3⟩ := ev_var ev r
    exact ⟨v, h1, h v B H (.refl ev.bh) h2⟩
def mC (d : D) : Rho → Rs TD := fun _ => .ok (d, [])
theorem mC_tn (d : D) : Tnt (mC d) := fun ρ d' t h => by cases h; exact .nil
theorem de_c {v : V} {d : D} (h : PE X e (tC v)) (hv : ∀ H, Dq X.K H v d) : DE X E e (mC d) := by
  refine ⟨pe_wk h fun σ H Q h => ?_, mC_tn d⟩
  obtain ⟨Be, He, B, ρ, ev, h⟩ := h
  exact h v B H (.refl ev.bh) (hv _)
theorem de_int {i j pos} : DE X E (.Constant (.int i) j pos) (mC (.int i)) := de_c pe_int fun _ => .int i
theorem de_bl {b j pos} : DE X E (.Constant (.bool b) j pos) (mC (.bool b)) := de_c pe_bl fun _ => .bl b
theorem de_non {j pos} : DE X E (.Constant .none j pos) (mC .none) := de_c pe_non fun _ => .non
theorem de_str {x j pos} : DE X E (.Constant (.str x) j pos) (mC (.str x)) := de_c pe_str fun _ => .str x
/-- a module's whole number, text -/
theorem de_gint {x : Str} {i : Int} {t : Tok} (hg : Gl X x) (hm : X.mg x = some (.int i t)) (hd : (x == ("__debug__" : Str)) = false := by decide) : DE X E (.Name x pos) (mC (.int i)) := de_c (v := .int i) (pe_glob hg hm ⟨t, rfl⟩ hd) fun _ => .int i
theorem de_gstr {x z : Str} {t : Tok} (hg : Gl X x) (hm : X.mg x = some (.str z t)) (hd : (x == ("__debug__" : Str)) = false := by decide) : DE X E (.Name x pos) (mC (.str z)) := de_c (v := .str z) (pe_glob hg hm ⟨t, rfl⟩ hd) fun _ => .str z

/-! ### argument lists -/
def mNil : Rho → Rs (List D × List Nat) := fun _ => .ok ([], [])
def mCons (m : Rho → Rs TD) (ms : Rho → Rs (List D × List Nat)) : Rho → Rs (List D × List Nat) := fun ρ => (m ρ).bind fun q => (ms ρ).bind fun r => .ok (q.1 :: r.1, q.2 ++ r.2)
theorem da_nil : DA X E [] mNil := by
  refine ⟨pa_wk pa_nil fun σ H Q h => ?_, fun ρ d t h => by cases h; exact .nil⟩
  obtain ⟨Be, He, B, ρ, ev, h⟩ := h
  exact h [] B H (.refl ev.bh) .nil
theorem mCons_ok {ρ : Rho} {ds : List D} {t : List Nat} (h : mCons m ms ρ = .ok (ds, t)) : ∃ d1 t1 d2 t2, m ρ = .ok (d1, t1) ∧ ms ρ = .ok (d2, t2) ∧ ds = d1 :: d2 ∧ t = t1 ++ t2 := by
  unfold mCons at h
  cases r1 : m ρ with
  | no => rw [r1] at h; cases h
  | ex c => rw [r1] at h; cases h
  | ok q1 =>
    rw [r1] at h
    cases r2 : ms ρ with
    | no => rw [r2] at h; cases h
    | ex c => rw [r2] at h; cases h
    | ok q2 => rw [r2] at h; cases h; exact ⟨_, _, _, _, rfl, rfl, rfl, rfl⟩
theorem own_l {s t : List Nat} {σ : L2.St} {a : Addr} (h : own s σ a = true) : own (s ++ t) σ a = true := by rw [own_app, h]; rfl
theorem own_r {s t : List Nat} {σ : L2.St} {a : Addr} (h : own t σ a = true) : own (s ++ t) σ a = true := by rw [own_app, h, Bool.or_true]
theorem da_cons (ha : DE X E e m) (hr : DA X E es ms) (hs : starEach (e :: es) X.env = (false, eval e X.env) :: starEach es X.env := by rfl) : DA X E (e :: es) (mCons m ms) := by
  refine ⟨pa_wk (pa_cons ha.pe hr.pa hs) fun σ H Q h => ?_, fun ρ d t h => ?_⟩
  · obtain ⟨Be, He, B, ρ, ev, h⟩ := h
    refine ⟨Be, He, B, ρ, ev, ?_⟩
    unfold mCons at h
    cases r1 : m ρ with
    | no => rw [r1] at h; exact h
    | ex c => rw [r1] at h; exact h
    | ok q1 =>
      obtain ⟨d1, t1⟩ := q1
      rw [r1] at h
      intro v1 B1 H1 x1 dv1
      have ev1 := ev.up x1
      refine ⟨Be, He, B1, ρ, ev1, ?_⟩
      cases r2 : ms ρ with
      | no => rw [r2] at h; exact h
      | ex c => rw [r2] at h; exact h
      | ok q2 =>
        obtain ⟨d2, t2⟩ := q2
        rw [r2] at h
        intro v2 B2 H2 x2 dv2
        have ot1 := ha.tn ρ _ _ r1
        have ot2 := hr.tn ρ _ _ r2
        refine h _ B2 H2 (x1.trans x2) (.cons (Dq.up dv1 (ev1.ba_up x2 (ot1.app ot2) fun a w => own_l w)) (DqAll.up dv2 ((ev1.up x2).ba_up (.refl (ev1.up x2).bh) (ot1.app ot2) fun a w => own_r w)))
  · obtain ⟨d1, t1, d2, t2, r1, r2, e1, e2⟩ := mCons_ok h
    subst e1; subst e2
    exact (ha.tn ρ _ _ r1).app (hr.tn ρ _ _ r2)

/-! ### an operation on data -/
def DnF (K : PySem.W.Frag) (B H : Hp) (r : Option D) (Q : VK) : Prop := match r with
  | some d => ∀ v B' H', Ext B H B' H' → Dq K B' v d → Q v H'
  | none => False
def OpOk (K : PySem.W.Frag) (r : List V → Hp → VK → Prop) (F : List D → Option D) : Prop := ∀ B vs ds H Q, Same B H → DqAll K B vs ds → DnF K B H (F ds) Q → r vs H Q
mutual
/-- no list within -/
def flatD : D → Bool
  | .none => true
  | .bool _ => true
  | .int _ => true
  | .str _ => true
  | .tuple ds => flatAll ds
  | .list _ => false
  | .dict _ => false
def flatAll : List D → Bool
  | [] => true
  | d :: ds => flatD d && flatAll ds
end
def minus (b : Addr → Bool) (H : Hp) : Hp := fun a => if b a = true then none else H a
theorem minus_rd {b : Addr → Bool} {B H : Hp} (s : Same B H) (hb : ∀ a, b a = true → ∃ vs, H a = some (.lst vs)) {a : Addr} {xs : List V} (h : Rd B a (.tup xs)) : Rd (minus b B) a (.tup xs) := by
  have key : ∀ o, B a = some o → (∀ vs, o ≠ .lst vs) → minus b B a = some o := fun o q n => by
    unfold minus
    by_cases w : b a = true
    · obtain ⟨vs, e⟩ := hb a w
      rw [s a o q] at e
      cases e
      exact absurd rfl (n vs)
    · rw [if_neg w]; exact q
  rcases h with h | ⟨o, h⟩
  · exact .inl (key _ h fun vs e => by cases e)
  · exact .inr ⟨o, key _ h fun vs e => by cases e⟩
theorem minus_tu {b : Addr → Bool} {B H : Hp} (s : Same B H) (hb : ∀ a, b a = true → ∃ vs, H a = some (.lst vs)) {a : Addr} {xs : List V} (h : B a = some (.tup xs)) : minus b B a = some (.tup xs) := by
  unfold minus
  by_cases w : b a = true
  · obtain ⟨vs, e⟩ := hb a w
    rw [s a _ h] at e
    cases e
  · rw [if_neg w]; exact h
mutual
theorem dq_flat {b : Addr → Bool} {B H : Hp} (s : Same B H) (hb : ∀ a, b a = true → ∃ vs, H a = some (.lst vs)) : ∀ (d : D) (v : V), flatD d = true → Dq K B v d → Dq K (minus b B) v d
  | .none, _, _, h => by cases h; exact .non
  | .bool b, _, _, h => by cases h; exact .bl b
  | .int i, _, _, h => by cases h; exact .int i
  | .str x, _, _, h => by cases h; exact .str x
  | .list ds, _, f, _ => by simp [flatD] at f
  | .tuple ds, _, f, h => by
    cases h with
    | tup hs ha => exact .tup (minus_tu s hb hs) (dqAll_flat s hb ds _ (by simpa [flatD] using f) ha)
  | .dict _, _, f, _ => by simp [flatD] at f
theorem dqAll_flat {b : Addr → Bool} {B H : Hp} (s : Same B H) (hb : ∀ a, b a = true → ∃ vs, H a = some (.lst vs)) : ∀ (ds : List D) (vs : List V), flatAll ds = true → DqAll K B vs ds → DqAll K (minus b B) vs ds
  | [], _, _, h => by cases h; exact .nil
  | d :: ds, _, f, h => by
    have f : flatD d = true ∧ flatAll ds = true := by simpa [flatAll] using f
    cases h with
    | cons h1 h2 => exact .cons (dq_flat s hb d _ f.1 h1) (dqAll_flat s hb ds _ f.2 h2)
end
theorem Ev.own_lst {Be He B H : Hp} {σ : L2.St} {ρ : Rho} (e : Ev K Be He B H σ ρ) {t : List Nat} (ot : OwT ρ t) {a : Addr} (h : own t σ a = true) : ∃ vs, H a = some (.lst vs) := by
  obtain ⟨i, hi, q⟩ := List.any_eq_true.mp h
  have q := of_decide_eq_true q
  obtain ⟨ds, hd⟩ := ot i hi
  obtain ⟨l, vs, h1, h2, h3, h4, h5⟩ := e.sl i _ hd
  rw [h1] at q
  cases q
  exact ⟨vs, h2⟩
def keepT (d : D) (t : List Nat) : List Nat := if flatD d = true then [] else t
def fin (t : List Nat) (r : Option D) : Rs TD := match r with
  | some d => .ok (d, keepT d t)
  | none => .no
@[simp] theorem fin_some (t : List Nat) (d : D) : fin t (some d) = .ok (d, keepT d t) := nr rfl
@[simp] theorem fin_none (t : List Nat) : fin t none = .no := nr rfl
theorem keepT_own {ρ : Rho} {d : D} {t : List Nat} (h : OwT ρ t) : OwT ρ (keepT d t) := by
  unfold keepT
  split
  · exact .nil
  · exact h
theorem fin_ok {t t' : List Nat} {r : Option D} {d : D} (h : fin t r = .ok (d, t')) : r = some d ∧ t' = keepT d t := by
  unfold fin at h
  cases r with
  | none => cases h
  | some x => cases h; exact ⟨rfl, rfl⟩
/-- behind the arguments: the operation's result in the caller's terms -/
theorem fin_run {mg : Str → Option Value} {Be He B H B1 H1 : Hp} {σ : L2.St} {ρ : Rho} {t : List Nat} {Q : VK} (ev : Ev K Be He B H σ ρ) (x : Ext B H B1 H1) (ot : OwT ρ t) {d : D}
    (h : Dn K mg E He B H σ (.ok (d, keepT d t)) Q) : ∀ v B2 H2, Ext (Ba t σ B1 H1) H1 B2 H2 → Dq K B2 v d → Q v H2 := by
  intro v B2 H2 x2 dv
  have ev1 := ev.up x
  have bt : ∀ a o, B1 a = some o → Ba t σ B1 H1 a = some o := fun a o q => ev1.b_ba ot a o q
  let B' : Hp := fun a => if own t σ a = true then none else B2 a
  have x3 : Ext B H B' H2 := by
    refine ⟨fun a o q => ?_, x.h.trans x2.h, fun a o q => ?_, fun a q1 q2 => ?_⟩
    · have q1 := x.b a o q
      have q2 := x2.b a o (bt a o q1)
      show (if own t σ a = true then none else B2 a) = some o
      split
      · rename_i w
        rw [(ev1.own_at ot w).2.1] at q1; cases q1
      · exact q2
    · have q : (if own t σ a = true then none else B2 a) = some o := q
      split at q
      · cases q
      · exact x2.s a o q
    · show (if own t σ a = true then none else B2 a) = none ∨ ∃ xs, (if own t σ a = true then none else B2 a) = some (.tup xs)
      by_cases w : own t σ a = true
      · rw [if_pos w]; exact .inl rfl
      · rw [if_neg w]
        have eb : Ba t σ B1 H1 a = B1 a := by unfold Ba; rw [if_neg w]
        rcases x.f a q1 q2 with z | ⟨xs, z⟩
        · exact x2.f a (eb.trans z) (Same.some x.h q2)
        · exact .inr ⟨xs, x2.b a _ (eb.trans z)⟩
  refine h v B' H2 x3 ?_
  by_cases hs : flatD d = true
  · have e : keepT d t = [] := by unfold keepT; rw [if_pos hs]
    unfold DV
    rw [e, Ba_nil]
    exact dq_flat (b := own t σ) x2.s (fun a w => by
      obtain ⟨vs, q⟩ := ev1.own_lst ot w
      exact ⟨vs, x2.h a _ q⟩) d v hs dv
  · have e : keepT d t = t := by unfold keepT; rw [if_neg hs]
    unfold DV
    rw [e]
    refine Dq.up dv fun a o q => ?_
    unfold Ba
    split
    · exact x2.s a o q
    · rename_i w
      show (if own t σ a = true then none else B2 a) = some o
      rw [if_neg w]; exact q
theorem ba_same {Be He B H : Hp} {σ : L2.St} {ρ : Rho} (ev : Ev K Be He B H σ ρ) {t : List Nat} : Same (Ba t σ B H) H := ev.ba_h
/-- arguments, then an operation -/
def mF (F : List D → Option D) (ms : Rho → Rs (List D × List Nat)) : Rho → Rs TD := fun ρ => (ms ρ).bind fun q => fin q.2 (F q.1)
theorem mF_tn {F : List D → Option D} (h : TntA ms) : Tnt (mF F ms) := fun ρ d t q => by
  unfold mF at q
  cases r : ms ρ with
  | no => rw [r] at q; cases q
  | ex c => rw [r] at q; cases q
  | ok x =>
    rw [r] at q
    obtain ⟨_, e⟩ := fin_ok q
    subst e
    exact keepT_own (h ρ _ _ r)
theorem args_op {F : List D → Option D} {r : List V → Hp → VK → Prop} (tn : TntA ms) (ho : OpOk X.K r F) {σ : L2.St} {H : Hp} {Q : VK} (h : tD X.K X.mg E (mF F ms) σ H Q) : tDA X.K X.mg E ms σ H fun vs H1 => r vs H1 Q := by
  obtain ⟨Be, He, B, ρ, ev, h⟩ := h
  refine ⟨Be, He, B, ρ, ev, ?_⟩
  unfold mF at h
  cases r1 : ms ρ with
  | no => rw [r1] at h; exact h
  | ex c => rw [r1] at h; exact h
  | ok q1 =>
    obtain ⟨ds, t⟩ := q1
    rw [r1] at h
    intro vs B1 H1 x1 dvs
    have ot := tn ρ _ _ r1
    refine ho (Ba t σ B1 H1) vs ds H1 Q (ev.up x1).ba_h dvs ?_
    dsimp only [Rs.bind] at h
    cases rF : F ds with
    | none => rw [rF] at h; exact h
    | some d =>
      rw [rF] at h
      exact fin_run ev x1 ot h
end
end PL

set_option Elab.async false
set_option linter.all false
set_option maxRecDepth 100000
set_option maxHeartbeats 1000000
namespace PL
open PySem PySem.Spec PyProof.Rows L2
variable {K : PySem.W.Frag}

/-! ### operators -/
def Op2Ok (K : PySem.W.Frag) (r : R2) (F : D → D → Option D) : Prop := ∀ B x y d e H Q, Same B H → Dq K B x d → Dq K B y e → DnF K B H (F d e) Q → r x y H Q
theorem Op2Ok.or_l {r r' : R2} {F : D → D → Option D} (h : Op2Ok K r F) : Op2Ok K (fun x y H Q => r x y H Q ∨ r' x y H Q) F := fun B x y d e H Q a b c q => .inl (h B x y d e H Q a b c q)
def mB (F : D → D → Option D) (ma mb : Rho → Rs TD) : Rho → Rs TD := fun ρ => (ma ρ).bind fun q => (mb ρ).bind fun r => fin (q.2 ++ r.2) (F q.1 r.1)
theorem mB_tn {F : D → D → Option D} {ma mb : Rho → Rs TD} (ha : Tnt ma) (hb : Tnt mb) : Tnt (mB F ma mb) := fun ρ d t q => by
  unfold mB at q
  cases r : ma ρ with
  | no => rw [r] at q; cases q
  | ex c => rw [r] at q; cases q
  | ok x =>
    cases r2 : mb ρ with
    | no => rw [r, r2] at q; cases q
    | ex c => rw [r, r2] at q; cases q
    | ok y =>
      rw [r, r2] at q
      obtain ⟨_, e⟩ := fin_ok q
      subst e
      exact keepT_own ((ha ρ _ _ r).app (hb ρ _ _ r2))
section
variable {X : Cx} {E : XK} {e a b c : Expr} {es : List Expr} {pos p : Pos} {m ma mb mc : Rho → Rs TD} {ms : Rho → Rs (List D × List Nat)} {mt mu : Rho → Rs Bool}
theorem two_op {mg : Str → Option Value} {F : D → D → Option D} {r : R2} (tna : Tnt ma) (tnb : Tnt mb) (ho : Op2Ok K r F) {σ : L2.St} {H : Hp} {Q : VK} (h : tD K mg E (mB F ma mb) σ H Q) : tOp r (tD K mg E ma) (tD K mg E mb) σ H Q := by
  obtain ⟨Be, He, B, ρ, ev, h⟩ := h
  refine ⟨Be, He, B, ρ, ev, ?_⟩
  unfold mB at h
  cases r1 : ma ρ with
  | no => rw [r1] at h; exact h
  | ex c => rw [r1] at h; exact h
  | ok q1 =>
    obtain ⟨d, t⟩ := q1
    rw [r1] at h
    intro v B1 H1 x1 dv1
    have ev1 := ev.up x1
    refine ⟨Be, He, B1, ρ, ev1, ?_⟩
    cases r2 : mb ρ with
    | no => rw [r2] at h; exact h
    | ex c => rw [r2] at h; exact h
    | ok q2 =>
      obtain ⟨e, u⟩ := q2
      rw [r2] at h
      intro w B2 H2 x2 dv2
      have ev2 := ev1.up x2
      have ot1 := tna ρ _ _ r1
      have ot2 := tnb ρ _ _ r2
      refine ho (Ba (t ++ u) σ B2 H2) v w d e H2 Q ev2.ba_h (Dq.up dv1 (ev1.ba_up x2 (ot1.app ot2) fun a w => own_l w)) (Dq.up dv2 (ev2.ba_up (.refl ev2.bh) (ot1.app ot2) fun a w => own_r w)) ?_
      dsimp only [Rs.bind] at h
      cases rF : F d e with
      | none => rw [rF] at h; exact h
      | some z =>
        rw [rF] at h
        exact fin_run ev (x1.trans x2) (ot1.app ot2) h
theorem de_op {op : Operator} {r : R2} {F : D → D → Option D} (ho : OpR X (binaryOp op) r) (hF : Op2Ok X.K r F) (ha : DE X E a ma) (hb : DE X E b mb) : DE X E (.BinOp a op b pos) (mB F ma mb) :=
  ⟨pe_wk (pe_op ho ha.pe hb.pe) fun σ H Q h => two_op ha.tn hb.tn hF h, mB_tn ha.tn hb.tn⟩
theorem de_cmp {op : CmpOp} {r : R2} {F : D → D → Option D} (ho : OpR X (compareOp op) r) (hF : Op2Ok X.K r F) (ha : DE X E a ma) (hb : DE X E b mb) (hm : behindInMarks op b = false) : DE X E (.Compare a [op] [b] pos) (mB F ma mb) :=
  ⟨pe_wk (pe_cmpR ho ha.pe hb.pe hm) fun σ H Q h => two_op ha.tn hb.tn hF h, mB_tn ha.tn hb.tn⟩
/-- a value as a test -/
def mTv (m : Rho → Rs TD) : Rho → Rs Bool := fun ρ => (m ρ).bind fun q => match q.1 with
  | .bool b => .ok b
  | _ => .no
theorem tst {mg : Str → Option Value} {σ : L2.St} {H : Hp} {Q : Bool → Hp → Prop} (h : tDT K mg E (mTv m) σ H Q) : tD K mg E m σ H fun x H1 => ∃ k, x = V.bl k ∧ Q k H1 := by
  obtain ⟨Be, He, B, ρ, ev, h⟩ := h
  refine ⟨Be, He, B, ρ, ev, ?_⟩
  unfold mTv at h
  cases r1 : m ρ with
  | no => rw [r1] at h; exact h
  | ex c => rw [r1] at h; exact h
  | ok q1 =>
    obtain ⟨d, t⟩ := q1
    rw [r1] at h
    intro v B1 H1 x1 dv
    cases d with
    | bool k =>
      cases dv
      exact ⟨k, rfl, h B1 H1 x1⟩
    | _ => exact h.elim
theorem dt_v (h : DE X E e m) (he : ∀ whole, isTrue e X.env whole = (do let v ← whole; standAt e.pos; holding [v] (truthy v)) := by intro _; rfl) : DT X E e (mTv m) := pt_wk (pt_val h.pe he) fun σ H Q q => tst q
theorem dt_cmp {op : CmpOp} {r : R2} {F : D → D → Option D} (ho : OpR X (compareOp op) r) (hF : Op2Ok X.K r F) (ha : DE X E a ma) (hb : DE X E b mb) (hm : behindInMarks op b = false) : DT X E (.Compare a [op] [b] pos) (mTv (mB F ma mb)) :=
  pt_wk (pt_cmpR ho ha.pe hb.pe hm) fun σ H Q h => two_op ha.tn hb.tn hF (tst h)
def mTnot (t : Rho → Rs Bool) : Rho → Rs Bool := fun ρ => (t ρ).bind fun c => .ok (!c)
def mTand (t u : Rho → Rs Bool) : Rho → Rs Bool := fun ρ => (t ρ).bind fun c => if c = true then u ρ else .ok false
def mTor (t u : Rho → Rs Bool) : Rho → Rs Bool := fun ρ => (t ρ).bind fun c => if c = true then .ok true else u ρ
theorem dt_not (h : DT X E a mt) : DT X E (.UnaryOp .Not a pos) (mTnot mt) := pt_wk (pt_not h) fun σ H Q h => by
  obtain ⟨Be, He, B, ρ, ev, h⟩ := h
  refine ⟨Be, He, B, ρ, ev, ?_⟩
  unfold mTnot at h
  cases r1 : mt ρ with
  | no => rw [r1] at h; exact h
  | ex c => rw [r1] at h; exact h
  | ok c => rw [r1] at h; exact h
theorem dw_and1 (h : DT X E a mt) : DW X E (.BoolOp .And [a] pos) mt := pw_and1 h
theorem dw_or1 (h : DT X E a mt) : DW X E (.BoolOp .Or [a] pos) mt := pw_or1 h
theorem dw_and {rest : List Expr} (h : DT X E a mt) (hb : DW X E (.BoolOp .And (b :: rest) pos) mu) : DW X E (.BoolOp .And (a :: b :: rest) pos) (mTand mt mu) := pw_wk (pw_and h hb) fun σ H Q h => by
  obtain ⟨Be, He, B, ρ, ev, h⟩ := h
  refine ⟨Be, He, B, ρ, ev, ?_⟩
  unfold mTand at h
  cases r1 : mt ρ with
  | no => rw [r1] at h; exact h
  | ex c => rw [r1] at h; exact h
  | ok c =>
    rw [r1] at h
    intro B1 H1 x1
    cases c with
    | true =>
      refine iteT ⟨Be, He, B1, ρ, ev.up x1, ?_⟩
      dsimp only [Rs.bind] at h
      rw [if_pos rfl] at h
      cases r2 : mu ρ with
      | no => rw [r2] at h; exact h
      | ex c => rw [r2] at h; exact h
      | ok c => rw [r2] at h; exact fun B2 H2 x2 => h B2 H2 (x1.trans x2)
    | false => exact iteF (h B1 H1 x1)
theorem dw_or {rest : List Expr} (h : DT X E a mt) (hb : DW X E (.BoolOp .Or (b :: rest) pos) mu) : DW X E (.BoolOp .Or (a :: b :: rest) pos) (mTor mt mu) := pw_wk (pw_or h hb) fun σ H Q h => by
  obtain ⟨Be, He, B, ρ, ev, h⟩ := h
  refine ⟨Be, He, B, ρ, ev, ?_⟩
  unfold mTor at h
  cases r1 : mt ρ with
  | no => rw [r1] at h; exact h
  | ex c => rw [r1] at h; exact h
  | ok c =>
    rw [r1] at h
    intro B1 H1 x1
    cases c with
    | false =>
      refine iteF ⟨Be, He, B1, ρ, ev.up x1, ?_⟩
      dsimp only [Rs.bind] at h
      rw [if_neg Bool.false_ne_true] at h
      cases r2 : mu ρ with
      | no => rw [r2] at h; exact h
      | ex c => rw [r2] at h; exact h
      | ok c => rw [r2] at h; exact fun B2 H2 x2 => h B2 H2 (x1.trans x2)
    | true => exact iteT (h B1 H1 x1)
theorem dw_t (h : DW X E a mt) : DT X E a mt := PW.pt h
/-- and, or, not as values -/
def mAnd (ma mb : Rho → Rs TD) : Rho → Rs TD := fun ρ => (ma ρ).bind fun q => match q.1 with
  | .bool true => mb ρ
  | .bool false => .ok (.bool false, [])
  | _ => .no
def mOr (ma mb : Rho → Rs TD) : Rho → Rs TD := fun ρ => (ma ρ).bind fun q => match q.1 with
  | .bool false => mb ρ
  | .bool true => .ok (.bool true, [])
  | _ => .no
def mNot (ma : Rho → Rs TD) : Rho → Rs TD := fun ρ => (ma ρ).bind fun q => match q.1 with
  | .bool k => .ok (.bool (!k), [])
  | _ => .no
theorem de_one {op : BoolOp} (h : DE X E a m) : DE X E (.BoolOp op [a] pos) m := ⟨pe_one h.pe, h.tn⟩
theorem de_and {rest : List Expr} (ha : DE X E a ma) (hb : DE X E (.BoolOp .And (b :: rest) pos) mb) : DE X E (.BoolOp .And (a :: b :: rest) pos) (mAnd ma mb) := by
  refine ⟨pe_wk (pe_and ha.pe hb.pe) fun σ H Q h => ?_, fun ρ d t h => ?_⟩
  · obtain ⟨Be, He, B, ρ, ev, h⟩ := h
    refine ⟨Be, He, B, ρ, ev, ?_⟩
    unfold mAnd at h
    cases r1 : ma ρ with
    | no => rw [r1] at h; exact h
    | ex c => rw [r1] at h; exact h
    | ok q =>
      obtain ⟨d, t⟩ := q
      rw [r1] at h
      intro v B1 H1 x1 dv
      cases d with
      | bool k =>
        cases dv
        refine ⟨k, rfl, ?_⟩
        cases k with
        | false => exact iteF (h _ B1 H1 x1 (.bl false))
        | true =>
          refine iteT ⟨Be, He, B1, ρ, ev.up x1, ?_⟩
          dsimp only [Rs.bind] at h
          cases r2 : mb ρ with
          | no => rw [r2] at h; exact h
          | ex c => rw [r2] at h; exact h
          | ok c => obtain ⟨d2, t2⟩ := c; rw [r2] at h; exact fun v2 B2 H2 x2 => h v2 B2 H2 (x1.trans x2)
      | _ => exact h.elim
  · unfold mAnd at h
    cases r1 : ma ρ with
    | no => rw [r1] at h; cases h
    | ex c => rw [r1] at h; cases h
    | ok q =>
      obtain ⟨d', t'⟩ := q
      rw [r1] at h
      dsimp only [Rs.bind] at h
      split at h
      · exact hb.tn ρ _ _ h
      · cases h; exact .nil
      · cases h
theorem de_or {rest : List Expr} (ha : DE X E a ma) (hb : DE X E (.BoolOp .Or (b :: rest) pos) mb) : DE X E (.BoolOp .Or (a :: b :: rest) pos) (mOr ma mb) := by
  refine ⟨pe_wk (pe_or ha.pe hb.pe) fun σ H Q h => ?_, fun ρ d t h => ?_⟩
  · obtain ⟨Be, He, B, ρ, ev, h⟩ := h
    refine ⟨Be, He, B, ρ, ev, ?_⟩
    unfold mOr at h
    cases r1 : ma ρ with
    | no => rw [r1] at h; exact h
    | ex c => rw [r1] at h; exact h
    | ok q =>
      obtain ⟨d, t⟩ := q
      rw [r1] at h
      intro v B1 H1 x1 dv
      cases d with
      | bool k =>
        cases dv
        refine ⟨k, rfl, ?_⟩
        cases k with
        | true => exact iteT (h _ B1 H1 x1 (.bl true))
        | false =>
          refine iteF ⟨Be, He, B1, ρ, ev.up x1, ?_⟩
          dsimp only [Rs.bind] at h
          cases r2 : mb ρ with
          | no => rw [r2] at h; exact h
          | ex c => rw [r2] at h; exact h
          | ok c => obtain ⟨d2, t2⟩ := c; rw [r2] at h; exact fun v2 B2 H2 x2 => h v2 B2 H2 (x1.trans x2)
      | _ => exact h.elim
  · unfold mOr at h
    cases r1 : ma ρ with
    | no => rw [r1] at h; cases h
    | ex c => rw [r1] at h; cases h
    | ok q =>
      obtain ⟨d', t'⟩ := q
      rw [r1] at h
      dsimp only [Rs.bind] at h
      split at h
      · exact hb.tn ρ _ _ h
      · cases h; exact .nil
      · cases h
theorem de_not (ha : DE X E a ma) : DE X E (.UnaryOp .Not a pos) (mNot ma) := by
  refine ⟨pe_wk (pe_not ha.pe) fun σ H Q h => ?_, fun ρ d t h => ?_⟩
  · obtain ⟨Be, He, B, ρ, ev, h⟩ := h
    refine ⟨Be, He, B, ρ, ev, ?_⟩
    unfold mNot at h
    cases r1 : ma ρ with
    | no => rw [r1] at h; exact h
    | ex c => rw [r1] at h; exact h
    | ok q =>
      obtain ⟨d, t⟩ := q
      rw [r1] at h
      intro v B1 H1 x1 dv
      cases d with
      | bool k => cases dv; exact ⟨k, rfl, h _ B1 H1 x1 (.bl _)⟩
      | _ => exact h.elim
  · unfold mNot at h
    cases r1 : ma ρ with
    | no => rw [r1] at h; cases h
    | ex c => rw [r1] at h; cases h
    | ok q =>
      obtain ⟨d', t'⟩ := q
      rw [r1] at h
      dsimp only [Rs.bind] at h
      split at h <;> cases h
      exact .nil
def mIfE (t : Rho → Rs Bool) (ma mb : Rho → Rs TD) : Rho → Rs TD := fun ρ => (t ρ).bind fun c => if c = true then ma ρ else mb ρ
theorem de_if (ht : DT X E c mt) (ha : DE X E a ma) (hb : DE X E b mb) : DE X E (.IfExp c a b pos) (mIfE mt ma mb) := by
  refine ⟨pe_wk (pe_ifExp ht ha.pe hb.pe) fun σ H Q h => ?_, fun ρ d t h => ?_⟩
  · obtain ⟨Be, He, B, ρ, ev, h⟩ := h
    refine ⟨Be, He, B, ρ, ev, ?_⟩
    unfold mIfE at h
    cases r1 : mt ρ with
    | no => rw [r1] at h; exact h
    | ex c => rw [r1] at h; exact h
    | ok k =>
      rw [r1] at h
      intro B1 H1 x1
      cases k with
      | true =>
        refine iteT ⟨Be, He, B1, ρ, ev.up x1, ?_⟩
        dsimp only [Rs.bind] at h
        rw [if_pos rfl] at h
        cases r2 : ma ρ with
        | no => rw [r2] at h; exact h
        | ex c => rw [r2] at h; exact h
        | ok c => obtain ⟨d2, t2⟩ := c; rw [r2] at h; exact fun v2 B2 H2 x2 => h v2 B2 H2 (x1.trans x2)
      | false =>
        refine iteF ⟨Be, He, B1, ρ, ev.up x1, ?_⟩
        dsimp only [Rs.bind] at h
        rw [if_neg Bool.false_ne_true] at h
        cases r2 : mb ρ with
        | no => rw [r2] at h; exact h
        | ex c => rw [r2] at h; exact h
        | ok c => obtain ⟨d2, t2⟩ := c; rw [r2] at h; exact fun v2 B2 H2 x2 => h v2 B2 H2 (x1.trans x2)
  · unfold mIfE at h
    cases r1 : mt ρ with
    | no => rw [r1] at h; cases h
    | ex c => rw [r1] at h; cases h
    | ok k =>
      rw [r1] at h
      dsimp only [Rs.bind] at h
      split at h
      · exact ha.tn ρ _ _ h
      · exact hb.tn ρ _ _ h
/-- a chain of two comparisons -/
def mCh (F G : D → D → Option D) (ma mb mc : Rho → Rs TD) : Rho → Rs TD := fun ρ => (ma ρ).bind fun q => (mb ρ).bind fun r => match F q.1 r.1 with
  | some (.bool true) => (mc ρ).bind fun s => match G r.1 s.1 with
    | some (.bool k) => .ok (.bool k, [])
    | _ => .no
  | some (.bool false) => .ok (.bool false, [])
  | _ => .no
theorem mCh_tn {F G : D → D → Option D} : Tnt (mCh F G ma mb mc) := fun ρ d t h => by
  unfold mCh at h
  cases r1 : ma ρ with
  | no => rw [r1] at h; cases h
  | ex c => rw [r1] at h; cases h
  | ok q1 =>
    cases r2 : mb ρ with
    | no => rw [r1, r2] at h; cases h
    | ex c => rw [r1, r2] at h; cases h
    | ok q2 =>
      rw [r1, r2] at h
      dsimp only [Rs.bind] at h
      split at h
      · cases r3 : mc ρ with
        | no => rw [r3] at h; cases h
        | ex c => rw [r3] at h; cases h
        | ok q3 =>
          rw [r3] at h
          dsimp only at h
          split at h
          · cases h; exact .nil
          · cases h
      · cases h; exact .nil
      · cases h
theorem chain_run {mg : Str → Option Value} {F G : D → D → Option D} {r r' : R2} (tna : Tnt ma) (tnb : Tnt mb) (tnc : Tnt mc) (hF : Op2Ok K r F) (hG : Op2Ok K r' G) {σ : L2.St} {H : Hp} {Q : VK} (h : tD K mg E (mCh F G ma mb mc) σ H Q) :
    tChain r r' (tD K mg E ma) (tD K mg E mb) (tD K mg E mc) σ H Q := by
  obtain ⟨Be, He, B, ρ, ev, h⟩ := h
  refine ⟨Be, He, B, ρ, ev, ?_⟩
  unfold mCh at h
  cases r1 : ma ρ with
  | no => rw [r1] at h; exact h
  | ex c => rw [r1] at h; exact h
  | ok q1 =>
    obtain ⟨d, t⟩ := q1
    rw [r1] at h
    intro v B1 H1 x1 dv1
    have ev1 := ev.up x1
    refine ⟨Be, He, B1, ρ, ev1, ?_⟩
    cases r2 : mb ρ with
    | no => rw [r2] at h; exact h
    | ex c => rw [r2] at h; exact h
    | ok q2 =>
      obtain ⟨e, u⟩ := q2
      rw [r2] at h
      intro w B2 H2 x2 dv2
      have ev2 := ev1.up x2
      have ot1 := tna ρ _ _ r1
      have ot2 := tnb ρ _ _ r2
      refine hF (Ba (t ++ u) σ B2 H2) v w d e H2 _ ev2.ba_h (Dq.up dv1 (ev1.ba_up x2 (ot1.app ot2) fun a w => own_l w)) (Dq.up dv2 (ev2.ba_up (.refl ev2.bh) (ot1.app ot2) fun a w => own_r w)) ?_
      dsimp only [Rs.bind] at h
      cases rF : F d e with
      | none => rw [rF] at h; exact h.elim
      | some z =>
        rw [rF] at h
        intro z' B3 H3 x3 dv3
        have x3' : Ext B2 H2 B2 H3 := .same ev2.bh x3.h
        cases z with
        | bool k =>
          cases dv3
          refine ⟨k, rfl, ?_⟩
          cases k with
          | false => exact iteF (h _ B2 H3 ((x1.trans x2).trans x3') (.bl false))
          | true =>
            refine iteT ⟨Be, He, B2, ρ, ev2.up x3', ?_⟩
            dsimp only at h
            cases r3 : mc ρ with
            | no => rw [r3] at h; exact h
            | ex c => rw [r3] at h; exact h
            | ok q3 =>
              obtain ⟨d3, t3⟩ := q3
              rw [r3] at h
              intro y B4 H4 x4 dv4
              have ev3 := ev2.up x3'
              have ev4 := ev3.up x4
              have ot3 := tnc ρ _ _ r3
              refine hG (Ba (u ++ t3) σ B4 H4) w y e d3 H4 Q ev4.ba_h (Dq.up dv2 (ev2.ba_up (x3'.trans x4) (ot2.app ot3) fun a w => own_l w)) (Dq.up dv4 (ev4.ba_up (.refl ev4.bh) (ot2.app ot3) fun a w => own_r w)) ?_
              dsimp only at h
              cases rG : G e d3 with
              | none => rw [rG] at h; exact h.elim
              | some z2 =>
                rw [rG] at h
                intro z3 B5 H5 x5 dv5
                cases z2 with
                | bool k2 =>
                  cases dv5
                  exact h _ B4 H5 (((x1.trans x2).trans (x3'.trans x4)).trans (.same ev4.bh x5.h)) (.bl k2)
                | _ => exact h.elim
        | _ => exact h.elim
theorem de_chain {op op' : CmpOp} {r r' : R2} {F G : D → D → Option D} (ho : OpR X (compareOp op) r) (hF : Op2Ok X.K r F) (ho' : OpR X (compareOp op') r') (hG : Op2Ok X.K r' G) (ha : DE X E a ma) (hb : DE X E b mb) (hc : DE X E c mc)
    (hm : lastMarks [op, op'] [b, c] = false := by with_unfolding_all rfl) : DE X E (.Compare a [op, op'] [b, c] pos) (mCh F G ma mb mc) :=
  ⟨pe_wk (pe_chain ho ho' ha.pe hb.pe hc.pe hm) fun σ H Q h => chain_run ha.tn hb.tn hc.tn hF hG h, mCh_tn⟩
theorem dt_chain {op op' : CmpOp} {r r' : R2} {F G : D → D → Option D} (ho : OpR X (compareOp op) r) (hF : Op2Ok X.K r F) (ho' : OpR X (compareOp op') r') (hG : Op2Ok X.K r' G) (ha : DE X E a ma) (hb : DE X E b mb) (hc : DE X E c mc)
    (hm : lastMarks [op, op'] [b, c] = false := by with_unfolding_all rfl) : DT X E (.Compare a [op, op'] [b, c] pos) (mTv (mCh F G ma mb mc)) :=
  pt_wk (pt_chain ho ho' ha.pe hb.pe hc.pe hm) fun σ H Q h => chain_run ha.tn hb.tn hc.tn hF hG (tst h)
end
end PL

set_option Elab.async false
set_option linter.all false
set_option maxRecDepth 100000
set_option maxHeartbeats 1000000
namespace PL
open PySem PySem.Spec PyProof.Rows L2
variable {K : PySem.W.Frag}

/-! ### what the operators give -/
def addD : D → D → Option D
  | .int i, .int j => some (.int (i + j))
  | .str x, .str y => if x.length + y.length ≤ sizeLine then some (.str (x ++ y)) else none
  | .list a, .list b => if a.length + b.length ≤ sizeLine then some (.list (a ++ b)) else none
  | _, _ => none
def subD : D → D → Option D
  | .int i, .int j => some (.int (i - j))
  | _, _ => none
def strRep (x : Str) (n : Nat) : Str := ⟨(List.replicate n x.cps.toList).flatten.toArray⟩
def mulD : D → D → Option D
  | .int i, .int j => if (-(2 ^ 64) < i ∧ i < 2 ^ 64) ∨ (-(2 ^ 64) < j ∧ j < 2 ^ 64) then some (.int (i * j)) else none
  | .str x, .int k => if -(2 ^ 63) ≤ k ∧ k < 2 ^ 63 ∧ x.length * k.toNat ≤ sizeLine then some (.str (strRep x k.toNat)) else none
  | _, _ => none
def fdivD : D → D → Option D
  | .int i, .int j => if 0 < j ∧ j < 1073741824 then some (.int (i / j)) else none
  | _, _ => none
def modD : D → D → Option D
  | .int i, .int j => if 0 < j then some (.int (i % j)) else none
  | _, _ => none
def powD : D → D → Option D
  | .int i, .int j => if 0 ≤ j ∧ j ≤ 1000000 ∧ i.natAbs < 2 ^ 64 then some (.int (i ^ j.toNat)) else none
  | _, _ => none
def ltD : D → D → Option D
  | .int i, .int j => some (.bool (decide (i < j)))
  | _, _ => none
def leD : D → D → Option D
  | .int i, .int j => some (.bool (decide (i ≤ j)))
  | _, _ => none
def gtD : D → D → Option D
  | .int i, .int j => some (.bool (decide (j < i)))
  | _, _ => none
def geD : D → D → Option D
  | .int i, .int j => some (.bool (decide (j ≤ i)))
  | _, _ => none
def eqD (d e : D) : Option D := if SeqAt.shaped d = true ∧ SeqAt.shaped e = true then some (.bool (PyData.eqv d e)) else none
def neD (d e : D) : Option D := if SeqAt.shaped d = true ∧ SeqAt.shaped e = true then some (.bool (!PyData.eqv d e)) else none
def isNoneD : D → Bool
  | .none => true
  | _ => false
def isD (d e : D) : Option D := if isNoneD e = true then some (.bool (isNoneD d)) else none
def notIsD (d e : D) : Option D := if isNoneD e = true then some (.bool (!isNoneD d)) else none
def inB : D → D → Option Bool
  | .str c, .str z => match c.cps.toList with
    | [k] => some (decide (k ∈ z.cps.toList))
    | _ => none
  | d, .list ds => if SeqAt.shaped d = true ∧ SeqAt.shaped (.list ds) = true then some (ds.any fun z => PyData.eqv z d) else none
  | d, .tuple ds => if scalar d = true ∧ ds.all scalar = true then some (ds.any fun z => PyData.eqv z d) else none
  | _, _ => none
def inD (d e : D) : Option D := (inB d e).map fun k => .bool k
def notInD (d e : D) : Option D := (inB d e).map fun k => .bool (!k)

theorem some_run {B H : Hp} {d : D} {Q : VK} {v : V} (s : Same B H) (h : DnF K B H (some d) Q) (r : ∀ H', Dq K H' v d) : Q v H := h v B H (.refl s) (r B)
theorem rd_ok {P : Program} {w : World} {H : Hp} {h : Heap} {a : Addr} {xs : List V} (x : HOk P w H h) (r : Rd H a (.lst xs)) : xs.length ≤ sizeLine ∧ ∃ (its : List Value) (n : Nat), Vals xs its ∧ xs.length = its.length ∧ h.get? a = some { cls := .type "list", data := .seq its.toArray n } := by
  obtain ⟨z, its, n, r, e⟩ := r.ok x
  exact ⟨z, its, n, r, r.length, e⟩
def rCatR : R2 := fun x y H Q => ∃ l b xs zs, x = .ref l ∧ y = .ref b ∧ Rd H l (.lst xs) ∧ Rd H b (.lst zs) ∧ xs.length + zs.length ≤ sizeLine ∧ ∀ p, H p = none → Q (.ref p) (upd H p (.lst (xs ++ zs)))
section
variable {X : Cx}
theorem op_catR : OpR X (binaryOp .Add) rCatR := by
  intro pins s σ H x y v u Q I rx ry h
  obtain ⟨l, b, xs, zs, rfl, rfl, hH, hB, hz, q⟩ := h
  cases rx
  cases ry
  obtain ⟨z, its, n, r, hl, e⟩ := rd_ok I.hok hH
  obtain ⟨z2, its2, n2, r2, hl2, e2⟩ := rd_ok I.hok hB
  refine PySem.P.add_list e e2 ?_ (by rw [List.size_toArray, List.size_toArray]; omega)
  have ea : its.toArray ++ its2.toArray = (its ++ its2).toArray := by simp
  rw [ea]
  exact ⟨.ref _, _, I.lnew (t' := s.toks) (r.append r2) (by rw [List.length_append]; omega), rfl, q _ I.fresh⟩
def rAddA : R2 := fun x y H Q => (∃ i j, x = .int i ∧ y = .int j ∧ Q (.int (i + j)) H) ∨ (∃ i j, x = .str i ∧ y = .str j ∧ i.length + j.length ≤ sizeLine ∧ Q (.str (i ++ j)) H) ∨ rCatR x y H Q
theorem op_addA : OpR X (binaryOp .Add) rAddA := op_add.or (op_add_str.or op_catR)
/-- a new list -/
theorem new_list {B H : Hp} {Q : VK} {vs : List V} {ds : List D} (s : Same B H) (h : DnF K B H (some (.list ds)) Q) (dv : DqAll K B vs ds) : ∀ p, H p = none → Q (.ref p) (upd H p (.lst vs)) := fun p hp =>
  h _ _ _ (.new s hp) (.lst (.of upd_same) (DqAll.up dv (Ext.new s hp).b))
theorem new_tup {B H : Hp} {Q : VK} {vs : List V} {ds : List D} (s : Same B H) (h : DnF K B H (some (.tuple ds)) Q) (dv : DqAll K B vs ds) : ∀ p, H p = none → Q (.ref p) (upd H p (.tup vs)) := fun p hp =>
  h _ _ _ (.new s hp) (.tup upd_same (DqAll.up dv (Ext.new s hp).b))
theorem f_add : Op2Ok K rAddA addD := by
  intro B x y d e H Q s hx hy h
  unfold addD at h
  split at h
  · cases hx; cases hy
    exact .inl ⟨_, _, rfl, rfl, some_run s h fun _ => .int _⟩
  · split at h
    · rename_i c
      cases hx; cases hy
      exact .inr (.inl ⟨_, _, rfl, rfl, c, some_run s h fun _ => .str _⟩)
    · exact h.elim
  · split at h
    · rename_i c
      cases hx with
      | lst r1 a1 =>
        cases hy with
        | lst r2 a2 => exact .inr (.inr ⟨_, _, _, _, rfl, rfl, Same.rd s r1, Same.rd s r2, by rw [a1.length, a2.length]; exact c, new_list s h (a1.append a2)⟩)
    · exact h.elim
  · exact h.elim
theorem f_sub : Op2Ok K (rI0 fun i j => .int (i - j)) subD := by
  intro B x y d e H Q s hx hy h
  unfold subD at h
  split at h
  · cases hx; cases hy
    exact ⟨_, _, rfl, rfl, some_run s h fun _ => .int _⟩
  · exact h.elim
def rRepS : R2 := fun x y H Q => ∃ z k, x = .str z ∧ y = .int k ∧ -(2 ^ 63) ≤ k ∧ k < 2 ^ 63 ∧ z.length * k.toNat ≤ sizeLine ∧ Q (.str (strRep z k.toNat)) H
theorem foldl_cps (x : Array Nat) : ∀ (k : Nat) (acc : Array Nat), (List.replicate k x).foldl (· ++ ·) acc = acc ++ (List.replicate k x.toList).flatten.toArray
  | 0, acc => by simp
  | k + 1, acc => by
    rw [List.replicate_succ, List.foldl_cons, foldl_cps x k, List.replicate_succ, List.flatten_cons]
    apply Array.ext'
    simp
theorem op_repS : OpR X (binaryOp .Mult) rRepS := by
  intro pins s σ H x y v u Q I rx ry h
  obtain ⟨z, k, rfl, rfl, h1, h2, hz, q⟩ := h
  obtain ⟨t, rfl⟩ := rx
  obtain ⟨t', rfl⟩ := ry
  have hs : (sizeLine : Nat) = 16777216 := sizeLine_eq
  refine PySem.P.mul_str (by rw [decide_eq_false (by omega), decide_eq_false (by omega)]; rfl) (fun c c2 hgt => ?_) (fun c c2 => ?_) ?_
  · have hk : 0 < k := by omega
    have h3 : (z.length : Int) * k ≤ 16777216 := by
      have e : k = (k.toNat : Int) := by omega
      rw [e, ← Int.natCast_mul]
      omega
    have h4 : (2 ^ 63 - 1 : Int) / k < z.length := hgt
    have h5 : (2 ^ 63 - 1 : Int) < z.length * k := by
      have := Int.ediv_lt_iff_lt_mul (a := 2 ^ 63 - 1) (b := z.length) hk
      exact this.mp h4
    omega
  · unfold Builtin.Str.tooLong
    simp only [decide_eq_false_iff_not]
    omega
  · by_cases c : k < 1
    · rw [if_pos c]
      have e0 : k.toNat = 0 := by omega
      rw [e0] at q
      refine ⟨by decide, .str Str.empty, H, I.tok _, ⟨_, rfl⟩, ?_⟩
      have e : strRep z 0 = Str.empty := rfl
      rw [e] at q; exact q
    · rw [if_neg c]
      by_cases c2 : (k == 1 || z.length == 0) = true
      · rw [if_pos c2]
        have e : strRep z k.toNat = z := by
          simp only [Bool.or_eq_true, beq_iff_eq] at c2
          rcases c2 with c2 | c2
          · subst c2; unfold strRep; simp [List.replicate]
          · have e1 : z.cps = #[] := Array.eq_empty_of_size_eq_zero c2
            unfold strRep
            rw [e1]
            have : ∀ n : Nat, (List.replicate n ([] : List Nat)).flatten = [] := fun n => by induction n with
              | zero => rfl
              | succ n ih => rw [List.replicate_succ, List.flatten_cons, ih]; rfl
            show Str.mk ((List.replicate k.toNat ([] : List Nat)).flatten.toArray) = z
            rw [this]
            obtain ⟨c⟩ := z
            simp only at e1
            rw [e1]
        rw [e] at q
        exact ⟨.str z, H, I, ⟨_, rfl⟩, q⟩
      · rw [if_neg c2]
        have e : (⟨(List.replicate k.toNat z.cps).foldl (· ++ ·) #[]⟩ : Str) = strRep z k.toNat := by
          rw [foldl_cps]; unfold strRep; simp
        rw [e]
        have hl : (strRep z k.toNat).length ≤ sizeLine := by
          have : (strRep z k.toNat).length = k.toNat * z.length := by
            unfold strRep Str.length
            simp [List.length_flatten]
          rw [this, Nat.mul_comm]; exact hz
        exact ⟨hl, .str _, H, I.tok _, ⟨_, rfl⟩, q⟩
def rMulA : R2 := fun x y H Q => (∃ i j, x = .int i ∧ y = .int j ∧ CMul i j ∧ Q (.int (i * j)) H) ∨ rRepS x y H Q
theorem op_mulA : OpR X (binaryOp .Mult) rMulA := op_mul.or op_repS
theorem f_mul : Op2Ok K rMulA mulD := by
  intro B x y d e H Q s hx hy h
  unfold mulD at h
  split at h
  · split at h
    · rename_i c
      cases hx; cases hy
      exact .inl ⟨_, _, rfl, rfl, c, some_run s h fun _ => .int _⟩
    · exact h.elim
  · split at h
    · rename_i c
      cases hx; cases hy
      exact .inr ⟨_, _, rfl, rfl, c.1, c.2.1, c.2.2, some_run s h fun _ => .str _⟩
    · exact h.elim
  · exact h.elim
theorem f_fdiv : Op2Ok K (rI CDiv fun i j => .int (i / j)) fdivD := by
  intro B x y d e H Q s hx hy h
  unfold fdivD at h
  split at h
  · split at h
    · rename_i c
      cases hx; cases hy
      exact ⟨_, _, rfl, rfl, c, some_run s h fun _ => .int _⟩
    · exact h.elim
  · exact h.elim
theorem f_mod : Op2Ok K (rI (fun _ j => 0 < j) fun i j => .int (i % j)) modD := by
  intro B x y d e H Q s hx hy h
  unfold modD at h
  split at h
  · split at h
    · rename_i c
      cases hx; cases hy
      exact ⟨_, _, rfl, rfl, c, some_run s h fun _ => .int _⟩
    · exact h.elim
  · exact h.elim
theorem f_pow : Op2Ok K (rI CPow fun i j => .int (i ^ j.toNat)) powD := by
  intro B x y d e H Q s hx hy h
  unfold powD at h
  split at h
  · split at h
    · rename_i c
      cases hx; cases hy
      exact ⟨_, _, rfl, rfl, c, some_run s h fun _ => .int _⟩
    · exact h.elim
  · exact h.elim
theorem f_lt : Op2Ok K (rI0 fun i j => .bl (decide (i < j))) ltD := by
  intro B x y d e H Q s hx hy h
  unfold ltD at h
  split at h
  · cases hx; cases hy
    exact ⟨_, _, rfl, rfl, some_run s h fun _ => .bl _⟩
  · exact h.elim
theorem f_le : Op2Ok K (rI0 fun i j => .bl (decide (i ≤ j))) leD := by
  intro B x y d e H Q s hx hy h
  unfold leD at h
  split at h
  · cases hx; cases hy
    exact ⟨_, _, rfl, rfl, some_run s h fun _ => .bl _⟩
  · exact h.elim
theorem f_gt : Op2Ok K (rI0 fun i j => .bl (decide (j < i))) gtD := by
  intro B x y d e H Q s hx hy h
  unfold gtD at h
  split at h
  · cases hx; cases hy
    exact ⟨_, _, rfl, rfl, some_run s h fun _ => .bl _⟩
  · exact h.elim
theorem f_ge : Op2Ok K (rI0 fun i j => .bl (decide (j ≤ i))) geD := by
  intro B x y d e H Q s hx hy h
  unfold geD at h
  split at h
  · cases hx; cases hy
    exact ⟨_, _, rfl, rfl, some_run s h fun _ => .bl _⟩
  · exact h.elim
theorem f_eq {K : PySem.W.Frag} : Op2Ok K (rEqD K) eqD := by
  intro B x y d e H Q s hx hy h
  unfold eqD at h
  split at h
  · rename_i c
    exact ⟨d, e, dq_dp d x (Dq.up hx s) (.inr trivial) (PySem.SeqAt.canLay_of_shaped c.1), dq_dp e y (Dq.up hy s) (.inr trivial) (PySem.SeqAt.canLay_of_shaped c.2), c.1, c.2, some_run s h fun _ => .bl _⟩
  · exact h.elim
theorem f_ne {K : PySem.W.Frag} : Op2Ok K (rNeD K) neD := by
  intro B x y d e H Q s hx hy h
  unfold neD at h
  split at h
  · rename_i c
    exact ⟨d, e, dq_dp d x (Dq.up hx s) (.inr trivial) (PySem.SeqAt.canLay_of_shaped c.1), dq_dp e y (Dq.up hy s) (.inr trivial) (PySem.SeqAt.canLay_of_shaped c.2), c.1, c.2, some_run s h fun _ => .bl _⟩
  · exact h.elim
theorem none_of {B : Hp} {x : V} {d : D} (h : Dq K B x d) : decide (x = .non) = isNoneD d := by
  cases h <;> simp [isNoneD, scrD, dctD]
theorem f_is : Op2Ok K (fun x y H Q => y = .non ∧ Q (.bl (decide (x = .non))) H) isD := by
  intro B x y d e H Q s hx hy h
  unfold isD at h
  split at h
  · rename_i c
    cases hy <;> first | exact absurd c Bool.false_ne_true | skip
    refine ⟨rfl, ?_⟩
    rw [none_of hx]
    exact some_run s h fun _ => .bl _
  · exact h.elim
theorem f_isnot : Op2Ok K (fun x y H Q => y = .non ∧ Q (.bl (!decide (x = .non))) H) notIsD := by
  intro B x y d e H Q s hx hy h
  unfold notIsD at h
  split at h
  · rename_i c
    cases hy <;> first | exact absurd c Bool.false_ne_true | skip
    refine ⟨rfl, ?_⟩
    rw [none_of hx]
    exact some_run s h fun _ => .bl _
  · exact h.elim
/-! in -/
def rInA (K : PySem.W.Frag) : R2 := fun x y H Q => (∃ (c : Nat) (z : Str), x = .str ⟨#[c]⟩ ∧ y = .str z ∧ Q (.bl (decide (c ∈ z.cps.toList))) H) ∨ rInD K x y H Q ∨ rIn K false x y H Q
def rNotInA (K : PySem.W.Frag) : R2 := fun x y H Q => (∃ (c : Nat) (z : Str), x = .str ⟨#[c]⟩ ∧ y = .str z ∧ Q (.bl (!decide (c ∈ z.cps.toList))) H) ∨ rNotInD K x y H Q ∨ rIn K true x y H Q
theorem flat_of {B : Hp} {x : V} {d : D} (h : Dq K B x d) (c : scalar d = true) : flatV x = true := by
  cases h <;> first | rfl | exact absurd c Bool.false_ne_true
theorem eqV_of {B : Hp} {x y : V} {d e : D} (h : Dq K B x d) (g : Dq K B y e) (c : scalar d = true) (c2 : scalar e = true) : eqV x y = PyData.eqv d e := by
  cases h <;> first | exact absurd c Bool.false_ne_true | skip
  all_goals (cases g <;> first | exact absurd c2 Bool.false_ne_true | rfl)
theorem inV_of {B : Hp} {x : V} {d : D} (h : Dq K B x d) (c : scalar d = true) : ∀ {ys : List V} {es : List D}, DqAll K B ys es → es.all scalar = true → ys.all flatV = true ∧ inV x ys = es.any fun z => PyData.eqv z d
  | _, _, .nil, _ => ⟨rfl, rfl⟩
  | _, _, .cons r t, a => by
    rw [List.all_cons, Bool.and_eq_true] at a
    obtain ⟨h1, h2⟩ := inV_of h c t a.2
    refine ⟨by rw [List.all_cons, flat_of r a.1, h1]; rfl, ?_⟩
    unfold inV at h2 ⊢
    rw [List.any_cons, List.any_cons, eqV_of r h a.1 c, h2]
theorem in_run {K : PySem.W.Frag} {neg : Bool} {B H : Hp} {x y : V} {d e : D} {k : Bool} (s : Same B H) (hx : Dq K B x d) (hy : Dq K B y e) (h : inB d e = some k) :
    (∃ (c : Nat) (z : Str), x = .str ⟨#[c]⟩ ∧ y = .str z ∧ decide (c ∈ z.cps.toList) = k) ∨ (∃ d ds, Dp K H x d ∧ Dp K H y (.list ds) ∧ SeqAt.shaped d = true ∧ SeqAt.shaped (.list ds) = true ∧ (ds.any fun z => PyData.eqv z d) = k) ∨
      (∃ p xs, y = .ref p ∧ (SqL K H p xs ∨ SqT K H p xs) ∧ flatV x = true ∧ xs.all flatV = true ∧ inV x xs = k) := by
  unfold inB at h
  split at h
  · cases hx; cases hy
    rename_i c z
    split at h
    · rename_i n hn
      have e1 : c = ⟨#[n]⟩ := by
        obtain ⟨a⟩ := c
        have : a = #[n] := Array.ext' hn
        rw [this]
      exact .inl ⟨n, z, by rw [e1], rfl, Option.some.inj h⟩
    · cases h
  · split at h
    · rename_i c
      exact .inr (.inl ⟨_, _, dq_dp _ x (Dq.up hx s) (.inr trivial) (PySem.SeqAt.canLay_of_shaped c.1), dq_dp _ y (Dq.up hy s) (.inr trivial) (PySem.SeqAt.canLay_of_shaped c.2), c.1, c.2, Option.some.inj h⟩)
    · cases h
  · split at h
    · rename_i c
      cases hy with
      | tup r0 a =>
        have r := Rd.of r0
        obtain ⟨h1, h2⟩ := inV_of hx c.1 a c.2
        exact .inr (.inr ⟨_, _, rfl, .inr (.inl (Same.rd s r)), flat_of hx c.1, h1, h2.trans (Option.some.inj h)⟩)
    · cases h
  · cases h
theorem op_inA (hu : X.A.units + 65 < cLine) : OpR X (compareOp .In) (rInA X.K) := op_in_sign.or ((op_inD hu).or op_in_seq)
theorem op_notInA (hu : X.A.units + 65 < cLine) : OpR X (compareOp .NotIn) (rNotInA X.K) := op_notIn_sign.or ((op_notInD hu).or op_notIn_seq)
theorem f_in {K : PySem.W.Frag} : Op2Ok K (rInA K) inD := by
  intro B x y d e H Q s hx hy h
  unfold inD at h
  cases q : inB d e with
  | none => rw [q] at h; exact h.elim
  | some k =>
    rw [q] at h
    have g : Q (.bl k) H := some_run s h fun _ => .bl _
    rcases in_run (K := K) (neg := false) s hx hy q with ⟨c, z, e1, e2, e3⟩ | ⟨d', ds, h1, h2, h3, h4, e3⟩ | ⟨p, xs, e1, h1, h2, h3, e3⟩
    · exact .inl ⟨c, z, e1, e2, by rw [e3]; exact g⟩
    · exact .inr (.inl ⟨d', ds, h1, h2, h3, h4, by rw [e3]; exact g⟩)
    · exact .inr (.inr ⟨p, xs, e1, h1, h2, h3, by rw [if_neg Bool.false_ne_true, e3]; exact g⟩)
theorem f_notin {K : PySem.W.Frag} : Op2Ok K (rNotInA K) notInD := by
  intro B x y d e H Q s hx hy h
  unfold notInD at h
  cases q : inB d e with
  | none => rw [q] at h; exact h.elim
  | some k =>
    rw [q] at h
    have g : Q (.bl (!k)) H := some_run s h fun _ => .bl _
    rcases in_run (K := K) (neg := true) s hx hy q with ⟨c, z, e1, e2, e3⟩ | ⟨d', ds, h1, h2, h3, h4, e3⟩ | ⟨p, xs, e1, h1, h2, h3, e3⟩
    · exact .inl ⟨c, z, e1, e2, by rw [e3]; exact g⟩
    · exact .inr (.inl ⟨d', ds, h1, h2, h3, h4, by rw [e3]; exact g⟩)
    · exact .inr (.inr ⟨p, xs, e1, h1, h2, h3, by rw [if_pos rfl, e3]; exact g⟩)
end
end PL

set_option Elab.async false
set_option linter.all false
set_option maxRecDepth 100000
set_option maxHeartbeats 1000000
namespace PL
open PySem PySem.Spec PyProof.Rows L2
variable {K : PySem.W.Frag}

/-! ### items and slices -/
def ixD : D → D → Option D
  | .list ds, .int i => atI ds i
  | .tuple ds, .int i => atI ds i
  | .str z, .int i => if z.length ≤ sizeLine then (atI z.cps.toList i).map fun c => .str ⟨#[c]⟩ else none
  | .dict ((.none, .none) :: kvs), .int i => atI (kvs.map (·.2)) i
  | _, _ => none
theorem at_dq {H : Hp} {vs : List V} {ds : List D} {i : Int} {d : D} (h : DqAll K H vs ds) (e : atI ds i = some d) : ∃ v, atI vs i = some v ∧ Dq K H v d := by
  unfold atI at e ⊢
  rw [h.length]
  cases q : ixN ds.length i with
  | none => rw [q] at e; cases e
  | some j =>
    rw [q] at e
    obtain ⟨v, h1, h2⟩ := h.get (i := j) (d := d) e
    exact ⟨v, h1, h2⟩
theorem scr_of {B : Hp} {v : V} {kvs : List (D × D)} (h : Dq K B v (.dict ((.none, .none) :: kvs))) : ∃ ns : List Int, (∃ a, v = .ref a ∧ SqL K B a (ns.map V.int)) ∧ kvs = ns.map fun n => (.none, .int n) := by
  generalize e : PyData.dict ((.none, .none) :: kvs) = d at h
  cases h <;> first | (cases e; done) | skip
  rename_i a ns h
  cases e
  exact ⟨ns, ⟨a, rfl, h⟩, rfl⟩
theorem scr_snd (ns : List Int) : (ns.map fun n => ((.none, .int n) : D × D)).map (·.2) = ns.map PyData.int := by rw [List.map_map]; rfl
theorem scr_at (ns : List Int) (i : Int) : atI ((ns.map fun n => ((.none, .int n) : D × D)).map (·.2)) i = (atI ns i).map PyData.int := by
  rw [scr_snd]
  unfold atI
  rw [List.length_map]
  cases ixN ns.length i with
  | none => rfl
  | some j => show (ns.map PyData.int)[j]? = ns[j]?.map PyData.int; rw [List.getElem?_map]
theorem f_ix {K : PySem.W.Frag} : Op2Ok K (rIx K) ixD := by
  intro B x y d e H Q s hx hy h
  unfold ixD at h
  split at h
  · rename_i ds i
    cases hy
    cases hx with
    | lst r a =>
      cases q : atI ds i with
      | none => rw [q] at h; exact h.elim
      | some w =>
        rw [q] at h
        obtain ⟨v, h1, h2⟩ := at_dq a q
        exact .inl ⟨_, _, _, v, rfl, rfl, .inl (Same.rd s r), h1, h v B H (.refl s) h2⟩
  · rename_i ds i
    cases hy
    cases hx with
    | tup r0 a =>
      have r := Rd.of r0
      cases q : atI ds i with
      | none => rw [q] at h; exact h.elim
      | some w =>
        rw [q] at h
        obtain ⟨v, h1, h2⟩ := at_dq a q
        exact .inr (.inl ⟨_, _, _, v, rfl, rfl, .inl (Same.rd s r), h1, h v B H (.refl s) h2⟩)
  · cases hy
    cases hx
    split at h
    · rename_i z i c
      cases q : atI z.cps.toList i with
      | none => rw [q] at h; exact h.elim
      | some w =>
        rw [q] at h
        exact .inr (.inr ⟨_, _, w, rfl, rfl, c, q, some_run s h fun _ => .str _⟩)
    · exact h.elim
  · rename_i kvs i
    cases hy
    obtain ⟨ns, r, e⟩ := scr_of hx
    rw [e, scr_at] at h
    cases q : atI ns i with
    | none => rw [q] at h; exact h.elim
    | some w =>
      rw [q] at h
      obtain ⟨a, ea, r⟩ := r
      refine .inl ⟨a, _, _, .int w, ea, rfl, s.seq r, ?_, some_run s h fun _ => .int w⟩
      unfold atI at q ⊢
      rw [List.length_map]
      cases q2 : ixN ns.length i with
      | none => rw [q2] at q; cases q
      | some j =>
        rw [q2] at q
        have q : ns[j]? = some w := q
        show (ns.map V.int)[j]? = some (.int w)
        rw [List.getElem?_map, q]; rfl
  · exact h.elim
section
variable {X : Cx} {E : XK} {e a b c : Expr} {es : List Expr} {pos p : Pos} {m ma mb mc : Rho → Rs TD} {ms : Rho → Rs (List D × List Nat)} {mt mu : Rho → Rs Bool}
theorem de_ix (ha : DE X E a ma) (hb : DE X E b mb) (hs : PlainIx b := by exact fun _ _ => rfl) : DE X E (.Subscript a b pos) (mB ixD ma mb) :=
  ⟨pe_wk (pe_ix ix_seq ha.pe hb.pe hs) fun σ H Q h => two_op ha.tn hb.tn f_ix h, mB_tn ha.tn hb.tn⟩
/-- an item of a list that a name holds -/
def mIxO (j : Nat) (mi : Rho → Rs TD) : Rho → Rs TD := fun ρ => match ρ[j]? with
  | some (.ow ds) => (mi ρ).bind fun q => match q.1 with
    | .int k => match atI ds k with
      | some d => .ok (d, [])
      | none => .no
    | _ => .no
  | _ => mB ixD (mV j) mi ρ
theorem pe_either {t1 t2 : TE} (h1 : PE X e t1) (h2 : PE X e t2) : PE X e (fun σ H Q => t1 σ H Q ∨ t2 σ H Q) := ⟨fun pins s σ H Q I h => h.elim (h1.run pins s σ H Q I) (h2.run pins s σ H Q I)⟩
theorem mIxO_tn {j : Nat} (hb : Tnt mb) : Tnt (mIxO j mb) := fun ρ d t h => by
  unfold mIxO at h
  split at h
  · cases r : mb ρ with
    | no => rw [r] at h; cases h
    | ex c => rw [r] at h; cases h
    | ok q =>
      rw [r] at h
      dsimp only [Rs.bind] at h
      split at h
      · split at h
        · cases h; exact .nil
        · cases h
      · cases h
  · exact mB_tn (mV_tn j) hb ρ d t h
theorem de_ixO (j : Nat) {x : Str} {px : Pos} (hb : DE X E b mb) (hN : X.N[j]? = some x := by rfl) (hv : Vis X.env.scope x := by first | exact Or.inl rfl | exact Or.inr (Or.inl rfl) | exact Or.inr (Or.inr rfl)) (hd : (x == ("__debug__" : Str)) = false := by decide)
    (hcd : (x == ("__classdict__" : Str)) = false := by decide) (hs : PlainIx b := by exact fun _ _ => rfl) : DE X E (.Subscript (.Name x px) b pos) (mIxO j mb) := by
  have hn : DE X E (.Name x px) (mV j) := dv j hN hv hd hcd
  refine ⟨pe_wk (pe_either (pe_ix ix_seq (pe_var hN hv hd hcd) hb.pe hs) (pe_ix ix_seq hn.pe hb.pe hs)) fun σ H Q h => ?_, mIxO_tn hb.tn⟩
  obtain ⟨Be, He, B, ρ, ev, h⟩ := h
  unfold mIxO at h
  split at h
  · rename_i ds hds
    obtain ⟨l, vs, h1, h2, h3, h4, h5⟩ := ev.sl j _ hds
    refine .inl ⟨_, h1, Be, He, B, ρ, ev, ?_⟩
    cases r : mb ρ with
    | no => rw [r] at h; exact h
    | ex c => rw [r] at h; exact h
    | ok q =>
      obtain ⟨d, t⟩ := q
      rw [r] at h
      intro w B2 H2 x2 dv
      cases d with
      | int k =>
        cases dv
        dsimp only [Rs.bind] at h
        cases q : atI ds k with
        | none => rw [q] at h; exact h.elim
        | some d =>
          rw [q] at h
          obtain ⟨v, g1, g2⟩ := at_dq h3 q
          exact .inl ⟨_, _, _, v, rfl, rfl, .inl (.of (x2.h _ _ h2)), g1, h v B2 H2 x2 (Dq.up g2 x2.b)⟩
      | _ => exact h.elim
  · exact .inr (two_op hn.tn hb.tn f_ix ⟨Be, He, B, ρ, ev, h⟩)

/-! slices -/
def cutL {α : Type} (xs : List α) (lo hi : Option Int) : List α := (xs.drop (HT.sIx xs.length 0 lo)).take (HT.sIx xs.length xs.length hi - HT.sIx xs.length 0 lo)
def slD (lo hi : Option Int) : D → Option D
  | .list ds => some (.list (cutL ds lo hi))
  | .str z => if z.length ≤ sizeLine then some (.str (cutS z lo hi)) else none
  | .dict ((.none, .none) :: kvs) => some (.list (cutL (kvs.map (·.2)) lo hi))
  | _ => none
theorem ints_dq {B : Hp} : ∀ ns : List Int, DqAll K B (ns.map V.int) (ns.map PyData.int)
  | [] => .nil
  | n :: ns => .cons (.int n) (ints_dq ns)
def tDP (K : PySem.W.Frag) (mg : Str → Option Value) (E : XK) (m : Rho → Rs (Option Int)) : TO := fun σ H Q => ∃ Be He B ρ, Ev K Be He B H σ ρ ∧ match m ρ with
  | .ok o => ∀ B' H', Ext B H B' H' → Q o H'
  | .ex c => XW mg E c He
  | .no => False
def DP (X : Cx) (E : XK) (e : Option Expr) (m : Rho → Rs (Option Int)) : Prop := PO X e (tDP X.K X.mg E m)
def mPn : Rho → Rs (Option Int) := fun _ => .ok none
def mPs (m : Rho → Rs TD) : Rho → Rs (Option Int) := fun ρ => (m ρ).bind fun q => match q.1 with
  | .int i => .ok (some i)
  | _ => .no
theorem po_wk {eo : Option Expr} {t t' : TO} (h : PO X eo t) (w : ∀ σ H Q, t' σ H Q → t σ H Q) : PO X eo t' := ⟨fun pins s σ H Q I q => h.run pins s σ H Q I (w σ H Q q)⟩
theorem dp_none : DP X E none mPn := po_wk po_none fun σ H Q h => by
  obtain ⟨Be, He, B, ρ, ev, h⟩ := h
  exact h B H (.refl ev.bh)
theorem dp_some (he : DE X E e m) : DP X E (some e) (mPs m) := po_wk (po_some he.pe) fun σ H Q h => by
  obtain ⟨Be, He, B, ρ, ev, h⟩ := h
  refine ⟨Be, He, B, ρ, ev, ?_⟩
  unfold mPs at h
  cases r : m ρ with
  | no => rw [r] at h; exact h
  | ex c => rw [r] at h; exact h
  | ok q =>
    obtain ⟨d, t⟩ := q
    rw [r] at h
    intro v B1 H1 x1 dv
    cases d with
    | int k => cases dv; exact ⟨k, rfl, h B1 H1 x1⟩
    | _ => exact h.elim
def mSl (m : Rho → Rs TD) (ml mh : Rho → Rs (Option Int)) : Rho → Rs TD := fun ρ => (m ρ).bind fun q => (ml ρ).bind fun l => (mh ρ).bind fun u => fin q.2 (slD l u q.1)
def rSlA (K : PySem.W.Frag) : V → Option Int → Option Int → Hp → VK → Prop := fun x lo hi H Q => rSlL K x lo hi H Q ∨ rSlS x lo hi H Q
theorem sl_any : SlR X (rSlA X.K) := sl_list.or sl_str
theorem DqAll.cut {H : Hp} {vs : List V} {ds : List D} (h : DqAll K H vs ds) (lo hi : Option Int) : DqAll K H (cutV vs lo hi) (cutL ds lo hi) := by
  unfold cutV cutL
  rw [h.length]
  exact (h.drop _).take _
theorem f_sl {K : PySem.W.Frag} {lo hi : Option Int} {B H : Hp} {x : V} {d : D} {Q : VK} (s : Same B H) (hx : Dq K B x d) (h : DnF K B H (slD lo hi d) Q) : rSlA K x lo hi H Q := by
  unfold slD at h
  split at h
  · cases hx with
    | lst r a => exact .inl ⟨_, _, rfl, .inl (Same.rd s r), new_list s h (a.cut lo hi)⟩
  · split at h
    · rename_i c
      cases hx
      exact .inr ⟨_, rfl, c, some_run s h fun _ => .str _⟩
    · exact h.elim
  · obtain ⟨ns, ⟨a, ea, r⟩, e⟩ := scr_of hx
    rw [e, scr_snd] at h
    exact .inl ⟨a, _, ea, s.seq r, new_list s h ((ints_dq ns).cut lo hi)⟩
  · exact h.elim
theorem mSl_tn {ml mh : Rho → Rs (Option Int)} (h : Tnt m) : Tnt (mSl m ml mh) := fun ρ d t q => by
  unfold mSl at q
  cases r : m ρ with
  | no => rw [r] at q; cases q
  | ex c => rw [r] at q; cases q
  | ok x =>
    cases r2 : ml ρ with
    | no => rw [r, r2] at q; cases q
    | ex c => rw [r, r2] at q; cases q
    | ok y =>
      cases r3 : mh ρ with
      | no => rw [r, r2, r3] at q; cases q
      | ex c => rw [r, r2, r3] at q; cases q
      | ok z =>
        rw [r, r2, r3] at q
        obtain ⟨_, e⟩ := fin_ok q
        subst e
        exact keepT_own (h ρ _ _ r)
theorem de_sl {lo hi : Option Expr} {p2 : Pos} {ml mh : Rho → Rs (Option Int)} (he : DE X E e m) (hl : DP X E lo ml) (hh : DP X E hi mh) : DE X E (.Subscript e (.Slice lo hi none p2) pos) (mSl m ml mh) := by
  refine ⟨pe_wk (pe_slice sl_any he.pe hl hh) fun σ H Q h => ?_, mSl_tn he.tn⟩
  obtain ⟨Be, He, B, ρ, ev, h⟩ := h
  refine ⟨Be, He, B, ρ, ev, ?_⟩
  unfold mSl at h
  cases r : m ρ with
  | no => rw [r] at h; exact h
  | ex c => rw [r] at h; exact h
  | ok q =>
    obtain ⟨d, t⟩ := q
    rw [r] at h
    intro v B1 H1 x1 dv1
    have ev1 := ev.up x1
    refine ⟨Be, He, B1, ρ, ev1, ?_⟩
    cases r2 : ml ρ with
    | no => rw [r2] at h; exact h
    | ex c => rw [r2] at h; exact h
    | ok lo' =>
      rw [r2] at h
      intro B2 H2 x2
      have ev2 := ev1.up x2
      refine ⟨Be, He, B2, ρ, ev2, ?_⟩
      cases r3 : mh ρ with
      | no => rw [r3] at h; exact h
      | ex c => rw [r3] at h; exact h
      | ok hi' =>
        rw [r3] at h
        intro B3 H3 x3
        have ev3 := ev2.up x3
        have ot := he.tn ρ _ _ r
        refine f_sl (B := Ba t σ B3 H3) (d := d) ev3.ba_h (Dq.up dv1 (ev1.ba_up (x2.trans x3) ot fun a w => w)) ?_
        dsimp only [Rs.bind] at h
        cases rF : slD lo' hi' d with
        | none => rw [rF] at h; exact h
        | some z =>
          rw [rF] at h
          exact fin_run ev ((x1.trans x2).trans x3) ot h

/-! ### calls of what is built in -/
theorem de_callB {x : Str} {id : String} {r : List V → Hp → VK → Prop} {F : List D → Option D} (hc : CallR X (.builtin id) r) (hF : OpOk X.K r F) (hg : Gl X x) (hm : X.mg x = none) (hv : bootBuiltins x = some (.builtin id)) (ha : DA X E (e :: es) ms)
    (hn : x ≠ "__name__" := by decide) (hdb : (x == ("__debug__" : Str)) = false := by decide)
    (he : starEach (e :: es) X.env = (false, eval e X.env) :: starEach es X.env := by rfl) (hpl : (backTo pos (starEach es X.env)).any (·.1) = false := by rfl) : DE X E (.Call (.Name x p) (e :: es) [] pos) (mF F ms) :=
  ⟨pe_wk (pe_callB hc hg hm hv ha.pa hn hdb he hpl) fun σ H Q h => args_op ha.tn hF h, mF_tn ha.tn⟩
theorem de_callTy {x : Str} {T : String} {r : List V → Hp → VK → Prop} {F : List D → Option D} (hc : CallR X (.type T) r) (hF : OpOk X.K r F) (hg : Gl X x) (hm : X.mg x = none) (hv : bootBuiltins x = some (.type T)) (ha : DA X E (e :: es) ms)
    (hn : x ≠ "__name__" := by decide) (hdb : (x == ("__debug__" : Str)) = false := by decide)
    (he : starEach (e :: es) X.env = (false, eval e X.env) :: starEach es X.env := by rfl) (hpl : (backTo pos (starEach es X.env)).any (·.1) = false := by rfl) : DE X E (.Call (.Name x p) (e :: es) [] pos) (mF F ms) :=
  ⟨pe_wk (pe_callTy hc hg hm hv ha.pa hn hdb he hpl) fun σ H Q h => args_op ha.tn hF h, mF_tn ha.tn⟩
def lenF : List D → Option D
  | [.list ds] => some (.int ds.length)
  | [.tuple ds] => some (.int ds.length)
  | [.str z] => if z.length ≤ sizeLine then some (.int z.length) else none
  | [.dict ((.none, .none) :: kvs)] => some (.int kvs.length)
  | _ => none
theorem f_len {K : PySem.W.Frag} : OpOk K (fun xs H Q => ∃ x n, xs = [x] ∧ LenV K x H n ∧ Q (.int n) H) lenF := by
  intro B vs ds H Q s hv h
  unfold lenF at h
  split at h
  · cases hv with
    | cons r1 r2 =>
      cases r2
      cases r1 with
      | lst r a => exact ⟨_, _, rfl, .inl ⟨_, .inl (Same.rd s r), rfl⟩, by rw [a.length]; exact some_run s h fun _ => .int _⟩
  · cases hv with
    | cons r1 r2 =>
      cases r2
      cases r1 with
      | tup r a => exact ⟨_, _, rfl, .inr ⟨_, .inl (Same.rd s (.of r)), rfl⟩, by rw [a.length]; exact some_run s h fun _ => .int _⟩
  · split at h
    · rename_i c
      cases hv with
      | cons r1 r2 =>
        cases r2
        cases r1
        exact ⟨_, _, rfl, ⟨c, rfl⟩, some_run s h fun _ => .int _⟩
    · exact h.elim
  · cases hv with
    | cons r1 r2 =>
      cases r2
      obtain ⟨ns, ⟨a, ea, r⟩, e⟩ := scr_of r1
      subst ea
      rw [e, List.length_map] at h
      exact ⟨_, _, rfl, .inl ⟨_, s.seq r, rfl⟩, by rw [List.length_map]; exact some_run s h fun _ => .int _⟩
  · exact h.elim
def asInts : List D → Option (List Int)
  | [] => some []
  | .int i :: r => (asInts r).map (i :: ·)
  | _ :: _ => none
theorem asInts_of {H : Hp} : ∀ {vs : List V} {ds : List D} {ns : List Int}, DqAll K H vs ds → asInts ds = some ns → vs = ns.map V.int
  | _, _, _, .nil, e => by cases e; rfl
  | _, _, ns, .cons r t, e => by
    cases r with
    | int i =>
      unfold asInts at e
      cases q : asInts _ with
      | none => rw [q] at e; cases e
      | some ms =>
        rw [q] at e
        cases e
        rw [asInts_of t q]
        rfl
    | _ => exact nomatch e
theorem asInts_map (ns : List Int) : asInts (ns.map PyData.int) = some ns := by
  induction ns with
  | nil => rfl
  | cons n r ih => show (asInts (r.map PyData.int)).map (n :: ·) = _; rw [ih]; rfl
def sumF : List D → Option D
  | [.list ds] => (asInts ds).map fun ns => .int ns.sum
  | _ => none
theorem f_sum {K : PySem.W.Frag} : OpOk K (rSum K) sumF := by
  intro B vs ds H Q s hv h
  unfold sumF at h
  split at h
  · cases hv with
    | cons r1 r2 =>
      cases r2
      cases r1 with
      | lst r a =>
        rename_i es _ _
        cases q : asInts es with
        | none => rw [q] at h; exact h.elim
        | some ns =>
          rw [q] at h
          have e := asInts_of a q
          subst e
          exact ⟨_, ns, rfl, .inl (Same.rd s r), some_run s h fun _ => .int _⟩
  · exact h.elim
def max2F : List D → Option D
  | [.int i, .int j] => some (.int (max i j))
  | _ => none
def min2F : List D → Option D
  | [.int i, .int j] => some (.int (min i j))
  | _ => none
theorem f_max2 : OpOk K (fun xs H Q => ∃ i j, xs = [.int i, .int j] ∧ Q (.int (if j > i then j else i)) H) max2F := by
  intro B vs ds H Q s hv h
  unfold max2F at h
  split at h
  · cases hv with
    | cons r1 r2 =>
      cases r2 with
      | cons r3 r4 =>
        cases r4; cases r1; cases r3
        rename_i i j
        have e : (if j > i then j else i) = max i j := by
          by_cases c : j > i
          · rw [if_pos c]; omega
          · rw [if_neg c]; omega
        exact ⟨_, _, rfl, by rw [e]; exact some_run s h fun _ => .int _⟩
  · exact h.elim
theorem f_min2 : OpOk K (fun xs H Q => ∃ i j, xs = [.int i, .int j] ∧ Q (.int (if j < i then j else i)) H) min2F := by
  intro B vs ds H Q s hv h
  unfold min2F at h
  split at h
  · cases hv with
    | cons r1 r2 =>
      cases r2 with
      | cons r3 r4 =>
        cases r4; cases r1; cases r3
        rename_i i j
        have e : (if j < i then j else i) = min i j := by
          by_cases c : j < i
          · rw [if_pos c]; omega
          · rw [if_neg c]; omega
        exact ⟨_, _, rfl, by rw [e]; exact some_run s h fun _ => .int _⟩
  · exact h.elim
def maxL : List Int → Option Int
  | [] => none
  | n :: r => some (r.foldl max n)
theorem foldl_max : ∀ (r : List Int) (n m : Int), (m = n ∨ m ∈ r) → (n ≤ m) → (∀ y, y ∈ r → y ≤ m) → r.foldl max n = m
  | [], n, m, h, _, _ => by
    rcases h with h | h
    · exact h.symm
    · cases h
  | x :: r, n, m, h, h1, h2 => by
    rw [List.foldl_cons]
    refine foldl_max r (max n x) m ?_ ?_ fun y hy => h2 y (List.mem_cons_of_mem _ hy)
    · have hx := h2 x List.mem_cons_self
      rcases h with h | h
      · left; omega
      · rcases List.mem_cons.mp h with h | h
        · left; omega
        · exact .inr h
    · have hx := h2 x List.mem_cons_self
      omega
def maxF : List D → Option D
  | [.list ds] => (asInts ds).bind fun ns => (maxL ns).map fun m => .int m
  | _ => none
theorem f_max {K : PySem.W.Frag} : OpOk K (rMax K) maxF := by
  intro B vs ds H Q s hv h
  unfold maxF at h
  split at h
  · cases hv with
    | cons r1 r2 =>
      cases r2
      cases r1 with
      | lst r a =>
        rename_i es _ _
        cases q : asInts es with
        | none => rw [q] at h; exact h.elim
        | some ns =>
          rw [q] at h
          have e := asInts_of a q
          subst e
          cases ns with
          | nil => exact h.elim
          | cons n r' =>
            refine ⟨_, n :: r', rfl, .inl (Same.rd s r), by simp, fun m h1 h2 => ?_⟩
            have em : r'.foldl max n = m := foldl_max r' n m (by simpa using h1) (h2 n List.mem_cons_self) fun y hy => h2 y (List.mem_cons_of_mem _ hy)
            rw [← em]
            exact some_run s h fun _ => .int _
  · exact h.elim
def listF : List D → Option D
  | [.list ds] => some (.list ds)
  | [.tuple ds] => some (.list ds)
  | _ => none
theorem f_list {K : PySem.W.Frag} : OpOk K (fun xs H Q => ∃ p ys, xs = [.ref p] ∧ (SqL K H p ys ∨ SqT K H p ys) ∧ ∀ l, H l = none → Q (.ref l) (upd H l (.lst ys))) listF := by
  intro B vs ds H Q s hv h
  unfold listF at h
  split at h
  · cases hv with
    | cons r1 r2 =>
      cases r2
      cases r1 with
      | lst r a => exact ⟨_, _, rfl, .inl (.inl (Same.rd s r)), new_list s h a⟩
  · cases hv with
    | cons r1 r2 =>
      cases r2
      cases r1 with
      | tup r a => exact ⟨_, _, rfl, .inr (.inl (Same.rd s (.of r))), new_list s h a⟩
  · exact h.elim
def tupleF : List D → Option D
  | [.list ds] => some (.tuple ds)
  | [.tuple ds] => some (.tuple ds)
  | _ => none
theorem f_tuple {K : PySem.W.Frag} : OpOk K (fun xs H Q => ∃ p ys, xs = [.ref p] ∧ ((SqL K H p ys ∧ ∀ l, H l = none → Q (.ref l) (upd H l (.tup ys))) ∨ (SqT K H p ys ∧ Q (.ref p) H))) tupleF := by
  intro B vs ds H Q s hv h
  unfold tupleF at h
  split at h
  · cases hv with
    | cons r1 r2 =>
      cases r2
      cases r1 with
      | lst r a => exact ⟨_, _, rfl, .inl ⟨.inl (Same.rd s r), new_tup s h a⟩⟩
  · cases hv with
    | cons r1 r2 =>
      cases r2
      cases r1 with
      | tup r a => exact ⟨_, _, rfl, .inr ⟨.inl (Same.rd s (.of r)), h _ B H (.refl s) (.tup r a)⟩⟩
  · exact h.elim
def intF : List D → Option D
  | [.int i] => some (.int i)
  | [.bool k] => some (.int (if k then 1 else 0))
  | _ => none
theorem f_int : OpOk K (fun xs H Q => (∃ i, xs = [.int i] ∧ Q (.int i) H) ∨ ∃ k, xs = [.bl k] ∧ Q (.int (if k then 1 else 0)) H) intF := by
  intro B vs ds H Q s hv h
  unfold intF at h
  split at h
  · cases hv with
    | cons r1 r2 => cases r2; cases r1; exact .inl ⟨_, rfl, some_run s h fun _ => .int _⟩
  · cases hv with
    | cons r1 r2 => cases r2; cases r1; exact .inr ⟨_, rfl, some_run s h fun _ => .int _⟩
  · exact h.elim
def intSF : List D → Option D
  | [.str a] => if a.length ≤ 640 then (PySem.intText? a).map fun n => .int n else none
  | _ => none
theorem f_intS : OpOk K (fun xs H Q => ∃ a n, xs = [.str a] ∧ PySem.intText? a = some n ∧ a.length ≤ 640 ∧ Q (.int n) H) intSF := by
  intro B vs ds H Q s hv h
  unfold intSF at h
  split at h
  · cases hv with
    | cons r1 r2 =>
      cases r2; cases r1
      split at h
      · rename_i a c
        cases q : PySem.intText? a with
        | none => rw [q] at h; exact h.elim
        | some n => rw [q] at h; exact ⟨_, n, rfl, q, c, some_run s h fun _ => .int _⟩
      · exact h.elim
  · exact h.elim
def strF : List D → Option D
  | [.int i] => if i.natAbs.log2 < 1920 then some (.str (toString i)) else none
  | _ => none
theorem f_str : OpOk K (fun xs H Q => ∃ i, xs = [.int i] ∧ i.natAbs.log2 < 1920 ∧ Q (.str (toString i)) H) strF := by
  intro B vs ds H Q s hv h
  unfold strF at h
  split at h
  · cases hv with
    | cons r1 r2 =>
      cases r2; cases r1
      split at h
      · rename_i c; exact ⟨_, rfl, c, some_run s h fun _ => .str _⟩
      · exact h.elim
  · exact h.elim
end
end PL

set_option Elab.async false
set_option linter.all false
set_option maxRecDepth 100000
set_option maxHeartbeats 1000000
namespace PL
open PySem PySem.Spec PyProof.Rows L2
variable {K : PySem.W.Frag}

/-! ### isinstance with a built-in class -/
def tyN : D → String
  | .none => "NoneType"
  | .bool _ => "bool"
  | .int _ => "int"
  | .str _ => "str"
  | .list _ => "list"
  | .tuple _ => "tuple"
  | .dict [] => "dict"
  | .dict ((.bool _, _) :: _) => "dict"
  | .dict (_ :: _) => "list"
def isStr : D → Bool
  | .str _ => true
  | _ => false
def isInt : D → Bool
  | .int _ => true
  | .bool _ => true
  | _ => false
def isBool : D → Bool
  | .bool _ => true
  | _ => false
def isList : D → Bool
  | .list _ => true
  | .dict ((.bool _, _) :: _) => false
  | .dict (_ :: _) => true
  | _ => false
def isTup : D → Bool
  | .tuple _ => true
  | _ => false
theorem kit_str : ∀ d : D, kitB (tyN d) "str" = some (isStr d)
  | .none => (by decide +kernel : kitB "NoneType" "str" = some false)
  | .bool _ => (by decide +kernel : kitB "bool" "str" = some false)
  | .int _ => (by decide +kernel : kitB "int" "str" = some false)
  | .str _ => (by decide +kernel : kitB "str" "str" = some true)
  | .list _ => (by decide +kernel : kitB "list" "str" = some false)
  | .tuple _ => (by decide +kernel : kitB "tuple" "str" = some false)
  | .dict [] => (by decide +kernel : kitB "dict" "str" = some false)
  | .dict ((.bool _, _) :: _) => (by decide +kernel : kitB "dict" "str" = some false)
  | .dict ((.none, _) :: _) => (by decide +kernel : kitB "list" "str" = some false)
  | .dict ((.int _, _) :: _) => (by decide +kernel : kitB "list" "str" = some false)
  | .dict ((.str _, _) :: _) => (by decide +kernel : kitB "list" "str" = some false)
  | .dict ((.list _, _) :: _) => (by decide +kernel : kitB "list" "str" = some false)
  | .dict ((.tuple _, _) :: _) => (by decide +kernel : kitB "list" "str" = some false)
  | .dict ((.dict _, _) :: _) => (by decide +kernel : kitB "list" "str" = some false)
theorem kit_int : ∀ d : D, kitB (tyN d) "int" = some (isInt d)
  | .none => (by decide +kernel : kitB "NoneType" "int" = some false)
  | .bool _ => (by decide +kernel : kitB "bool" "int" = some true)
  | .int _ => (by decide +kernel : kitB "int" "int" = some true)
  | .str _ => (by decide +kernel : kitB "str" "int" = some false)
  | .list _ => (by decide +kernel : kitB "list" "int" = some false)
  | .tuple _ => (by decide +kernel : kitB "tuple" "int" = some false)
  | .dict [] => (by decide +kernel : kitB "dict" "int" = some false)
  | .dict ((.bool _, _) :: _) => (by decide +kernel : kitB "dict" "int" = some false)
  | .dict ((.none, _) :: _) => (by decide +kernel : kitB "list" "int" = some false)
  | .dict ((.int _, _) :: _) => (by decide +kernel : kitB "list" "int" = some false)
  | .dict ((.str _, _) :: _) => (by decide +kernel : kitB "list" "int" = some false)
  | .dict ((.list _, _) :: _) => (by decide +kernel : kitB "list" "int" = some false)
  | .dict ((.tuple _, _) :: _) => (by decide +kernel : kitB "list" "int" = some false)
  | .dict ((.dict _, _) :: _) => (by decide +kernel : kitB "list" "int" = some false)
theorem kit_bool : ∀ d : D, kitB (tyN d) "bool" = some (isBool d)
  | .none => (by decide +kernel : kitB "NoneType" "bool" = some false)
  | .bool _ => (by decide +kernel : kitB "bool" "bool" = some true)
  | .int _ => (by decide +kernel : kitB "int" "bool" = some false)
  | .str _ => (by decide +kernel : kitB "str" "bool" = some false)
  | .list _ => (by decide +kernel : kitB "list" "bool" = some false)
  | .tuple _ => (by decide +kernel : kitB "tuple" "bool" = some false)
  | .dict [] => (by decide +kernel : kitB "dict" "bool" = some false)
  | .dict ((.bool _, _) :: _) => (by decide +kernel : kitB "dict" "bool" = some false)
  | .dict ((.none, _) :: _) => (by decide +kernel : kitB "list" "bool" = some false)
  | .dict ((.int _, _) :: _) => (by decide +kernel : kitB "list" "bool" = some false)
  | .dict ((.str _, _) :: _) => (by decide +kernel : kitB "list" "bool" = some false)
  | .dict ((.list _, _) :: _) => (by decide +kernel : kitB "list" "bool" = some false)
  | .dict ((.tuple _, _) :: _) => (by decide +kernel : kitB "list" "bool" = some false)
  | .dict ((.dict _, _) :: _) => (by decide +kernel : kitB "list" "bool" = some false)
theorem kit_list : ∀ d : D, kitB (tyN d) "list" = some (isList d)
  | .none => (by decide +kernel : kitB "NoneType" "list" = some false)
  | .bool _ => (by decide +kernel : kitB "bool" "list" = some false)
  | .int _ => (by decide +kernel : kitB "int" "list" = some false)
  | .str _ => (by decide +kernel : kitB "str" "list" = some false)
  | .list _ => (by decide +kernel : kitB "list" "list" = some true)
  | .tuple _ => (by decide +kernel : kitB "tuple" "list" = some false)
  | .dict [] => (by decide +kernel : kitB "dict" "list" = some false)
  | .dict ((.bool _, _) :: _) => (by decide +kernel : kitB "dict" "list" = some false)
  | .dict ((.none, _) :: _) => (by decide +kernel : kitB "list" "list" = some true)
  | .dict ((.int _, _) :: _) => (by decide +kernel : kitB "list" "list" = some true)
  | .dict ((.str _, _) :: _) => (by decide +kernel : kitB "list" "list" = some true)
  | .dict ((.list _, _) :: _) => (by decide +kernel : kitB "list" "list" = some true)
  | .dict ((.tuple _, _) :: _) => (by decide +kernel : kitB "list" "list" = some true)
  | .dict ((.dict _, _) :: _) => (by decide +kernel : kitB "list" "list" = some true)
theorem kit_tup : ∀ d : D, kitB (tyN d) "tuple" = some (isTup d)
  | .none => (by decide +kernel : kitB "NoneType" "tuple" = some false)
  | .bool _ => (by decide +kernel : kitB "bool" "tuple" = some false)
  | .int _ => (by decide +kernel : kitB "int" "tuple" = some false)
  | .str _ => (by decide +kernel : kitB "str" "tuple" = some false)
  | .list _ => (by decide +kernel : kitB "list" "tuple" = some false)
  | .tuple _ => (by decide +kernel : kitB "tuple" "tuple" = some true)
  | .dict [] => (by decide +kernel : kitB "dict" "tuple" = some false)
  | .dict ((.bool _, _) :: _) => (by decide +kernel : kitB "dict" "tuple" = some false)
  | .dict ((.none, _) :: _) => (by decide +kernel : kitB "list" "tuple" = some false)
  | .dict ((.int _, _) :: _) => (by decide +kernel : kitB "list" "tuple" = some false)
  | .dict ((.str _, _) :: _) => (by decide +kernel : kitB "list" "tuple" = some false)
  | .dict ((.list _, _) :: _) => (by decide +kernel : kitB "list" "tuple" = some false)
  | .dict ((.tuple _, _) :: _) => (by decide +kernel : kitB "list" "tuple" = some false)
  | .dict ((.dict _, _) :: _) => (by decide +kernel : kitB "list" "tuple" = some false)
theorem ty_of {K : PySem.W.Frag} {B H : Hp} {v : V} {d : D} (s : Same B H) (h : Dq K B v d) : TyX K H v (.type (tyN d)) := by
  cases h with
  | non => exact .base .non
  | bl b => exact .base (.bl b)
  | int i => exact .base (.int i)
  | str x => exact .base (.str x)
  | lst r a =>
    rcases r with r | ⟨o, r⟩
    · exact .base (.lst (s _ _ r))
    · exact .base (.frz (s _ _ r))
  | tup r a => exact .base (.tup (s _ _ r))
  | emp r => exact .base (.dK (s _ _ r))
  | scr r =>
    rcases r with (r | ⟨o, r⟩) | ⟨o, its, n, r, c, _⟩
    · exact .base (.lst (s _ _ r))
    · exact .base (.frz (s _ _ r))
    · exact .kList r c
  | dct r => exact .base (.dT (s _ _ r))
section
variable {X : Cx} {E : XK} {e a b c : Expr} {es : List Expr} {pos p : Pos} {m ma mb mc : Rho → Rs TD} {ms : Rho → Rs (List D × List Nat)} {mt mu : Rho → Rs Bool}
def mIsi (f : D → Bool) (m : Rho → Rs TD) : Rho → Rs TD := fun ρ => (m ρ).bind fun q => .ok (.bool (f q.1), [])
theorem de_isi {T : String} {f : D → Bool} {x : Str} {pT : Pos} (hT : ∀ d, kitB (tyN d) T = some (f d)) (hv : bootBuiltins x = some (.type T)) (hgI : Gl X "isinstance") (hmI : X.mg "isinstance" = none) (hg : Gl X x) (hm : X.mg x = none) (he : DE X E e m)
    (hn : x ≠ "__name__" := by decide) (hdb : (x == ("__debug__" : Str)) = false := by decide)
    (h1 : starEach [e, .Name x pT] X.env = (false, eval e X.env) :: starEach [.Name x pT] X.env := by rfl) (h2 : starEach [.Name x pT] X.env = (false, eval (.Name x pT) X.env) :: starEach [] X.env := by rfl)
    (hpl : (backTo pos (starEach [.Name x pT] X.env)).any (·.1) = false := by rfl) : DE X E (.Call (.Name "isinstance" p) [e, .Name x pT] [] pos) (mIsi f m) := by
  refine ⟨pe_wk (pe_callB call_isi hgI hmI boot_isinstance (pa_cons he.pe (pa_cons (pe_bltn (v := .ty T) hg hm hv rfl hn hdb) pa_nil h2) h1) (by decide) (by decide) h1 hpl) fun σ H Q h => ?_, fun ρ d t h => ?_⟩
  · obtain ⟨Be, He, B, ρ, ev, h⟩ := h
    refine ⟨Be, He, B, ρ, ev, ?_⟩
    unfold mIsi at h
    cases r : m ρ with
    | no => rw [r] at h; exact h
    | ex c => rw [r] at h; exact h
    | ok q =>
      obtain ⟨d, t⟩ := q
      rw [r] at h
      intro v B1 H1 x1 dv
      exact ⟨v, .ty T, .type (tyN d), .type T, f d, rfl, .ty T, ty_of (ev.up x1).ba_h dv, kit_ty (hT d), h _ B1 H1 x1 (.bl _)⟩
  · unfold mIsi at h
    cases r : m ρ with
    | no => rw [r] at h; cases h
    | ex c => rw [r] at h; cases h
    | ok q => rw [r] at h; cases h; exact .nil

/-! ### str.join -/
def asStrs : List D → Option (List Str)
  | [] => some []
  | .str x :: r => (asStrs r).map (x :: ·)
  | _ :: _ => none
theorem asStrs_of {H : Hp} : ∀ {vs : List V} {ds : List D} {ns : List Str}, DqAll K H vs ds → asStrs ds = some ns → vs = ns.map V.str
  | _, _, _, .nil, e => by cases e; rfl
  | _, _, ns, .cons r t, e => by
    cases r with
    | str i =>
      unfold asStrs at e
      cases q : asStrs _ with
      | none => rw [q] at e; cases e
      | some ms =>
        rw [q] at e
        cases e
        rw [asStrs_of t q]
        rfl
    | _ => exact nomatch e
theorem asStrs_map (ns : List Str) : asStrs (ns.map PyData.str) = some ns := by
  induction ns with
  | nil => rfl
  | cons n r ih => show (asStrs (r.map PyData.str)).map (n :: ·) = _; rw [ih]; rfl
def joinD : D → D → Option D
  | .str a, .list ds => (asStrs ds).bind fun ys => if (ys.map (·.length)).sum + ys.length * a.length ≤ 16777216 then some (.str (Str.join a ys)) else none
  | _, _ => none
def mJ (ma m : Rho → Rs TD) : Rho → Rs TD := fun ρ => (ma ρ).bind fun q => match q.1 with
  | .str a => (m ρ).bind fun r => fin [] (joinD (.str a) r.1)
  | _ => .no
theorem de_join {apos : Pos} (ho : DE X E a ma) (he : DE X E e m) (hs : starEach [e] X.env = [(false, eval e X.env)] := by rfl) (hbase : attributeBase a "join" X.env (eval a X.env) = eval a X.env := by rfl) (hline : (apos.endLine == pos.line) = true := by rfl) :
    DE X E (.Call (.Attribute a "join" apos) [e] [] pos) (mJ ma m) := by
  refine ⟨pe_wk (pe_join ho.pe he.pe hs hbase hline) fun σ H Q h => ?_, fun ρ d t h => ?_⟩
  · obtain ⟨Be, He, B, ρ, ev, h⟩ := h
    refine ⟨Be, He, B, ρ, ev, ?_⟩
    unfold mJ at h
    cases r1 : ma ρ with
    | no => rw [r1] at h; exact h
    | ex c => rw [r1] at h; exact h
    | ok q1 =>
      obtain ⟨d, t⟩ := q1
      rw [r1] at h
      intro v B1 H1 x1 dv1
      have ev1 := ev.up x1
      cases d with
      | str z =>
        cases dv1
        refine ⟨⟨_, rfl⟩, Be, He, B1, ρ, ev1, ?_⟩
        dsimp only [Rs.bind] at h
        cases r2 : m ρ with
        | no => rw [r2] at h; exact h
        | ex c => rw [r2] at h; exact h
        | ok q2 =>
          obtain ⟨e2, u⟩ := q2
          rw [r2] at h
          intro w B2 H2 x2 dv2
          have ev2 := ev1.up x2
          dsimp only at h
          cases rJ : joinD (.str z) e2 with
          | none => rw [rJ] at h; exact h.elim
          | some z2 =>
            rw [rJ] at h
            unfold joinD at rJ
            split at rJ
            · rename_i z' ds e1
              cases e1
              cases dv2 with
              | lst r al =>
                cases q : asStrs ds with
                | none => rw [q] at rJ; cases rJ
                | some ys =>
                  rw [q] at rJ
                  dsimp only [Option.bind] at rJ
                  split at rJ
                  · rename_i c
                    cases rJ
                    have e := asStrs_of al q
                    subst e
                    refine ⟨_, _, ys, rfl, rfl, .inl (.inl (Same.rd ev2.ba_h r)), c, ?_⟩
                    rw [TL.join_eq]
                    exact h _ B2 H2 (x1.trans x2) (.str _)
                  · cases rJ
            · cases rJ
      | _ => exact h.elim
  · unfold mJ at h
    cases r1 : ma ρ with
    | no => rw [r1] at h; cases h
    | ex c => rw [r1] at h; cases h
    | ok q1 =>
      rw [r1] at h
      dsimp only [Rs.bind] at h
      split at h
      · cases r2 : m ρ with
        | no => rw [r2] at h; cases h
        | ex c => rw [r2] at h; cases h
        | ok q2 =>
          rw [r2] at h
          obtain ⟨_, e⟩ := fin_ok h
          subst e
          exact keepT_own .nil
      · cases h

/-! ### displays -/
def tupF (ds : List D) : Option D := if ds.length ≤ 1000 then some (.tuple ds) else none
def lstF (ds : List D) : Option D := if ds.length ≤ 1000 then some (.list ds) else none
theorem few {n : Nat} (h : n ≤ 1000) : n ≤ sizeLine := Nat.le_of_lt (small1000 h)
theorem f_tup : OpOk K (fun xs H Q => xs.length ≤ sizeLine ∧ ∀ p, H p = none → Q (.ref p) (upd H p (.tup xs))) tupF := by
  intro B vs ds H Q s hv h
  unfold tupF at h
  split at h
  · rename_i c
    exact ⟨few (by rw [hv.length]; exact c), new_tup s h hv⟩
  · exact h.elim
theorem f_lst : OpOk K (fun xs H Q => xs.length ≤ sizeLine ∧ ∀ p, H p = none → Q (.ref p) (upd H p (.lst xs))) lstF := by
  intro B vs ds H Q s hv h
  unfold lstF at h
  split at h
  · rename_i c
    exact ⟨few (by rw [hv.length]; exact c), new_list s h hv⟩
  · exact h.elim
theorem de_tup {k : Nat} (ha : DA X E es ms) : DE X E (.Tuple es k pos) (mF tupF ms) := ⟨pe_wk (pe_tup ha.pa) fun σ H Q h => args_op ha.tn f_tup h, mF_tn ha.tn⟩
theorem de_lst (ha : DA X E es ms) : DE X E (.List es pos) (mF lstF ms) := ⟨pe_wk (pe_lst ha.pa) fun σ H Q h => args_op ha.tn f_lst h, mF_tn ha.tn⟩
def negF : List D → Option D
  | [.int i] => some (.int (-i))
  | _ => none
theorem de_neg (ha : DE X E a m) : DE X E (.UnaryOp .USub a pos) (mF negF (mCons m mNil)) := by
  refine ⟨pe_wk (pe_un un_neg ha.pe) fun σ H Q h => ?_, mF_tn fun ρ d t h => ?_⟩
  · obtain ⟨Be, He, B, ρ, ev, h⟩ := h
    refine ⟨Be, He, B, ρ, ev, ?_⟩
    unfold mF mCons mNil at h
    cases r1 : m ρ with
    | no => rw [r1] at h; exact h
    | ex c => rw [r1] at h; exact h
    | ok q1 =>
      obtain ⟨d, t⟩ := q1
      rw [r1] at h
      intro v B1 H1 x1 dv1
      cases d with
      | int i => cases dv1; exact ⟨i, rfl, h _ B1 H1 x1 (.int _)⟩
      | _ => exact h.elim
  · obtain ⟨d1, t1, d2, t2, r1, r2, e1, e2⟩ := mCons_ok h
    cases r2
    subst e2
    exact (ha.tn ρ _ _ r1).app .nil

def intAF (ds : List D) : Option D := match ds with
  | [.str _] => intSF ds
  | _ => intF ds
theorem f_intA : OpOk K (fun xs H Q => ((∃ i, xs = [.int i] ∧ Q (.int i) H) ∨ ∃ k, xs = [.bl k] ∧ Q (.int (if k then 1 else 0)) H) ∨ ∃ a n, xs = [.str a] ∧ PySem.intText? a = some n ∧ a.length ≤ 640 ∧ Q (.int n) H) intAF := by
  intro B vs ds H Q s hv h
  unfold intAF at h
  split at h
  · exact .inr (f_intS B vs _ H Q s hv h)
  · exact .inl (f_int B vs ds H Q s hv h)
theorem call_intA : CallR X (.type "int") (fun xs H Q => ((∃ i, xs = [.int i] ∧ Q (.int i) H) ∨ ∃ k, xs = [.bl k] ∧ Q (.int (if k then 1 else 0)) H) ∨ ∃ a n, xs = [.str a] ∧ PySem.intText? a = some n ∧ a.length ≤ 640 ∧ Q (.int n) H) := call_int1.or call_int_str
/-! ### a new list of one's own -/
def DnO (K : PySem.W.Frag) (mg : Str → Option Value) (E : XK) (He B H : Hp) (r : Rs (List D)) (Q : VK) : Prop := match r with
  | .ok ds => ∀ l vs B' H', Ext B H B' H' → B' l = none → H l = none → H' l = some (.lst vs) → DqAll K B' vs ds → Q (.ref l) H'
  | .ex c => XW mg E c He
  | .no => False
def tDO (K : PySem.W.Frag) (mg : Str → Option Value) (E : XK) (m : Rho → Rs (List D)) : TE := fun σ H Q => ∃ Be He B ρ, Ev K Be He B H σ ρ ∧ DnO K mg E He B H (m ρ) Q
def DO (X : Cx) (E : XK) (e : Expr) (m : Rho → Rs (List D)) : Prop := PE X e (tDO X.K X.mg E m)
def mOl (ms : Rho → Rs (List D × List Nat)) : Rho → Rs (List D) := fun ρ => (ms ρ).bind fun q => if q.2 = [] ∧ q.1.length ≤ 1000 then .ok q.1 else .no
theorem do_lst (ha : DA X E es ms) : DO X E (.List es pos) (mOl ms) := pe_wk (pe_lst ha.pa) fun σ H Q h => by
  obtain ⟨Be, He, B, ρ, ev, h⟩ := h
  refine ⟨Be, He, B, ρ, ev, ?_⟩
  unfold mOl at h
  cases r1 : ms ρ with
  | no => rw [r1] at h; exact h
  | ex c => rw [r1] at h; exact h
  | ok q1 =>
    obtain ⟨ds, t⟩ := q1
    rw [r1] at h
    intro vs B1 H1 x1 dv1
    dsimp only [Rs.bind] at h
    split at h
    · rename_i c
      obtain ⟨c1, c2⟩ := c
      subst c1
      have ev1 := ev.up x1
      have dv1 : DqAll X.K B1 vs ds := dv1
      refine ⟨few (by rw [dv1.length]; exact c2), fun p hp => h p vs B1 (upd H1 p (.lst vs)) (x1.trans (.same ev1.bh fun a o q => by rw [upd_ne (ne_of_none q hp)]; exact q)) (ev1.bh.free hp) (x1.h.free hp) upd_same dv1⟩
    · exact h.elim
def mOr2 (ma : Rho → Rs (List D)) (mb : Rho → Rs TD) : Rho → Rs (List D) := fun ρ => (ma ρ).bind fun ds => (mb ρ).bind fun q => match q.1 with
  | .int k => if -(2 ^ 63) ≤ k ∧ k < 2 ^ 63 ∧ ds.length * k.toNat ≤ sizeLine then .ok (List.replicate k.toNat ds).flatten else .no
  | _ => .no
theorem do_rep {mo : Rho → Rs (List D)} (ha : DO X E a mo) (hb : DE X E b mb) : DO X E (.BinOp a .Mult b pos) (mOr2 mo mb) := pe_wk (pe_op op_rep ha hb.pe) fun σ H Q h => by
  obtain ⟨Be, He, B, ρ, ev, h⟩ := h
  refine ⟨Be, He, B, ρ, ev, ?_⟩
  unfold mOr2 at h
  cases r1 : mo ρ with
  | no => rw [r1] at h; exact h
  | ex c => rw [r1] at h; exact h
  | ok ds =>
    rw [r1] at h
    intro l vs B1 H1 x1 b1 h1 h2 dv1
    have ev1 := ev.up x1
    refine ⟨Be, He, B1, ρ, ev1, ?_⟩
    cases r2 : mb ρ with
    | no => rw [r2] at h; exact h
    | ex c => rw [r2] at h; exact h
    | ok q2 =>
      obtain ⟨d2, t2⟩ := q2
      rw [r2] at h
      intro w B2 H2 x2 dv2
      have ev2 := ev1.up x2
      dsimp only [Rs.bind] at h
      cases d2 with
      | int k =>
        cases dv2
        dsimp only at h
        split at h
        · rename_i c
          refine ⟨_, _, _, rfl, rfl, x2.h _ _ h2, c.1, c.2.1, by rw [dv1.length]; exact c.2.2, fun p hp => ?_⟩
          exact h p _ B2 (upd H2 p _) ((x1.trans x2).trans (.same ev2.bh fun a o q => by rw [upd_ne (ne_of_none q hp)]; exact q)) (ev2.bh.free hp) ((x1.trans x2).h.free hp) upd_same ((dv1.up x2.b).rep _)
        · exact h.elim
      | _ => exact h.elim
/-- list(x) -/
def mOc (m : Rho → Rs TD) : Rho → Rs (List D) := fun ρ => (m ρ).bind fun q => if q.2 = [] then (match q.1 with
  | .list ds => .ok ds
  | .tuple ds => .ok ds
  | _ => .no) else .no
theorem do_list {x : Str} (hg : Gl X x) (hm : X.mg x = none) (hv : bootBuiltins x = some (.type "list")) (he : DE X E e m)
    (hn : x ≠ "__name__" := by decide) (hdb : (x == ("__debug__" : Str)) = false := by decide)
    (hs : starEach [e] X.env = (false, eval e X.env) :: starEach [] X.env := by rfl) (hpl : (backTo pos (starEach [] X.env)).any (·.1) = false := by rfl) : DO X E (.Call (.Name x p) [e] [] pos) (mOc m) := pe_wk (pe_callTy call_list_of hg hm hv (pa_cons he.pe pa_nil hs) hn hdb hs hpl) fun σ H Q h => by
  obtain ⟨Be, He, B, ρ, ev, h⟩ := h
  refine ⟨Be, He, B, ρ, ev, ?_⟩
  unfold mOc at h
  cases r1 : m ρ with
  | no => rw [r1] at h; exact h
  | ex c => rw [r1] at h; exact h
  | ok q1 =>
    obtain ⟨d, t⟩ := q1
    rw [r1] at h
    intro v B1 H1 x1 dv1
    have ev1 := ev.up x1
    dsimp only [Rs.bind] at h
    split at h
    · rename_i c
      have c : t = [] := c
      subst c
      have dv1 : Dq X.K B1 v d := dv1
      have go : ∀ {vs ds}, DqAll X.K B1 vs ds → DnO X.K X.mg E He B H (.ok ds) Q → ∀ l, H1 l = none → Q (.ref l) (upd H1 l (.lst vs)) := fun {vs ds} al h p hp =>
        h p vs B1 (upd H1 p (.lst vs)) (x1.trans (.same ev1.bh fun a o q => by rw [upd_ne (ne_of_none q hp)]; exact q)) (ev1.bh.free hp) (x1.h.free hp) upd_same al
      cases d with
      | list ds => cases dv1 with | lst r al => exact ⟨_, _, rfl, .inl (.inl (Same.rd ev1.bh r)), go al h⟩
      | tuple ds => cases dv1 with | tup r al => exact ⟨_, _, rfl, .inr (.inl (Same.rd ev1.bh (.of r))), go al h⟩
      | _ => exact h.elim
    · exact h.elim
/-- as a value -/
def mO (m : Rho → Rs (List D)) : Rho → Rs TD := fun ρ => (m ρ).bind fun ds => .ok (.list ds, [])
theorem ext_put {B H B' H' : Hp} {l : Addr} {vs : List V} (s0 : Same B H) (x : Ext B H B' H') (hl : H l = none) (bl : B' l = none) (h : H' l = some (.lst vs)) : Ext B H (upd B' l (.lst vs)) H' := by
  refine ⟨fun a o q => ?_, x.h, fun a o q => ?_, fun a q1 q2 => ?_⟩
  · have ne : a ≠ l := ne_of_none (s0 a o q) hl
    rw [upd_ne ne]; exact x.b a o q
  · by_cases e : a = l
    · subst e; rw [upd_same] at q; rw [h, ← q]
    · rw [upd_ne e] at q; exact x.s a o q
  · by_cases e : a = l
    · subst e; exact absurd hl q2
    · rw [upd_ne e]; exact x.f a q1 q2
theorem de_o {mo : Rho → Rs (List D)} (h : DO X E e mo) : DE X E e (mO mo) := by
  refine ⟨pe_wk h fun σ H Q h => ?_, fun ρ d t h => ?_⟩
  · obtain ⟨Be, He, B, ρ, ev, h⟩ := h
    refine ⟨Be, He, B, ρ, ev, ?_⟩
    unfold mO at h
    cases r1 : mo ρ with
    | no => rw [r1] at h; exact h
    | ex c => rw [r1] at h; exact h
    | ok ds =>
      rw [r1] at h
      intro l vs B1 H1 x1 b1 h1 h2 dv1
      have x2 := ext_put ev.bh x1 h1 b1 h2
      refine h _ _ H1 x2 (.lst (.of upd_same) (dv1.up fun a o q => ?_))
      show upd B1 l (.lst vs) a = some o
      rw [upd_ne (ne_of_none q b1)]; exact q
  · unfold mO at h
    cases r1 : mo ρ with
    | no => rw [r1] at h; cases h
    | ex c => rw [r1] at h; cases h
    | ok ds => rw [r1] at h; cases h; exact .nil
end
end PL

set_option Elab.async false
set_option linter.all false
set_option maxRecDepth 100000
set_option maxHeartbeats 1000000
namespace PL
open PySem PySem.Spec PyProof.Rows L2
variable {K : PySem.W.Frag}

/-! ### what a statement comes to -/
inductive Fl where
  | nx (ρ : Rho)
  | rt (d : D)
  | bk (ρ : Rho)
  | ct (ρ : Rho)
  | ex (c : Str)
  | no
def DnS (K : PySem.W.Frag) (mg : Str → Option Value) (E : XK) (Be He B : Hp) (f : Fl) (D : Ends) : Prop := match f with
  | .nx ρ => ∀ σ B' H, Ev K Be He B' H σ ρ → Same B B' → D.nx σ H
  | .bk ρ => ∀ σ B' H, Ev K Be He B' H σ ρ → Same B B' → D.bk σ H
  | .ct ρ => ∀ σ B' H, Ev K Be He B' H σ ρ → Same B B' → D.ct σ H
  | .rt d => ∀ v H, Same He H → Same Be H → Dq K (Mx Be He H) v d → D.rt v H
  | .ex c => XW mg E c He
  | .no => False
theorem DnS.mono {mg : Str → Option Value} {E : XK} {Be He B B1 : Hp} {f : Fl} {D : Ends} (s : Same B B1) (h : DnS K mg E Be He B f D) : DnS K mg E Be He B1 f D := by
  cases f with
  | nx ρ => exact fun σ B' H ev z => h σ B' H ev (s.trans z)
  | rt d => exact h
  | bk ρ => exact fun σ B' H ev z => h σ B' H ev (s.trans z)
  | ct ρ => exact fun σ B' H ev z => h σ B' H ev (s.trans z)
  | ex c => exact h
  | no => exact h
def tDS (K : PySem.W.Frag) (mg : Str → Option Value) (E : XK) (m : Rho → Fl) : TS := fun D σ H => ∃ Be He B ρ, Ev K Be He B H σ ρ ∧ DnS K mg E Be He B (m ρ) D
def DS (X : Cx) (E : XK) (st : Stmt) (m : Rho → Fl) : Prop := PS X st (tDS X.K X.mg E m)
def DSs (X : Cx) (E : XK) (st : List Stmt) (m : Rho → Fl) : Prop := PSs X st (tDS X.K X.mg E m)
def mNext : Rho → Fl := fun ρ => .nx ρ
def Fl.then (f : Fl) (k : Rho → Fl) : Fl := match f with
  | .nx ρ => k ρ
  | f => f
@[simp] theorem Fl.then_nx (ρ : Rho) (k : Rho → Fl) : (Fl.nx ρ).then k = k ρ := nr rfl
@[simp] theorem Fl.then_rt (d : D) (k : Rho → Fl) : (Fl.rt d).then k = .rt d := nr rfl
@[simp] theorem Fl.then_bk (ρ : Rho) (k : Rho → Fl) : (Fl.bk ρ).then k = .bk ρ := nr rfl
@[simp] theorem Fl.then_ct (ρ : Rho) (k : Rho → Fl) : (Fl.ct ρ).then k = .ct ρ := nr rfl
@[simp] theorem Fl.then_ex (c : Str) (k : Rho → Fl) : (Fl.ex c).then k = .ex c := nr rfl
@[simp] theorem Fl.then_no (k : Rho → Fl) : Fl.no.then k = .no := nr rfl
def mSeq (a b : Rho → Fl) : Rho → Fl := fun ρ => (a ρ).then b
def Rs.fl {α : Type} (r : Rs α) (f : α → Fl) : Fl := match r with
  | .ok a => f a
  | .ex c => .ex c
  | .no => .no
@[simp] theorem Rs.fl_ok {α : Type} (a : α) (f : α → Fl) : (Rs.ok a).fl f = f a := nr rfl
@[simp] theorem Rs.fl_ex {α : Type} (c : Str) (f : α → Fl) : (Rs.ex c : Rs α).fl f = .ex c := nr rfl
@[simp] theorem Rs.fl_no {α : Type} (f : α → Fl) : (Rs.no : Rs α).fl f = .no := nr rfl
section
variable {X : Cx} {E : XK} {e a b c : Expr} {es : List Expr} {pos p : Pos} {m ma mb mc : Rho → Rs TD} {ms : Rho → Rs (List D × List Nat)} {mt mu : Rho → Rs Bool} {st : Stmt} {rest : List Stmt} {k l : Rho → Fl}
theorem DnS.cut {mg : Str → Option Value} {Be He B : Hp} {f : Fl} {g : Rho → Fl} {D : Ends} (h : DnS K mg E Be He B (f.then g) D) : DnS K mg E Be He B f { D with nx := tDS K mg E g D } := by
  cases f with
  | nx ρ => exact fun σ B1 H ev z => ⟨Be, He, B1, ρ, ev, h.mono z⟩
  | rt d => exact h
  | bk ρ => exact h
  | ct ρ => exact h
  | ex c => exact h
  | no => exact h
theorem dss_nil : DSs X E [] mNext := pss_wk pss_nil fun D σ H h => by
  obtain ⟨Be, He, B, ρ, ev, h⟩ := h
  exact h σ B H ev (.refl _)
theorem dss_cons (h1 : DS X E st k) (h2 : DSs X E rest l) : DSs X E (st :: rest) (mSeq k l) := pss_wk (pss_cons h1 h2) fun D σ H h => by
  obtain ⟨Be, He, B, ρ, ev, h⟩ := h
  exact ⟨Be, He, B, ρ, ev, h.cut⟩
theorem dss_one (h1 : DS X E st k) : DSs X E [st] k := pss_one h1
theorem ds_pass : DS X E (.Pass pos) mNext := ps_wk ps_pass fun D σ H h => by
  obtain ⟨Be, He, B, ρ, ev, h⟩ := h
  exact h σ B H ev (.refl _)
theorem ds_break : DS X E (.Break pos) (fun ρ => .bk ρ) := ps_wk ps_break fun D σ H h => by
  obtain ⟨Be, He, B, ρ, ev, h⟩ := h
  exact h σ B H ev (.refl _)
theorem ds_cont : DS X E (.Continue pos) (fun ρ => .ct ρ) := ps_wk ps_continue fun D σ H h => by
  obtain ⟨Be, He, B, ρ, ev, h⟩ := h
  exact h σ B H ev (.refl _)
def mRet (m : Rho → Rs TD) : Rho → Fl := fun ρ => (m ρ).fl fun q => .rt q.1
theorem dv_mx {Be He B H : Hp} {σ : L2.St} {ρ : Rho} {t : List Nat} {v : V} {d : D} (ev : Ev K Be He B H σ ρ) (ot : OwT ρ t) (h : DV K σ B H t v d) : Dq K (Mx Be He H) v d := Dq.up h (ev.ba_mx ot)
theorem ds_ret (he : DE X E e m) : DS X E (.Return (some e) pos) (mRet m) := ps_wk (ps_ret he.pe) fun D σ H h => by
  obtain ⟨Be, He, B, ρ, ev, h⟩ := h
  refine ⟨Be, He, B, ρ, ev, ?_⟩
  unfold mRet at h
  cases r : m ρ with
  | no => rw [r] at h; exact h
  | ex c => rw [r] at h; exact h
  | ok q =>
    obtain ⟨d, t⟩ := q
    rw [r] at h
    exact fun v B1 H1 x1 dv => h v H1 (ev.he.trans x1.h) ((ev.be.trans ev.bh).trans x1.h) (dv_mx (ev.up x1) (he.tn ρ _ _ r) dv)
theorem ds_retN : DS X E (.Return none pos) (fun _ => .rt .none) := ps_wk ps_retN fun D σ H h => by
  obtain ⟨Be, He, B, ρ, ev, h⟩ := h
  exact h .non H ev.he (ev.be.trans ev.bh) .non
def mExpr (m : Rho → Rs TD) : Rho → Fl := fun ρ => (m ρ).fl fun _ => .nx ρ
theorem ds_expr (he : DE X E e m) (hs : swapsWith e none pos.line X.env = pure false := by rfl) : DS X E (.Expr e pos) (mExpr m) := ps_wk (ps_expr he.pe hs) fun D σ H h => by
  obtain ⟨Be, He, B, ρ, ev, h⟩ := h
  refine ⟨Be, He, B, ρ, ev, ?_⟩
  unfold mExpr at h
  cases r : m ρ with
  | no => rw [r] at h; exact h
  | ex c => rw [r] at h; exact h
  | ok q =>
    obtain ⟨d, t⟩ := q
    rw [r] at h
    exact fun v B1 H1 x1 dv => h σ B1 H1 (ev.up x1) x1.b
def mIf (t : Rho → Rs Bool) (k l : Rho → Fl) : Rho → Fl := fun ρ => (t ρ).fl fun c => if c = true then k ρ else l ρ
theorem ds_if {body els : List Stmt} (ht : DT X E c mt) (ha : DSs X E body k) (hb : DSs X E els l) : DS X E (.If c body els pos) (mIf mt k l) := ps_wk (ps_if ht ha hb) fun D σ H h => by
  obtain ⟨Be, He, B, ρ, ev, h⟩ := h
  refine ⟨Be, He, B, ρ, ev, ?_⟩
  unfold mIf at h
  cases r : mt ρ with
  | no => rw [r] at h; exact h
  | ex c => rw [r] at h; exact h
  | ok q =>
    rw [r] at h
    intro B1 H1 x1
    cases q with
    | true => exact iteT ⟨Be, He, B1, ρ, ev.up x1, DnS.mono x1.b h⟩
    | false => exact iteF ⟨Be, He, B1, ρ, ev.up x1, DnS.mono x1.b h⟩
/-- raise X('..') -/
theorem ds_raise {x z : Str} {j : Nat} {p2 p3 : Pos} {C : Addr} {bmB : List Value} {Bn newId initId : String} (hc : X.calm = true) (tk : Takes X (fun cls d _ H => E cls d H)) (F : ExcBaseFacts Bn newId initId bmB) (q : PySem.W.excIn X.K C bmB newId = true) (gC : X.mg x = some (.ref C)) (kC : PySem.W.keepIn X.K (.ref C) = true)
    (r : Raises X (.ref C)) (hg : Gl X x) (hdb : (x == ("__debug__" : Str)) = false := by decide) : DS X E (.Raise (some (.Call (.Name x p) [.Constant (.str z) j p2] [] pos)) none p3) (fun _ => .ex x) := ps_wk (ps_raise hc tk (pmk_own F q gC kC r hg hdb)) fun D σ H h => by
  obtain ⟨Be, He, B, ρ, ev, h⟩ := h
  exact h C H gC ev.he
theorem ds_never : DS X E st (fun _ => .no) := ps_wk ps_never fun D σ H h => by
  obtain ⟨Be, He, B, ρ, ev, h⟩ := h
  exact h

/-! ### the slots -/
theorem frz_get {ρ : Rho} {i : Nat} {s : Sl} : ∀ {t : List Nat}, (frzT t ρ)[i]? = some s → ρ[i]? = some s ∨ ∃ ds, s = .im (.list ds) ∧ ρ[i]? = some (.ow ds) ∧ i ∈ t
  | [], h => .inl h
  | j :: r, h => by
    unfold frzT at h
    split at h
    · rename_i ds hd
      by_cases e : j = i
      · subst e
        have hj : j < (frzT r ρ).length := (List.getElem?_eq_some_iff.mp hd).1
        rw [List.getElem?_set_self hj] at h
        cases h
        rcases frz_get hd with q | ⟨_, q, _⟩
        · exact .inr ⟨ds, rfl, q, List.mem_cons_self⟩
        · cases q
      · rw [List.getElem?_set_ne e] at h
        rcases frz_get h with q | ⟨ds', q1, q2, q3⟩
        · exact .inl q
        · exact .inr ⟨ds', q1, q2, List.mem_cons_of_mem _ q3⟩
    · rcases frz_get h with q | ⟨ds', q1, q2, q3⟩
      · exact .inl q
      · exact .inr ⟨ds', q1, q2, List.mem_cons_of_mem _ q3⟩
theorem frz_len (ρ : Rho) : ∀ t : List Nat, (frzT t ρ).length = ρ.length
  | [] => rfl
  | j :: r => by
    unfold frzT
    split
    · rw [List.length_set]; exact frz_len ρ r
    · exact frz_len ρ r
theorem frz_out {ρ : Rho} {i : Nat} {ds : List D} : ∀ {t : List Nat}, (frzT t ρ)[i]? = some (.ow ds) → i ∉ t
  | [], _ => by simp
  | j :: r, h => by
    unfold frzT at h
    split at h
    · rename_i es hd
      by_cases e : j = i
      · subst e
        have hj : j < (frzT r ρ).length := (List.getElem?_eq_some_iff.mp hd).1
        rw [List.getElem?_set_self hj] at h
        cases h
      · rw [List.getElem?_set_ne e] at h
        have := frz_out h
        intro q
        rcases List.mem_cons.mp q with q | q
        · exact e q.symm
        · exact this q
    · rename_i hn
      have := frz_out h
      intro q
      rcases List.mem_cons.mp q with q | q
      · subst q
        exact hn ds h
      · exact this q
theorem own_of {t : List Nat} {σ : L2.St} {i : Nat} {l : Addr} (hi : i ∈ t) (h : σ[i]? = some (some (.ref l))) : own t σ l = true := List.any_eq_true.mpr ⟨i, hi, decide_eq_true h⟩
/-! names of dicts -/
theorem set_at {α : Type} {xs : List α} {i j : Nat} {x y : α} (h : (xs.set i x)[j]? = some y) : (i = j ∧ y = x) ∨ (i ≠ j ∧ xs[j]? = some y) := by
  by_cases e : i = j
  · subst e
    have hi : i < xs.length := by
      have := (List.getElem?_eq_some_iff.mp h).1
      rwa [List.length_set] at this
    rw [List.getElem?_set_self hi] at h
    exact .inl ⟨rfl, (Option.some.inj h).symm⟩
  · rw [List.getElem?_set_ne e] at h
    exact .inr ⟨e, h⟩
theorem NK.set {σ : L2.St} {ρ : Rho} (nk : NK σ ρ) (i : Nat) {v : Option V} {s : Sl} (hs : ∀ kvs, s ≠ .dk kvs) : NK (σ.set i v) (ρ.set i s) := fun j k ds es h1 h2 h3 => by
  rcases set_at h1 with ⟨_, q⟩ | ⟨e1, q1⟩
  · exact absurd q.symm (hs _)
  · rcases set_at h2 with ⟨_, q⟩ | ⟨e2, q2⟩
    · exact absurd q.symm (hs _)
    · rw [List.getElem?_set_ne e1, List.getElem?_set_ne e2] at h3
      exact nk j k ds es q1 q2 h3
theorem NK.set0 {σ : L2.St} {ρ : Rho} (nk : NK σ ρ) (i : Nat) {s : Sl} (hs : ∀ kvs, s ≠ .dk kvs) : NK σ (ρ.set i s) := fun j k ds es h1 h2 h3 => by
  rcases set_at h1 with ⟨_, q⟩ | ⟨e1, q1⟩
  · exact absurd q.symm (hs _)
  · rcases set_at h2 with ⟨_, q⟩ | ⟨e2, q2⟩
    · exact absurd q.symm (hs _)
    · exact nk j k ds es q1 q2 h3
theorem NK.mut {σ : L2.St} {ρ : Rho} (nk : NK σ ρ) {i : Nat} {ks ks' : List (List L2.Key × Int)} (hi : ρ[i]? = some (.dk ks)) : NK σ (ρ.set i (.dk ks')) := fun j k ds es h1 h2 h3 => by
  have old : ∀ (n : Nat) (fs : List (List L2.Key × Int)), (ρ.set i (.dk ks'))[n]? = some (.dk fs) → ∃ gs, ρ[n]? = some (.dk gs) := fun n fs h => by
    rcases set_at h with ⟨e, _⟩ | ⟨_, q⟩
    · subst e; exact ⟨ks, hi⟩
    · exact ⟨fs, q⟩
  obtain ⟨a1, b1⟩ := old j ds h1
  obtain ⟨a2, b2⟩ := old k es h2
  exact nk j k a1 a2 b1 b2 h3
theorem NK.put {σ : L2.St} {ρ : Rho} (nk : NK σ ρ) (i : Nat) {l : Addr} {ks : List (List L2.Key × Int)} (hl : σ.length = ρ.length) (apart : ∀ (j : Nat) (es : List (List L2.Key × Int)), ρ[j]? = some (.dk es) → σ[j]? ≠ some (some (.ref l))) : NK (σ.set i (some (.ref l))) (ρ.set i (.dk ks)) := fun j k ds es h1 h2 h3 => by
  have ii : ∀ {n fs}, (ρ.set i (.dk ks))[n]? = some (.dk fs) → i = n → (σ.set i (some (.ref l)))[n]? = some (some (.ref l)) := fun {n fs} h e => by
    subst e
    have := (List.getElem?_eq_some_iff.mp h).1
    rw [List.length_set] at this
    rw [List.getElem?_set_self (by omega)]
  rcases set_at h1 with ⟨e1, _⟩ | ⟨e1, q1⟩
  · rcases set_at h2 with ⟨e2, _⟩ | ⟨e2, q2⟩
    · exact e1.symm.trans e2
    · rw [ii h1 e1, List.getElem?_set_ne e2] at h3
      exact absurd h3.symm (apart k es q2)
  · rcases set_at h2 with ⟨e2, _⟩ | ⟨e2, q2⟩
    · rw [ii h2 e2, List.getElem?_set_ne e1] at h3
      exact absurd h3 (apart j ds q1)
    · rw [List.getElem?_set_ne e1, List.getElem?_set_ne e2] at h3
      exact nk j k ds es q1 q2 h3
/-! lists within lists -/
theorem NN.set {H : Hp} {σ : L2.St} {ρ : Rho} (nn : NN H σ ρ) (i : Nat) {v : Option V} {s : Sl} (hs : s.own = false) : NN H (σ.set i v) (ρ.set i s) := fun a j dss s' h1 h2 h3 h4 => by
  rcases set_at h1 with ⟨_, q⟩ | ⟨e1, q1⟩
  · rw [← q] at hs; cases hs
  · rcases set_at h2 with ⟨_, q⟩ | ⟨e2, q2⟩
    · rw [q, hs] at h3; cases h3
    · rw [List.getElem?_set_ne e1, List.getElem?_set_ne e2]
      exact nn a j dss s' q1 q2 h3 h4
/-- a new thing of one's own, apart from all lists within lists -/
theorem NN.put {H : Hp} {σ : L2.St} {ρ : Rho} (nn : NN H σ ρ) (i : Nat) {l : Addr} {s : Sl} (hl : σ.length = ρ.length) (hs : s.isNl = false)
    (apartN : ∀ (j : Nat) (dss : List (List D)) (l' : Addr) (ls : List Addr), ρ[j]? = some (.nl dss) → σ[j]? = some (some (.ref l')) → H l' = some (.lst (ls.map V.ref)) → l ≠ l' ∧ l ∉ ls) : NN H (σ.set i (some (.ref l))) (ρ.set i s) := fun a j dss s' h1 h2 h3 h4 => by
  rcases set_at h1 with ⟨_, q⟩ | ⟨e1, q1⟩
  · rw [← q] at hs; cases hs
  · rw [List.getElem?_set_ne e1]
    rcases set_at h2 with ⟨e2, q⟩ | ⟨e2, q2⟩
    · subst e2; subst q
      refine ⟨hs, fun l' b ls g1 g2 g3 => ?_⟩
      have hi := (List.getElem?_eq_some_iff.mp h2).1
      rw [List.length_set] at hi
      rw [List.getElem?_set_self (by omega)] at g3
      cases g3
      exact apartN a dss l' ls q1 g1 g2
    · rw [List.getElem?_set_ne e2]
      exact nn a j dss s' q1 q2 h3 h4
/-- a thing of one's own is changed -/
theorem NN.mut {H : Hp} {σ : L2.St} {ρ : Rho} (nn : NN H σ ρ) {i : Nat} {l : Addr} {o : HO} {s0 s : Sl} (hi : ρ[i]? = some s0) (h0 : s0.own = true) (hs : s.isNl = false) (hσ : σ[i]? = some (some (.ref l)))
    (hnl : ∀ (j : Nat) (dss : List (List D)) (l' : Addr), ρ[j]? = some (.nl dss) → σ[j]? = some (some (.ref l')) → ∃ ls : List Addr, H l' = some (.lst (ls.map V.ref))) : NN (upd H l o) σ (ρ.set i s) := fun a j dss s' h1 h2 h3 h4 => by
  rcases set_at h1 with ⟨_, q⟩ | ⟨e1, q1⟩
  · rw [← q] at hs; cases hs
  · have far : ∀ (l' : Addr) (ls : List Addr), σ[a]? = some (some (.ref l')) → upd H l o l' = some (.lst (ls.map V.ref)) → H l' = some (.lst (ls.map V.ref)) := fun l' ls g1 g2 => by
      obtain ⟨ls0, k⟩ := hnl a dss l' q1 g1
      have := ((nn a i dss s0 q1 hi h0 (fun e => e1 e.symm)).2 l' l ls0 g1 k hσ).1
      rwa [upd_ne (fun e => this e.symm)] at g2
    rcases set_at h2 with ⟨e2, q⟩ | ⟨e2, q2⟩
    · subst e2; subst q
      exact ⟨hs, fun l' b ls g1 g2 g3 => (nn a i dss s0 q1 hi h0 h4).2 l' b ls g1 (far l' ls g1 g2) g3⟩
    · obtain ⟨n1, n2⟩ := nn a j dss s' q1 q2 h3 h4
      exact ⟨n1, fun l' b ls g1 g2 g3 => n2 l' b ls g1 (far l' ls g1 g2) g3⟩
theorem Ev.nlAt {Be He B H : Hp} {σ : L2.St} {ρ : Rho} (ev : Ev K Be He B H σ ρ) (j : Nat) (dss : List (List D)) (l' : Addr) (h : ρ[j]? = some (.nl dss)) (g : σ[j]? = some (some (.ref l'))) : ∃ ls : List Addr, H l' = some (.lst (ls.map V.ref)) ∧ InL K H He B ls dss := by
  obtain ⟨l, ls, h1, h2, _, _, _, h7⟩ := ev.sl j _ h
  rw [g] at h1
  cases h1
  exact ⟨ls, h2, h7⟩
/-- what a list within lists is, later -/
theorem Ev.nlFar {Be He B H H' : Hp} {σ : L2.St} {ρ : Rho} (ev : Ev K Be He B H σ ρ) (s : Same H H') {a : Addr} (hl : H a = none) : ∀ (j : Nat) (dss : List (List D)) (l' : Addr) (ls : List Addr), ρ[j]? = some (.nl dss) → σ[j]? = some (some (.ref l')) → H' l' = some (.lst (ls.map V.ref)) → a ≠ l' ∧ a ∉ ls := fun j dss l' ls h1 h2 h3 => by
  obtain ⟨ls0, k1, k2⟩ := ev.nlAt j dss l' h1 h2
  have e := s _ _ k1
  rw [h3] at e
  have e2 : ls = ls0 := ref_inj (by injection e with e; injection e)
  subst e2
  refine ⟨fun e => ?_, fun e => ?_⟩
  · subst e; rw [hl] at k1; cases k1
  · obtain ⟨vs, ds, z, _⟩ := k2.mem e
    rw [hl] at z; cases z
/-- a change at an address outside leaves the lists within lists -/
theorem InL.upd {H He B : Hp} {ls : List Addr} {dss : List (List D)} (h : InL K H He B ls dss) {l : Addr} {o : HO} (hl : l ∉ ls) : InL K (upd H l o) He B ls dss := by
  refine ⟨h.n, h.nd, fun i a ds q1 q2 => ?_⟩
  obtain ⟨vs, z1, z2, z3, z4⟩ := h.at_ i a ds q1 q2
  refine ⟨vs, ?_, z2, z3, z4⟩
  rw [upd_ne (fun e : a = l => hl (by rw [← e]; exact List.mem_of_getElem? q1))]
  exact z1
/-- the lists at t stand still from now on -/
theorem Ev.freeze {Be He B H : Hp} {σ : L2.St} {ρ : Rho} (ev : Ev K Be He B H σ ρ) {t : List Nat} (ot : OwT ρ t) : Ev K Be He (Ba t σ B H) H σ (frzT t ρ) := by
  have bb := ev.b_ba ot
  refine ⟨ev.eb, ev.be.trans bb, fun a o h => ?_, ev.he, by rw [frz_len]; exact ev.len, fun i s hs => ?_, fun i j ds es h1 h2 h3 => ?_, (fun i j ds es h1 h2 h3 => by
    rcases frz_get h1 with q1 | ⟨_, q1, _⟩
    · rcases frz_get h2 with q2 | ⟨_, q2, _⟩
      · exact ev.nk i j ds es q1 q2 h3
      · cases q2
    · cases q1), fun i j dss s h1 h2 h3 h4 => by
    rcases frz_get h1 with q1 | ⟨_, q1, _⟩
    · rcases frz_get h2 with q2 | ⟨_, q2, _⟩
      · exact ev.nn i j dss s q1 q2 h3 h4
      · subst q2; cases h3
    · cases q1⟩
  · refine ⟨ev.ba_h a o h, ?_⟩
    unfold Ba at h
    split at h
    · rename_i w
      exact .inl (ev.own_at ot w).1
    · exact (ev.bm a o h).2
  · rcases frz_get hs with q | ⟨ds, q1, q2, q3⟩
    · have r := ev.sl i s q
      cases s with
      | un => trivial
      | im d => obtain ⟨v, h1, h2⟩ := r; exact ⟨v, h1, h2.up bb⟩
      | ow ds =>
        obtain ⟨l, vs, h1, h2, h3, h4, h5⟩ := r
        refine ⟨l, vs, h1, h2, h3.up bb, h4, ?_⟩
        unfold Ba
        split
        · rename_i w
          obtain ⟨j, hj, w⟩ := List.any_eq_true.mp w
          have w := of_decide_eq_true w
          obtain ⟨es, he⟩ := ot j hj
          have e : i = j := ev.nd i j ds es q he (by rw [h1, w])
          subst e
          exact absurd hj (frz_out hs)
        · exact h5
      | dk kvs =>
        obtain ⟨l, h1, h2, h4, h5⟩ := r
        refine ⟨l, h1, h2, h4, ?_⟩
        unfold Ba
        split
        · rename_i w
          obtain ⟨vs, e⟩ := ev.own_lst ot w
          rw [h2] at e
          cases e
        · exact h5
      | nl dss =>
        obtain ⟨l, ls, h1, h2, h4, h5, h6, h7⟩ := r
        have out : ∀ a, a = l ∨ a ∈ ls → own t σ a = false := fun a ha => by
          cases w : own t σ a with
          | false => rfl
          | true =>
            exfalso
            obtain ⟨j, hj, w⟩ := List.any_eq_true.mp w
            have w := of_decide_eq_true w
            obtain ⟨es, he⟩ := ot j hj
            have ne : i ≠ j := fun e => by subst e; rw [q] at he; cases he
            obtain ⟨k1, k2⟩ := (ev.nn i j dss _ q he rfl ne).2 l a ls h1 h2 w
            rcases ha with e | e
            · exact k1 e
            · exact k2 e
        have bb2 : ∀ a, a = l ∨ a ∈ ls → B a = none → Ba t σ B H a = none := fun a ha hb => by
          unfold Ba; rw [if_neg (by rw [out a ha]; exact Bool.false_ne_true)]; exact hb
        refine ⟨l, ls, h1, h2, h4, bb2 l (.inl rfl) h5, h6, h7.n, h7.nd, fun k a ds q1 q2 => ?_⟩
        obtain ⟨vs, z1, z2, z3, z4⟩ := h7.at_ k a ds q1 q2
        exact ⟨vs, z1, z2.up bb, z3, bb2 a (.inr (List.mem_of_getElem? q1)) z4⟩
    · subst q1
      obtain ⟨l, vs, h1, h2, h3, h4, h5⟩ := ev.sl i _ q2
      exact ⟨_, h1, .lst (.of ((Ba_own (own_of q3 h1)).trans h2)) (h3.up bb)⟩
  · rcases frz_get h1 with q1 | ⟨_, q1, _⟩
    · rcases frz_get h2 with q2 | ⟨_, q2, _⟩
      · exact ev.nd i j ds es q1 q2 h3
      · cases q2
    · cases q1
/-- a name is stored -/
theorem Ev.put {Be He B H : Hp} {σ : L2.St} {ρ : Rho} (ev : Ev K Be He B H σ ρ) (i : Nat) {v : V} {d : D} (h : Dq K B v d) : Ev K Be He B H (σ.set i (some v)) (ρ.set i (.im d)) := by
  refine ⟨ev.eb, ev.be, ev.bm, ev.he, by rw [List.length_set, List.length_set]; exact ev.len, fun j s hs => ?_, fun j k ds es h1 h2 h3 => ?_, (ev.nk.set i fun _ e => by cases e), ev.nn.set i rfl⟩
  · by_cases e : i = j
    · subst e
      have hi : i < ρ.length := by
        have := (List.getElem?_eq_some_iff.mp hs).1
        rwa [List.length_set] at this
      rw [List.getElem?_set_self hi] at hs
      cases hs
      exact ⟨v, List.getElem?_set_self (by rw [ev.len]; exact hi), h⟩
    · rw [List.getElem?_set_ne e] at hs
      have r := ev.sl j s hs
      rw [List.getElem?_set_ne e]
      exact r
  · have n1 : i ≠ j := fun e => by
      subst e
      have hi : i < ρ.length := by
        have := (List.getElem?_eq_some_iff.mp h1).1
        rwa [List.length_set] at this
      rw [List.getElem?_set_self hi] at h1; cases h1
    have n2 : i ≠ k := fun e => by
      subst e
      have hi : i < ρ.length := by
        have := (List.getElem?_eq_some_iff.mp h2).1
        rwa [List.length_set] at this
      rw [List.getElem?_set_self hi] at h2; cases h2
    rw [List.getElem?_set_ne n1] at h1 h3
    rw [List.getElem?_set_ne n2] at h2 h3
    exact ev.nd j k ds es h1 h2 h3
/-- a new list of one's own is stored -/
theorem Ev.putO {Be He B H : Hp} {σ : L2.St} {ρ : Rho} (ev : Ev K Be He B H σ ρ) (i : Nat) {l : Addr} {vs : List V} {ds : List D} (hl : H l = some (.lst vs)) (dv : DqAll K B vs ds) (hn : He l = none) (bn : B l = none)
    (apart : ∀ (j : Nat) (es : List D), ρ[j]? = some (.ow es) → σ[j]? ≠ some (some (.ref l))) (apartN : ∀ (j : Nat) (dss : List (List D)) (l' : Addr) (ls : List Addr), ρ[j]? = some (.nl dss) → σ[j]? = some (some (.ref l')) → H l' = some (.lst (ls.map V.ref)) → l ≠ l' ∧ l ∉ ls) : Ev K Be He B H (σ.set i (some (.ref l))) (ρ.set i (.ow ds)) := by
  refine ⟨ev.eb, ev.be, ev.bm, ev.he, by rw [List.length_set, List.length_set]; exact ev.len, fun j s hs => ?_, fun j k ds' es' h1 h2 h3 => ?_, (ev.nk.set i fun _ e => by cases e), ev.nn.put i ev.len rfl apartN⟩
  · by_cases e : i = j
    · subst e
      have hi : i < ρ.length := by
        have := (List.getElem?_eq_some_iff.mp hs).1
        rwa [List.length_set] at this
      rw [List.getElem?_set_self hi] at hs
      cases hs
      exact ⟨l, vs, List.getElem?_set_self (by rw [ev.len]; exact hi), hl, dv, hn, bn⟩
    · rw [List.getElem?_set_ne e] at hs
      have r := ev.sl j s hs
      rw [List.getElem?_set_ne e]
      exact r
  · by_cases e1 : i = j
    · by_cases e2 : i = k
      · exact e1.symm.trans e2
      · subst e1
        have hi : i < ρ.length := by
          have := (List.getElem?_eq_some_iff.mp h1).1
          rwa [List.length_set] at this
        rw [List.getElem?_set_ne e2] at h2 h3
        rw [List.getElem?_set_self (by rw [ev.len]; exact hi)] at h3
        exact absurd h3.symm (apart k es' h2)
    · by_cases e2 : i = k
      · subst e2
        have hi : i < ρ.length := by
          have := (List.getElem?_eq_some_iff.mp h2).1
          rwa [List.length_set] at this
        rw [List.getElem?_set_ne e1] at h1 h3
        rw [List.getElem?_set_self (by rw [ev.len]; exact hi)] at h3
        exact absurd h3 (apart j ds' h1)
      · rw [List.getElem?_set_ne e1] at h1 h3
        rw [List.getElem?_set_ne e2] at h2 h3
        exact ev.nd j k ds' es' h1 h2 h3
/-- a list of one's own is changed -/
theorem Ev.mut {Be He B H : Hp} {σ : L2.St} {ρ : Rho} (ev : Ev K Be He B H σ ρ) {i : Nat} {l : Addr} {ws : List V} {ds es : List D} (hi : ρ[i]? = some (.ow ds)) (hs : σ[i]? = some (some (.ref l))) (dv : DqAll K B ws es) :
    Ev K Be He B (upd H l (.lst ws)) σ (ρ.set i (.ow es)) := by
  obtain ⟨l', vs', g1, g2, g3, g4, g5⟩ := ev.sl i _ hi
  rw [hs] at g1
  cases g1
  have nb : ∀ a o, B a = some o → a ≠ l := fun a o q => ne_of_none q g5
  refine ⟨ev.eb, ev.be, fun a o q => by rw [upd_ne (nb a o q)]; exact ev.bm a o q, fun a o q => by rw [upd_ne (ne_of_none q g4)]; exact ev.he a o q, by rw [List.length_set]; exact ev.len, fun j s hsj => ?_, fun j k ds' es' h1 h2 h3 => ?_, (ev.nk.set0 i fun _ e => by cases e), ev.nn.mut hi rfl rfl hs fun j dss l' q1 q2 => (ev.nlAt j dss l' q1 q2).imp fun _ z => z.1⟩
  · by_cases e : i = j
    · subst e
      have hil : i < ρ.length := (List.getElem?_eq_some_iff.mp hi).1
      rw [List.getElem?_set_self hil] at hsj
      cases hsj
      exact ⟨l, ws, hs, upd_same, dv, g4, g5⟩
    · rw [List.getElem?_set_ne e] at hsj
      have r := ev.sl j s hsj
      cases s with
      | un => trivial
      | im d => exact r
      | ow fs =>
        obtain ⟨l2, vs2, k1, k2, k3, k4, k5⟩ := r
        refine ⟨l2, vs2, k1, ?_, k3, k4, k5⟩
        rw [upd_ne ?_]
        · exact k2
        · rintro rfl
          exact e (ev.nd i j ds fs hi hsj (by rw [hs, k1]))
      | dk kvs =>
        obtain ⟨l2, k1, k2, k4, k5⟩ := r
        refine ⟨l2, k1, ?_, k4, k5⟩
        rw [upd_ne (ne_of k2 g2 fun e => by cases e)]
        exact k2
      | nl dss =>
        obtain ⟨l2, ls, k1, k2, k4, k5, k6, k7⟩ := r
        obtain ⟨f1, f2⟩ := (ev.nn j i dss _ hsj hi rfl (fun z => e z.symm)).2 l2 l ls k1 k2 hs
        exact ⟨l2, ls, k1, by rw [upd_ne (fun z => f1 z.symm)]; exact k2, k4, k5, k6, k7.upd f2⟩
  · have old : ∀ (n : Nat) (fs : List D), (ρ.set i (.ow es))[n]? = some (.ow fs) → ∃ gs, ρ[n]? = some (.ow gs) := fun n fs h => by
      by_cases e : i = n
      · subst e; exact ⟨ds, hi⟩
      · rw [List.getElem?_set_ne e] at h; exact ⟨fs, h⟩
    obtain ⟨a1, b1⟩ := old j ds' h1
    obtain ⟨a2, b2⟩ := old k es' h2
    exact ev.nd j k a1 a2 b1 b2 h3
end
end PL

set_option Elab.async false
set_option linter.all false
set_option maxRecDepth 100000
set_option maxHeartbeats 1000000
namespace PL
open PySem PySem.Spec PyProof.Rows L2
variable {K : PySem.W.Frag}
section
variable {X : Cx} {E : XK} {e a b c : Expr} {es : List Expr} {pos p : Pos} {m ma mb mc : Rho → Rs TD} {ms : Rho → Rs (List D × List Nat)} {mt mu : Rho → Rs Bool} {st : Stmt} {rest : List Stmt} {k l : Rho → Fl}

/-! ### targets: the slots of the names is alone are stored -/
def tDG (K : PySem.W.Frag) (mg : D → Rho → Option Rho) (is : List Nat) : TG := fun v σ H Q => ∃ Be He B ρ d ρ', Ev K Be He B H σ ρ ∧ Dq K B v d ∧ mg d ρ = some ρ' ∧
  ∀ σ', Ev K Be He B H σ' ρ' → σ'.length = σ.length → (∀ i, i ∉ is → σ'[i]? = σ[i]?) → Q σ' H
def tDGs (K : PySem.W.Frag) (mg : List D → Rho → Option Rho) (is : List Nat) : TGs := fun vs σ H Q => ∃ Be He B ρ ds ρ', Ev K Be He B H σ ρ ∧ DqAll K B vs ds ∧ mg ds ρ = some ρ' ∧
  ∀ σ', Ev K Be He B H σ' ρ' → σ'.length = σ.length → (∀ i, i ∉ is → σ'[i]? = σ[i]?) → Q σ' H
def DG (X : Cx) (tg : Expr) (mg : D → Rho → Option Rho) (is : List Nat) : Prop := PG X tg (tDG X.K mg is)
def DGs (X : Cx) (tg : List Expr) (mg : List D → Rho → Option Rho) (is : List Nat) : Prop := PGs X tg (tDGs X.K mg is)
def gN (i : Nat) : D → Rho → Option Rho := fun d ρ => some (ρ.set i (.im d))
def gT (n : Nat) (g : List D → Rho → Option Rho) : D → Rho → Option Rho := fun d ρ => match d with
  | .tuple ds => if ds.length = n then g ds ρ else none
  | _ => none
def gs0 : List D → Rho → Option Rho := fun ds ρ => match ds with
  | [] => some ρ
  | _ => none
def gsC (g : D → Rho → Option Rho) (r : List D → Rho → Option Rho) : List D → Rho → Option Rho := fun ds ρ => match ds with
  | d :: ds => (g d ρ).bind (r ds)
  | [] => none
theorem pg_wk {tg : Expr} {t t' : TG} (h : PG X tg t) (w : ∀ v σ H Q, t' v σ H Q → t v σ H Q) : PG X tg t' := ⟨fun pins s σ H v u Q I r q => h.run pins s σ H v u Q I r (w v σ H Q q)⟩
theorem pgs_wk {tg : List Expr} {t t' : TGs} (h : PGs X tg t) (w : ∀ v σ H Q, t' v σ H Q → t v σ H Q) : PGs X tg t' := ⟨fun pins s σ H v u Q I r q => h.run pins s σ H v u Q I r (w v σ H Q q)⟩
theorem dg_n (i : Nat) {x : Str} (hN : X.N.Nodup) (hi : X.N[i]? = some x := by rfl) (hx : Loc X.env.scope x := by first | exact Or.inl rfl | exact Or.inr rfl) (hf : X.fn x = true ∨ X.env.scope.names.lookup x = some .local := by first | exact .inl rfl | exact .inr rfl) : DG X (.Name x pos) (gN i) [i] := pg_wk (pg_name hN hi hx hf) fun v σ H Q h => by
  obtain ⟨Be, He, B, ρ, d, ρ', ev, dv, e1, h⟩ := h
  cases e1
  exact h _ (ev.put i dv) (List.length_set ..) fun j hj => List.getElem?_set_ne fun e => hj (by simp [e])
theorem dgs_0 : DGs X [] gs0 [] := pgs_wk pgs_nil fun v σ H Q h => by
  obtain ⟨Be, He, B, ρ, d, ρ', ev, dv, e1, h⟩ := h
  cases dv with
  | nil => cases e1; exact ⟨rfl, h σ ev rfl fun _ _ => rfl⟩
  | cons _ _ => cases e1
theorem dgs_c {g : D → Rho → Option Rho} {r : List D → Rho → Option Rho} {is js : List Nat} (h1 : DG X e g is) (h2 : DGs X es r js) (hs : (assignEach (e :: es) X.env).map (·.2) = assign e X.env :: (assignEach es X.env).map (·.2) := by rfl) : DGs X (e :: es) (gsC g r) (is ++ js) :=
  pgs_wk (pgs_cons h1 h2 hs) fun v σ H Q h => by
    obtain ⟨Be, He, B, ρ, ds, ρ', ev, dv, e1, h⟩ := h
    cases dv with
    | nil => cases e1
    | cons d1 d2 =>
      unfold gsC at e1
      dsimp only at e1
      rename_i x xs d ds
      cases q : g d ρ with
      | none => rw [q] at e1; cases e1
      | some ρ1 =>
        rw [q] at e1
        refine ⟨_, _, rfl, Be, He, B, ρ, _, ρ1, ev, d1, q, fun σ1 ev1 l1 o1 => ?_⟩
        refine ⟨Be, He, B, ρ1, _, ρ', ev1, d2, e1, fun σ2 ev2 l2 o2 => ?_⟩
        refine h σ2 ev2 (l2.trans l1) fun i hi => ?_
        rw [o2 i fun z => hi (List.mem_append_right _ z), o1 i fun z => hi (List.mem_append_left _ z)]
theorem dg_t {n kk : Nat} {r : List D → Rho → Option Rho} {is : List Nat} (hc : X.calm = true) (h : DGs X es r is) (hn : (assignEach es X.env).length = n := by rfl) (hst : (assignEach es X.env).findIdx? (·.1) = none := by rfl) : DG X (.Tuple es kk pos) (gT n r) is :=
  pg_wk (pg_tup hc h hn hst) fun v σ H Q h => by
    obtain ⟨Be, He, B, ρ, d, ρ', ev, dv, e1, h⟩ := h
    unfold gT at e1
    split at e1
    · rename_i ds
      split at e1
      · rename_i c
        cases dv with
        | tup r al => exact ⟨_, _, rfl, .inl (Same.rd ev.bh (.of r)), by rw [al.length]; exact c, Be, He, B, ρ, ds, ρ', ev, al, e1, h⟩
      · cases e1
    · cases e1

/-! ### assignments -/
def Op.fl {α : Type} (r : Option α) (f : α → Fl) : Fl := match r with
  | some a => f a
  | none => .no
@[simp] theorem Op.fl_some {α : Type} (a : α) (f : α → Fl) : Op.fl (some a) f = f a := nr rfl
@[simp] theorem Op.fl_none {α : Type} (f : α → Fl) : Op.fl (none : Option α) f = .no := nr rfl
def mAsg (m : Rho → Rs TD) (g : D → Rho → Option Rho) : Rho → Fl := fun ρ => (m ρ).fl fun q => Op.fl (g q.1 (frzT q.2 ρ)) fun ρ' => .nx ρ'
theorem asg_run {mg : Str → Option Value} {g : D → Rho → Option Rho} {is : List Nat} {D : Ends} {σ : L2.St} {H : Hp} (tn : Tnt m) (h : tDS K mg E (mAsg m g) D σ H) : tD K mg E m σ H fun x H1 => tDG K g is x σ H1 D.nx := by
  obtain ⟨Be, He, B, ρ, ev, h⟩ := h
  refine ⟨Be, He, B, ρ, ev, ?_⟩
  unfold mAsg at h
  cases r : m ρ with
  | no => rw [r] at h; exact h
  | ex c => rw [r] at h; exact h
  | ok q =>
    obtain ⟨d, t⟩ := q
    rw [r] at h
    dsimp only [Rs.fl] at h
    intro v B1 H1 x1 dv
    have ev1 := (ev.up x1).freeze (tn ρ _ _ r)
    cases q : g d (frzT t ρ) with
    | none => rw [q] at h; exact h.elim
    | some ρ' =>
      rw [q] at h
      exact ⟨Be, He, _, _, d, ρ', ev1, dv, q, fun σ' ev' _ _ => h σ' _ H1 ev' (x1.b.trans ((ev.up x1).b_ba (tn ρ _ _ r)))⟩
theorem ds_asg {tg : Expr} {g : D → Rho → Option Rho} {is : List Nat} (he : DE X E e m) (hg : DG X tg g is) (hs : swapsWithSole [tg] e pos.line X.env = pure false := by rfl) (hw : swappedStores [tg] e X.env = pure none := by rfl)
    (h1 : (assignEach [tg] X.env).map (·.2) = [assign tg X.env] := by rfl) : DS X E (.Assign [tg] e pos) (mAsg m g) := ps_wk (ps_asg he.pe hg hs hw h1) fun D σ H h => asg_run he.tn h
/-- name = value -/
theorem ds_set (i : Nat) {x : Str} {px : Pos} (hN : X.N.Nodup) (he : DE X E e m) (hi : X.N[i]? = some x := by rfl) (hx : Loc X.env.scope x := by first | exact Or.inl rfl | exact Or.inr rfl) (hs : swapsWith e (some (.Name x px)) pos.line X.env = pure false := by rfl) (hf : X.fn x = true ∨ X.env.scope.names.lookup x = some .local := by first | exact .inl rfl | exact .inr rfl) :
    DS X E (.Assign [.Name x px] e pos) (mAsg m (gN i)) := ps_wk (ps_set hN hi hx he.pe hs hf) fun D σ H h => by
  obtain ⟨Be, He, B, ρ, ev, h⟩ := asg_run (is := [i]) he.tn h
  refine ⟨Be, He, B, ρ, ev, ?_⟩
  cases r : m ρ with
  | no => rw [r] at h; exact h
  | ex c => rw [r] at h; exact h
  | ok q =>
    obtain ⟨d, t⟩ := q
    rw [r] at h
    intro v B1 H1 x1 dv
    obtain ⟨Be', He', B', ρ', d', ρ2, ev', dv', e1, k⟩ := h v B1 H1 x1 dv
    cases e1
    exact k _ (ev'.put i dv') (List.length_set ..) fun j hj => List.getElem?_set_ne fun e => hj (by simp [e])
/-- name = a new list -/
def mSetO (i : Nat) (mo : Rho → Rs (List D)) : Rho → Fl := fun ρ => (mo ρ).fl fun ds => .nx (ρ.set i (.ow ds))
theorem ds_setO (i : Nat) {x : Str} {px : Pos} {mo : Rho → Rs (List D)} (hN : X.N.Nodup) (he : DO X E e mo) (hi : X.N[i]? = some x := by rfl) (hx : Loc X.env.scope x := by first | exact Or.inl rfl | exact Or.inr rfl) (hs : swapsWith e (some (.Name x px)) pos.line X.env = pure false := by rfl) (hf : X.fn x = true ∨ X.env.scope.names.lookup x = some .local := by first | exact .inl rfl | exact .inr rfl) :
    DS X E (.Assign [.Name x px] e pos) (mSetO i mo) := ps_wk (ps_set hN hi hx he hs hf) fun D σ H h => by
  obtain ⟨Be, He, B, ρ, ev, h⟩ := h
  refine ⟨Be, He, B, ρ, ev, ?_⟩
  unfold mSetO at h
  cases r : mo ρ with
  | no => rw [r] at h; exact h
  | ex c => rw [r] at h; exact h
  | ok ds =>
    rw [r] at h
    intro l vs B1 H1 x1 b1 h0 h1 dv
    refine h _ B1 H1 ((ev.up x1).putO i h1 dv (ev.he.free h0) b1 (fun j es hj q => ?_) (ev.nlFar x1.h h0)) x1.b
    obtain ⟨l', vs', g1, g2, _⟩ := ev.sl j _ hj
    rw [q] at g1
    cases g1
    rw [h0] at g2
    cases g2

/-! ### lists of one's own changed -/
/-- xs.append(e) -/
def mApp (i : Nat) (m : Rho → Rs TD) : Rho → Fl := fun ρ => match ρ[i]? with
  | some (.ow ds) => (m ρ).fl fun q => if q.2 = [] ∧ ds.length < sizeLine then .nx (ρ.set i (.ow (ds ++ [q.1]))) else .no
  | _ => .no
theorem ds_app (i : Nat) {x : Str} {px apos cpos : Pos} (he : DE X E e m) (hN : X.N[i]? = some x := by rfl) (hv : Vis X.env.scope x := by first | exact Or.inl rfl | exact Or.inr (Or.inl rfl) | exact Or.inr (Or.inr rfl))
    (hd : (x == ("__debug__" : Str)) = false := by decide) (hcd : (x == ("__classdict__" : Str)) = false := by decide)
    (hbase : attributeBase (.Name x px) "append" X.env (eval (.Name x px) X.env) = eval (.Name x px) X.env := by rfl)
    (hfew : ((backTo cpos (starEach [e] X.env)).all (fun x => !x.1) && (backToKw cpos (keywordEach [] X.env)).all (fun x => x.1.isSome)
      && decide (([e] : List Expr).length + ([] : List Keyword).length + (if ([] : List Keyword).isEmpty then 0 else 1) < 30)) = true := by rfl)
    (hline : (apos.endLine == cpos.line) = true := by rfl) (hs : starEach [e] X.env = (false, eval e X.env) :: starEach [] X.env := by rfl) (hplain : (backTo cpos (starEach [] X.env)).any (·.1) = false := by rfl)
    (hsw : swapsWith (.Call (.Attribute (.Name x px) "append" apos) [e] [] cpos) none pos.line X.env = pure false := by rfl) :
    DS X E (.Expr (.Call (.Attribute (.Name x px) "append" apos) [e] [] cpos) pos) (mApp i m) :=
  ps_wk (ps_expr (pe_bm PySem.F.plainAttrs_list PySem.F.slot_list_append PySem.F.type_list_append mt_append (pe_var hN hv hd hcd) (pa_cons he.pe pa_nil hs) hbase hfew hline hs hplain) hsw) fun D σ H h => by
    obtain ⟨Be, He, B, ρ, ev, h⟩ := h
    unfold mApp at h
    split at h
    · rename_i ds hds
      obtain ⟨l, vs, h1, h2, h3, h4, h5⟩ := ev.sl i _ hds
      refine ⟨_, h1, .inl ⟨rfl, vs, .inl (.inl h2)⟩, Be, He, B, ρ, ev, ?_⟩
      cases r : m ρ with
      | no => rw [r] at h; exact h
      | ex c => rw [r] at h; exact h
      | ok q =>
        obtain ⟨d, t⟩ := q
        rw [r] at h
        dsimp only [Rs.fl] at h
        split at h
        · rename_i c
          obtain ⟨c1, c2⟩ := c
          subst c1
          intro v B1 H1 x1 dv
          have dv : Dq X.K B1 v d := dv
          exact ⟨l, vs, v, rfl, rfl, x1.h _ _ h2, by rw [h3.length]; exact c2, h σ B1 _ ((ev.up x1).mut hds h1 ((h3.up x1.b).append (.cons dv .nil))) x1.b⟩
        · exact h.elim
    · exact h.elim
/-- xs.extend([..]) -/
def mExt (i : Nat) (m : Rho → Rs (List D)) : Rho → Fl := fun ρ => match ρ[i]? with
  | some (.ow ds) => (m ρ).fl fun q => if ds.length + q.length ≤ sizeLine then .nx (ρ.set i (.ow (ds ++ q))) else .no
  | _ => .no
theorem ds_ext (i : Nat) {x : Str} {px apos cpos : Pos} {mo : Rho → Rs (List D)} (he : DO X E e mo) (hN : X.N[i]? = some x := by rfl) (hv : Vis X.env.scope x := by first | exact Or.inl rfl | exact Or.inr (Or.inl rfl) | exact Or.inr (Or.inr rfl))
    (hd : (x == ("__debug__" : Str)) = false := by decide) (hcd : (x == ("__classdict__" : Str)) = false := by decide)
    (hbase : attributeBase (.Name x px) "extend" X.env (eval (.Name x px) X.env) = eval (.Name x px) X.env := by rfl)
    (hfew : ((backTo cpos (starEach [e] X.env)).all (fun x => !x.1) && (backToKw cpos (keywordEach [] X.env)).all (fun x => x.1.isSome)
      && decide (([e] : List Expr).length + ([] : List Keyword).length + (if ([] : List Keyword).isEmpty then 0 else 1) < 30)) = true := by rfl)
    (hline : (apos.endLine == cpos.line) = true := by rfl) (hs : starEach [e] X.env = (false, eval e X.env) :: starEach [] X.env := by rfl) (hplain : (backTo cpos (starEach [] X.env)).any (·.1) = false := by rfl)
    (hsw : swapsWith (.Call (.Attribute (.Name x px) "extend" apos) [e] [] cpos) none pos.line X.env = pure false := by rfl) :
    DS X E (.Expr (.Call (.Attribute (.Name x px) "extend" apos) [e] [] cpos) pos) (mExt i mo) :=
  ps_wk (ps_expr (pe_bm PySem.F.plainAttrs_list PySem.F.slot_list_extend PySem.F.type_list_extend mt_extend (pe_var hN hv hd hcd) (pa_cons he pa_nil hs) hbase hfew hline hs hplain) hsw) fun D σ H h => by
    obtain ⟨Be, He, B, ρ, ev, h⟩ := h
    unfold mExt at h
    split at h
    · rename_i ds hds
      obtain ⟨l, vs, h1, h2, h3, h4, h5⟩ := ev.sl i _ hds
      refine ⟨_, h1, .inl ⟨rfl, vs, .inl (.inl h2)⟩, Be, He, B, ρ, ev, ?_⟩
      cases r : mo ρ with
      | no => rw [r] at h; exact h
      | ex c => rw [r] at h; exact h
      | ok q =>
        rw [r] at h
        dsimp only [Rs.fl] at h
        split at h
        · rename_i c
          intro l2 ws B1 H1 x1 b1 g0 g1 dv
          exact ⟨l, l2, vs, ws, rfl, rfl, x1.h _ _ h2, g1, by rw [h3.length, dv.length]; exact c, h σ B1 _ ((ev.up x1).mut hds h1 ((h3.up x1.b).append dv)) x1.b⟩
        · exact h.elim
    · exact h.elim
/-- target = xs.pop() -/
def mPop (i : Nat) (g : D → Rho → Option Rho) : Rho → Fl := fun ρ => match ρ[i]? with
  | some (.ow ds) => match ds[ds.length - 1]? with
    | some d => Op.fl (g d (ρ.set i (.ow ds.dropLast))) fun ρ' => .nx ρ'
    | none => .no
  | _ => .no
theorem pop_run {mg : Str → Option Value} {K : PySem.W.Frag} {i : Nat} {g : D → Rho → Option Rho} {is : List Nat} {D : Ends} {σ : L2.St} {H : Hp} (h : tDS K mg E (mPop i g) D σ H) : tBM0 K "list" rPop (tVar i) σ H fun x H1 => tDG K g is x σ H1 D.nx := by
  obtain ⟨Be, He, B, ρ, ev, h⟩ := h
  unfold mPop at h
  split at h
  · rename_i ds hds
    obtain ⟨l, vs, h1, h2, h3, h4, h5⟩ := ev.sl i _ hds
    cases q : ds[ds.length - 1]? with
    | none => rw [q] at h; exact h.elim
    | some d =>
      rw [q] at h
      dsimp only at h
      obtain ⟨v, g1, g2⟩ := h3.get q
      refine ⟨_, h1, .inl ⟨rfl, vs, .inl (.inl h2)⟩, l, vs, v, rfl, rfl, h2, by rw [h3.length]; exact g1, ?_⟩
      have ev1 := ev.mut (ws := vs.dropLast) (es := ds.dropLast) hds h1 h3.dropLast
      cases q2 : g d (ρ.set i (.ow ds.dropLast)) with
      | none => rw [q2] at h; exact h.elim
      | some ρ' =>
        rw [q2] at h
        exact ⟨Be, He, B, _, d, ρ', ev1, g2, q2, fun σ' ev' _ _ => h σ' _ _ ev' (.refl _)⟩
  · exact h.elim
theorem ds_pop (i : Nat) {x : Str} {px apos cpos : Pos} {tg : Expr} {g : D → Rho → Option Rho} {is : List Nat} (hg : DG X tg g is) (hN : X.N[i]? = some x := by rfl) (hv : Vis X.env.scope x := by first | exact Or.inl rfl | exact Or.inr (Or.inl rfl) | exact Or.inr (Or.inr rfl))
    (hd : (x == ("__debug__" : Str)) = false := by decide) (hcd : (x == ("__classdict__" : Str)) = false := by decide)
    (hbase : attributeBase (.Name x px) "pop" X.env (eval (.Name x px) X.env) = eval (.Name x px) X.env := by rfl) (hline : (apos.endLine == cpos.line) = true := by rfl)
    (hs : swapsWithSole [tg] (.Call (.Attribute (.Name x px) "pop" apos) [] [] cpos) pos.line X.env = pure false := by rfl) (hw : swappedStores [tg] (.Call (.Attribute (.Name x px) "pop" apos) [] [] cpos) X.env = pure none := by rfl)
    (h1 : (assignEach [tg] X.env).map (·.2) = [assign tg X.env] := by rfl) : DS X E (.Assign [tg] (.Call (.Attribute (.Name x px) "pop" apos) [] [] cpos) pos) (mPop i g) :=
  ps_wk (ps_asg (pe_bm0 PySem.F.plainAttrs_list PySem.F.slot_list_pop PySem.F.type_list_pop mt_pop (pe_var hN hv hd hcd) hbase hline) hg hs hw h1) fun D σ H h => pop_run h
/-- xs[i] = e -/
def mSetIx (j : Nat) (m mi : Rho → Rs TD) : Rho → Fl := fun ρ => match ρ[j]? with
  | some (.ow ds) => (m ρ).fl fun q => if q.2 = [] then (mi ρ).fl fun r => (match r.1 with
    | .int k => match ixN ds.length k with
      | some n => .nx (ρ.set j (.ow (ds.set n q.1)))
      | none => .no
    | _ => .no) else .no
  | _ => .no
theorem ds_setIx (j : Nat) {x : Str} {px tpos : Pos} (he : DE X E e m) (hi : DE X E b mb) (hN : X.N[j]? = some x := by rfl) (hv : Vis X.env.scope x := by first | exact Or.inl rfl | exact Or.inr (Or.inl rfl) | exact Or.inr (Or.inr rfl))
    (hd : (x == ("__debug__" : Str)) = false := by decide) (hcd : (x == ("__classdict__" : Str)) = false := by decide)
    (ha : ∀ v, assign (.Subscript (.Name x px) b tpos) X.env v = (do
      let ov ← holding [v] (eval (.Name x px) X.env)
      let iv ← holding [v, ov] (eval b X.env)
      standAt tpos
      holding [v, ov, iv] (setItem ov iv v)
      release [v, ov, iv] []) := by intro _; rfl)
    (hs : swapsWithSole [.Subscript (.Name x px) b tpos] e pos.line X.env = pure false := by rfl) (hw : swappedStores [.Subscript (.Name x px) b tpos] e X.env = pure none := by rfl)
    (h1 : (assignEach [.Subscript (.Name x px) b tpos] X.env).map (·.2) = [assign (.Subscript (.Name x px) b tpos) X.env] := by rfl) : DS X E (.Assign [.Subscript (.Name x px) b tpos] e pos) (mSetIx j m mb) :=
  ps_wk (ps_asg he.pe (pg_sub (pe_var hN hv hd hcd) hi.pe set_list ha) hs hw h1) fun D σ H h => by
    obtain ⟨Be, He, B, ρ, ev, h⟩ := h
    refine ⟨Be, He, B, ρ, ev, ?_⟩
    unfold mSetIx at h
    split at h
    · rename_i ds hds
      obtain ⟨l, vs, g1, g2, g3, g4, g5⟩ := ev.sl j _ hds
      cases r : m ρ with
      | no => rw [r] at h; exact h
      | ex c => rw [r] at h; exact h
      | ok q =>
        obtain ⟨d, t⟩ := q
        rw [r] at h
        dsimp only [Rs.fl] at h
        split at h
        · rename_i c
          subst c
          intro v B1 H1 x1 dv
          have dv : Dq X.K B1 v d := dv
          have ev1 := ev.up x1
          refine ⟨_, g1, Be, He, B1, ρ, ev1, ?_⟩
          cases r2 : mb ρ with
          | no => rw [r2] at h; exact h
          | ex c => rw [r2] at h; exact h
          | ok q2 =>
            obtain ⟨d2, t2⟩ := q2
            rw [r2] at h
            intro w B2 H2 x2 dw
            dsimp only at h
            cases d2 with
            | int k =>
              cases dw
              dsimp only at h
              cases q3 : ixN ds.length k with
              | none => rw [q3] at h; exact h.elim
              | some n =>
                rw [q3] at h
                refine ⟨l, vs, k, n, rfl, rfl, x2.h _ _ (x1.h _ _ g2), by rw [g3.length]; exact q3, ?_⟩
                exact h σ B2 _ ((ev1.up x2).mut hds g1 (((g3.up x1.b).up x2.b).set (dv.up x2.b) n)) (x1.b.trans x2.b)
            | _ => exact h.elim
        · exact h.elim
    · exact h.elim
end
end PL

set_option Elab.async false
set_option linter.all false
set_option maxRecDepth 100000
set_option maxHeartbeats 1000000
namespace PL
open PySem PySem.Spec PyProof.Rows L2
variable {K : PySem.W.Frag}

/-! ### what is walked -/
def JOk (K : PySem.W.Frag) (J : It) (Bx : Hp) (ds : List D) : Prop := ∀ (i : Nat) (B H : Hp), Same Bx B → Same B H →
  (∀ d, ds[i]? = some d → J.go i H ∧ ∀ x H', J.yld i H x H' → ∃ B', Ext B H B' H' ∧ Dq K B' x d) ∧ (ds.length ≤ i → J.stop i H)
def DnI (K : PySem.W.Frag) (mg : Str → Option Value) (E : XK) (He B H : Hp) (σ : L2.St) (r : Rs (List D × List Nat)) (R : It → Hp → Prop) : Prop := match r with
  | .ok (ds, t) => ∀ J B' H', Ext B H B' H' → JOk K J (Ba t σ B' H') ds → R J H'
  | .ex c => XW mg E c He
  | .no => False
def tDI (K : PySem.W.Frag) (mg : Str → Option Value) (E : XK) (m : Rho → Rs (List D × List Nat)) : TI := fun σ H R => ∃ Be He B ρ, Ev K Be He B H σ ρ ∧ DnI K mg E He B H σ (m ρ) R
structure DI (X : Cx) (E : XK) (tg iter : Expr) (m : Rho → Rs (List D × List Nat)) : Prop where
  pi : PI X tg iter (tDI X.K X.mg E m)
  tn : TntA m
theorem pi_wk {X : Cx} {tg iter : Expr} {t t' : TI} (h : PI X tg iter t) (w : ∀ σ H R, t' σ H R → t σ H R) : PI X tg iter t' := ⟨fun pins s σ H R I q => h.run pins s σ H R I (w σ H R q)⟩
theorem pi_either {X : Cx} {tg iter : Expr} {t t' : TI} (h : PI X tg iter t) (h' : PI X tg iter t') : PI X tg iter (fun σ H R => t σ H R ∨ t' σ H R) := ⟨fun pins s σ H R I q => q.elim (h.run pins s σ H R I) (h'.run pins s σ H R I)⟩
section
variable {X : Cx} {E : XK} {e a b c tg iter : Expr} {es : List Expr} {pos p : Pos} {m ma mb mc : Rho → Rs TD} {ms mi : Rho → Rs (List D × List Nat)} {mt mu : Rho → Rs Bool} {st : Stmt} {rest : List Stmt} {k l : Rho → Fl}
theorem j_list {K : PySem.W.Frag} {a : Addr} {Bx : Hp} {xs : List V} {ds : List D} (r : Rd Bx a (.lst xs)) (al : DqAll K Bx xs ds) : JOk K (Itl K a) Bx ds := by
  intro i B H s1 s2
  have hq : SqL K H a xs := .inl (Same.rd (s1.trans s2) r)
  refine ⟨fun d hd => ?_, fun hle => ⟨xs, hq, by rw [al.length]; exact hle⟩⟩
  obtain ⟨v, h1, h2⟩ := al.get hd
  refine ⟨⟨xs, v, hq, h1⟩, fun x H' y => ?_⟩
  obtain ⟨rfl, y⟩ := y
  have := y xs hq
  rw [h1] at this
  cases this
  exact ⟨B, .refl s2, h2.up s1⟩
theorem j_tup {K : PySem.W.Frag} {a : Addr} {Bx : Hp} {xs : List V} {ds : List D} (r : Rd Bx a (.tup xs)) (al : DqAll K Bx xs ds) : JOk K (Itt K a) Bx ds := by
  intro i B H s1 s2
  have hq : SqT K H a xs := .inl (Same.rd (s1.trans s2) r)
  refine ⟨fun d hd => ?_, fun hle => ⟨xs, hq, by rw [al.length]; exact hle⟩⟩
  obtain ⟨v, h1, h2⟩ := al.get hd
  refine ⟨⟨xs, v, hq, h1⟩, fun x H' y => ?_⟩
  obtain ⟨rfl, y⟩ := y
  have := y xs hq
  rw [h1] at this
  cases this
  exact ⟨B, .refl s2, h2.up s1⟩
def charsD (z : Str) : List D := z.cps.toList.map fun c => .str ⟨#[c]⟩
theorem j_str {z : Str} {Bx : Hp} : JOk K (Its z) Bx (charsD z) := by
  intro i B H s1 s2
  have hl : (charsD z).length = z.cps.size := by unfold charsD; rw [List.length_map, Array.length_toList]
  refine ⟨fun d hd => ?_, fun hle => by rw [hl] at hle; exact hle⟩
  have hi := (List.getElem?_eq_some_iff.mp hd).1
  rw [hl] at hi
  refine ⟨hi, fun x H' y => ?_⟩
  obtain ⟨rfl, c, hc, rfl⟩ := y
  have e : d = .str ⟨#[c]⟩ := by
    unfold charsD at hd
    rw [List.getElem?_map, Array.getElem?_toList, hc] at hd
    exact (Option.some.inj hd).symm
  subst e
  exact ⟨B, .refl s2, .str _⟩
/-- a list, a tuple, a text as it stands -/
def mIter (m : Rho → Rs TD) : Rho → Rs (List D × List Nat) := fun ρ => (m ρ).bind fun q => match q.1 with
  | .list ds => .ok (ds, q.2)
  | .tuple ds => .ok (ds, q.2)
  | .str z => .ok (charsD z, q.2)
  | _ => .no
theorem mIter_tn (h : Tnt m) : TntA (mIter m) := fun ρ d t q => by
  unfold mIter at q
  cases r : m ρ with
  | no => rw [r] at q; cases q
  | ex c => rw [r] at q; cases q
  | ok x =>
    rw [r] at q
    dsimp only [Rs.bind] at q
    have := h ρ _ _ r
    split at q <;> first | (cases q; done) | (cases q; exact this)
theorem di_e (he : DE X E e m) : DI X E tg e (mIter m) := by
  refine ⟨pi_wk (pi_either (pi_list (tg := tg) he.pe) (pi_either (pi_tup he.pe) (pi_str he.pe))) fun σ H R h => ?_, mIter_tn he.tn⟩
  obtain ⟨Be, He, B, ρ, ev, h⟩ := h
  unfold mIter at h
  cases r : m ρ with
  | no => rw [r] at h; exact h.elim
  | ex c => rw [r] at h; exact .inl ⟨Be, He, B, ρ, ev, by rw [r]; exact h⟩
  | ok q =>
    obtain ⟨d, t⟩ := q
    rw [r] at h
    have ot := he.tn ρ _ _ r
    cases d with
    | list ds =>
      refine .inl ⟨Be, He, B, ρ, ev, ?_⟩
      rw [r]
      intro v B1 H1 x1 dv
      cases dv with
      | lst rr al => exact ⟨_, rfl, ⟨_, .inl (Same.rd (ev.up x1).ba_h rr)⟩, h _ B1 H1 x1 (j_list rr al)⟩
    | tuple ds =>
      refine .inr (.inl ⟨Be, He, B, ρ, ev, ?_⟩)
      rw [r]
      intro v B1 H1 x1 dv
      cases dv with
      | tup rr al => exact ⟨_, rfl, ⟨_, .inl (Same.rd (ev.up x1).ba_h (.of rr))⟩, h _ B1 H1 x1 (j_tup (.of rr) al)⟩
    | str z =>
      refine .inr (.inr ⟨Be, He, B, ρ, ev, ?_⟩)
      rw [r]
      intro v B1 H1 x1 dv
      cases dv
      exact ⟨z, rfl, h _ B1 H1 x1 j_str⟩
    | _ => exact h.elim
/-! ranges -/
def rgD (lo : Int) (n : Nat) : List D := (List.range n).map fun i => .int (lo + (i : Nat))
theorem j_rg {lo : Int} {n : Nat} {Bx : Hp} : JOk K (Itr lo n) Bx (rgD lo n) := by
  intro i B H s1 s2
  have hl : (rgD lo n).length = n := by unfold rgD; rw [List.length_map, List.length_range]
  refine ⟨fun d hd => ?_, fun hle => by rw [hl] at hle; exact hle⟩
  have hi := (List.getElem?_eq_some_iff.mp hd).1
  rw [hl] at hi
  refine ⟨hi, fun x H' y => ?_⟩
  obtain ⟨rfl, rfl⟩ := y
  have e : d = .int (lo + (i : Nat)) := by
    unfold rgD at hd
    rw [List.getElem?_map, List.getElem?_range hi] at hd
    exact (Option.some.inj hd).symm
  subst e
  exact ⟨B, .refl s2, .int _⟩
def mRg (ms : Rho → Rs (List D × List Nat)) : Rho → Rs (List D × List Nat) := fun ρ => (ms ρ).bind fun q => match q.1 with
  | [.int j] => if -(2 ^ 62) ≤ j ∧ j < 2 ^ 62 then .ok (rgD 0 j.toNat, []) else .no
  | [.int i, .int j] => if -(2 ^ 62) ≤ i ∧ i < 2 ^ 62 ∧ -(2 ^ 62) ≤ j ∧ j < 2 ^ 62 then .ok (rgD i (j - i).toNat, []) else .no
  | _ => .no
theorem mRg_tn : TntA (mRg ms) := fun ρ d t q => by
  unfold mRg at q
  cases r : ms ρ with
  | no => rw [r] at q; cases q
  | ex c => rw [r] at q; cases q
  | ok x =>
    rw [r] at q
    dsimp only [Rs.bind] at q
    split at q
    · split at q
      · cases q; exact .nil
      · cases q
    · split at q
      · cases q; exact .nil
      · cases q
    · cases q
theorem di_rg1 (hg : Gl X "range") (hm : X.mg "range" = none) (ha : DA X E [a] ms) (hs : starEach [a] X.env = [(false, eval a X.env)] := by rfl) (one : ∀ ρ ds t, ms ρ = .ok (ds, t) → ds.length = 1) : DI X E tg (.Call (.Name "range" p) [a] [] pos) (mRg ms) := by
  refine ⟨pi_wk (pi_range1 hg hm ha.pa hs) fun σ H R h => ?_, mRg_tn⟩
  obtain ⟨Be, He, B, ρ, ev, h⟩ := h
  refine ⟨Be, He, B, ρ, ev, ?_⟩
  unfold mRg at h
  cases r : ms ρ with
  | no => rw [r] at h; exact h
  | ex c => rw [r] at h; exact h
  | ok q =>
    obtain ⟨ds, t⟩ := q
    have h1 := one ρ ds t r
    rw [r] at h
    dsimp only [Rs.bind] at h
    intro vs B1 H1 x1 dv
    split at h
    · split at h
      · rename_i c
        cases dv with
        | cons d1 d2 =>
          cases d2; cases d1
          exact ⟨_, rfl, c.1, c.2, h _ B1 H1 x1 j_rg⟩
      · exact h.elim
    · simp at h1
    · exact h.elim
theorem di_rg2 (hg : Gl X "range") (hm : X.mg "range" = none) (ha : DA X E [a, b] ms) (hs : starEach [a, b] X.env = [(false, eval a X.env), (false, eval b X.env)] := by rfl) (hs2 : starEach [b] X.env = [(false, eval b X.env)] := by rfl) (two : ∀ ρ ds t, ms ρ = .ok (ds, t) → ds.length = 2) : DI X E tg (.Call (.Name "range" p) [a, b] [] pos) (mRg ms) := by
  refine ⟨pi_wk (pi_range2 hg hm ha.pa hs hs2) fun σ H R h => ?_, mRg_tn⟩
  obtain ⟨Be, He, B, ρ, ev, h⟩ := h
  refine ⟨Be, He, B, ρ, ev, ?_⟩
  unfold mRg at h
  cases r : ms ρ with
  | no => rw [r] at h; exact h
  | ex c => rw [r] at h; exact h
  | ok q =>
    obtain ⟨ds, t⟩ := q
    have h1 := two ρ ds t r
    rw [r] at h
    dsimp only [Rs.bind] at h
    intro vs B1 H1 x1 dv
    split at h
    · simp at h1
    · split at h
      · rename_i c
        cases dv with
        | cons d1 d2 =>
          cases d2 with
          | cons d3 d4 =>
            cases d4; cases d1; cases d3
            exact ⟨_, _, rfl, c, h _ B1 H1 x1 j_rg⟩
      · exact h.elim
    · exact h.elim
theorem len1 : ∀ ρ ds t, mCons m mNil ρ = .ok (ds, t) → ds.length = 1 := fun ρ ds t h => by
  obtain ⟨d1, t1, d2, t2, r1, r2, e1, e2⟩ := mCons_ok h
  cases r2
  subst e1
  rfl
theorem len2 : ∀ ρ ds t, mCons ma (mCons mb mNil) ρ = .ok (ds, t) → ds.length = 2 := fun ρ ds t h => by
  obtain ⟨d1, t1, d2, t2, r1, r2, e1, e2⟩ := mCons_ok h
  have := len1 ρ d2 t2 r2
  subst e1
  simp [this]
/-! enumerate, zip of lists -/
def enumD (ds : List D) : List D := (ds.zipIdx).map fun p => .tuple [.int (p.2 : Nat), p.1]
def zipD (ds es : List D) : List D := (ds.zip es).map fun p => .tuple [p.1, p.2]
theorem j_enum {K : PySem.W.Frag} {a : Addr} {Bx : Hp} {xs : List V} {ds : List D} (r : Rd Bx a (.lst xs)) (al : DqAll K Bx xs ds) : JOk K (Ite K a) Bx (enumD ds) := by
  intro i B H s1 s2
  have hq : SqL K H a xs := .inl (Same.rd (s1.trans s2) r)
  have hl : (enumD ds).length = ds.length := by unfold enumD; rw [List.length_map, List.length_zipIdx]
  refine ⟨fun d hd => ?_, fun hle => ⟨xs, hq, by rw [al.length]; rw [hl] at hle; exact hle⟩⟩
  obtain ⟨d0, e0, e1⟩ : ∃ d0, ds[i]? = some d0 ∧ d = .tuple [.int (i : Nat), d0] := by
    unfold enumD at hd
    rw [List.getElem?_map, List.getElem?_zipIdx] at hd
    cases q : ds[i]? with
    | none => rw [q] at hd; cases hd
    | some d0 => rw [q] at hd; exact ⟨d0, rfl, by simpa using (Option.some.inj hd).symm⟩
  subst e1
  obtain ⟨v, h1, h2⟩ := al.get e0
  refine ⟨⟨xs, v, hq, h1⟩, fun x H' y => ?_⟩
  obtain ⟨T, y0, rfl, hT, rfl, y⟩ := y
  have := y xs hq
  rw [h1] at this
  cases this
  have x2 := Ext.new (o := .tup [.int (i : Nat), v]) s2 hT
  exact ⟨_, x2, .tup upd_same (.cons (.int _) (.cons ((h2.up s1).up x2.b) .nil))⟩
theorem j_zip {K : PySem.W.Frag} {a b : Addr} {Bx : Hp} {xs ys : List V} {ds es : List D} (r : Rd Bx a (.lst xs)) (al : DqAll K Bx xs ds) (r' : Rd Bx b (.lst ys)) (al' : DqAll K Bx ys es) : JOk K (Itz K a b) Bx (zipD ds es) := by
  intro i B H s1 s2
  have hq : SqL K H a xs := .inl (Same.rd (s1.trans s2) r)
  have hq' : SqL K H b ys := .inl (Same.rd (s1.trans s2) r')
  have hl : (zipD ds es).length = min ds.length es.length := by unfold zipD; rw [List.length_map, List.length_zip]
  refine ⟨fun d hd => ?_, fun hle => ⟨xs, ys, hq, hq', by rw [al.length, al'.length]; rw [hl] at hle; omega⟩⟩
  have hi := (List.getElem?_eq_some_iff.mp hd).1
  rw [hl] at hi
  have i1 : i < ds.length := by omega
  have i2 : i < es.length := by omega
  have e1 : ds[i]? = some ds[i] := List.getElem?_eq_getElem i1
  have e2 : es[i]? = some es[i] := List.getElem?_eq_getElem i2
  have e3 : d = .tuple [ds[i], es[i]] := by
    unfold zipD at hd
    have ez : (ds.zip es)[i]? = some (ds[i], es[i]) := List.getElem?_zip_eq_some.mpr ⟨e1, e2⟩
    rw [List.getElem?_map, ez] at hd
    exact (Option.some.inj hd).symm
  subst e3
  obtain ⟨v, h1, h2⟩ := al.get e1
  obtain ⟨w, g1, g2⟩ := al'.get e2
  refine ⟨⟨xs, ys, v, w, hq, hq', h1, g1⟩, fun x H' y => ?_⟩
  obtain ⟨T, v', w', rfl, hT, rfl, y1, y2⟩ := y
  have q1 := y1 xs hq
  rw [h1] at q1
  cases q1
  have q2 := y2 ys hq'
  rw [g1] at q2
  cases q2
  have x2 := Ext.new (o := .tup [v, w]) s2 hT
  exact ⟨_, x2, .tup upd_same (.cons ((h2.up s1).up x2.b) (.cons ((g2.up s1).up x2.b) .nil))⟩
def mEnum (ms : Rho → Rs (List D × List Nat)) : Rho → Rs (List D × List Nat) := fun ρ => (ms ρ).bind fun q => match q.1 with
  | [.list ds] => .ok (enumD ds, q.2)
  | _ => .no
def mZip (ms : Rho → Rs (List D × List Nat)) : Rho → Rs (List D × List Nat) := fun ρ => (ms ρ).bind fun q => match q.1 with
  | [.list ds, .list es] => .ok (zipD ds es, q.2)
  | _ => .no
theorem di_enum {elts : List Expr} {kk : Nat} {tpos : Pos} (hg : Gl X "enumerate") (hm : X.mg "enumerate" = none) (ha : DA X E [e] ms) (hs : starEach [e] X.env = [(false, eval e X.env)] := by rfl) : DI X E (.Tuple elts kk tpos) (.Call (.Name "enumerate" p) [e] [] pos) (mEnum ms) := by
  refine ⟨pi_wk (pi_enum hg hm ha.pa hs) fun σ H R h => ?_, fun ρ d t q => ?_⟩
  · obtain ⟨Be, He, B, ρ, ev, h⟩ := h
    refine ⟨Be, He, B, ρ, ev, ?_⟩
    unfold mEnum at h
    cases r : ms ρ with
    | no => rw [r] at h; exact h
    | ex c => rw [r] at h; exact h
    | ok q =>
      obtain ⟨ds, t⟩ := q
      rw [r] at h
      dsimp only [Rs.bind] at h
      intro vs B1 H1 x1 dv
      split at h
      · cases dv with
        | cons d1 d2 =>
          cases d2
          cases d1 with
          | lst rr al => exact ⟨_, _, rfl, .inl (Same.rd (ev.up x1).ba_h rr), h _ B1 H1 x1 (j_enum rr al)⟩
      · exact h.elim
  · unfold mEnum at q
    cases r : ms ρ with
    | no => rw [r] at q; cases q
    | ex c => rw [r] at q; cases q
    | ok x =>
      rw [r] at q
      dsimp only [Rs.bind] at q
      have := ha.tn ρ _ _ r
      split at q <;> first | (cases q; done) | (cases q; exact this)
theorem di_zip {e2 : Expr} {elts : List Expr} {kk : Nat} {tpos : Pos} (hp : PI X (.Tuple elts kk tpos) (.Call (.Name "zip" p) [e, e2] [] pos) (iZip X.K (tDA X.K X.mg E ms))) (ha : DA X E [e, e2] ms) : DI X E (.Tuple elts kk tpos) (.Call (.Name "zip" p) [e, e2] [] pos) (mZip ms) := by
  refine ⟨pi_wk hp fun σ H R h => ?_, fun ρ d t q => ?_⟩
  · obtain ⟨Be, He, B, ρ, ev, h⟩ := h
    refine ⟨Be, He, B, ρ, ev, ?_⟩
    unfold mZip at h
    cases r : ms ρ with
    | no => rw [r] at h; exact h
    | ex c => rw [r] at h; exact h
    | ok q =>
      obtain ⟨ds, t⟩ := q
      rw [r] at h
      dsimp only [Rs.bind] at h
      intro vs B1 H1 x1 dv
      split at h
      · cases dv with
        | cons d1 d2 =>
          cases d2 with
          | cons d3 d4 =>
            cases d4
            cases d1 with
            | lst rr al =>
              cases d3 with
              | lst rr2 al2 => exact ⟨_, _, _, _, rfl, .inl (Same.rd (ev.up x1).ba_h rr), .inl (Same.rd (ev.up x1).ba_h rr2), h _ B1 H1 x1 (j_zip rr al rr2 al2)⟩
      · exact h.elim
  · unfold mZip at q
    cases r : ms ρ with
    | no => rw [r] at q; cases q
    | ex c => rw [r] at q; cases q
    | ok x =>
      rw [r] at q
      dsimp only [Rs.bind] at q
      have := ha.tn ρ _ _ r
      split at q <;> first | (cases q; done) | (cases q; exact this)

/-! ### for -/
def forL (g : D → Rho → Option Rho) (body : Rho → Fl) : List D → Rho → Fl
  | [], ρ => .nx ρ
  | d :: ds, ρ => Op.fl (g d ρ) fun ρ1 => match body ρ1 with
    | .nx ρ2 => forL g body ds ρ2
    | .ct ρ2 => forL g body ds ρ2
    | .bk ρ2 => .nx ρ2
    | r => r
def mFor (mi : Rho → Rs (List D × List Nat)) (g : D → Rho → Option Rho) (body : Rho → Fl) : Rho → Fl := fun ρ => (mi ρ).fl fun q => forL g body q.1 (frzT q.2 ρ)
theorem ds_for {body : List Stmt} {g : D → Rho → Option Rho} {is : List Nat} (hp : PassesOwn (model X.prog X.w) X.A X.env X.xe) (hc : X.calm = true) (hi : DI X E tg iter mi) (hg : DG X tg g is) (hb : DSs X E body k)
    (hs : ∀ x, foldedSetIterable iter X.env x = pure x := by intro _; rfl) : DS X E (.For tg iter body [] pos) (mFor mi g k) := ps_wk (ps_for hp hc hi.pi hg hb hs) fun D σ H h => by
  obtain ⟨Be, He, B, ρ, ev, h⟩ := h
  refine ⟨Be, He, B, ρ, ev, ?_⟩
  unfold mFor at h
  cases r : mi ρ with
  | no => rw [r] at h; exact h
  | ex c => rw [r] at h; exact h
  | ok q =>
    obtain ⟨ds, t⟩ := q
    rw [r] at h
    dsimp only [Rs.fl] at h
    intro J B1 H1 x1 jo
    have ot := hi.tn ρ _ _ r
    have ev1 := (ev.up x1).freeze ot
    have s1 : Same B (Ba t σ B1 H1) := x1.b.trans ((ev.up x1).b_ba ot)
    have h0 : DnS X.K X.mg E Be He (Ba t σ B1 H1) (forL g k ds (frzT t ρ)) D := h.mono s1
    generalize Ba t σ B1 H1 = Bx at ev1 jo h0
    let W : Nat → Nat → L2.St → Hp → Prop := fun i n σ H => n = ds.length - i ∧ i ≤ ds.length ∧ ∃ B2 ρ2, Ev X.K Be He B2 H σ ρ2 ∧ Same Bx B2 ∧ DnS X.K X.mg E Be He B2 (forL g k (ds.drop i) ρ2) D
    refine ⟨W, ⟨ds.length, rfl, Nat.zero_le _, Bx, _, ev1, .refl _, h0⟩, ?_⟩
    rintro i n σ2 H2 ⟨rfl, hle, B2, ρ2, ev2, s2, h2⟩
    by_cases hlt : i < ds.length
    · right
      rw [List.drop_eq_getElem_cons hlt] at h2
      have e0 : ds[i]? = some ds[i] := List.getElem?_eq_getElem hlt
      obtain ⟨go, yld⟩ := (jo i B2 H2 s2 ev2.bh).1 _ e0
      refine ⟨go, fun σ' H' => ∃ B3 ρ3, Ev X.K Be He B3 H' σ' ρ3 ∧ Same Bx B3 ∧ DnS X.K X.mg E Be He B3 (forL g k (ds.drop (i + 1)) ρ3) D, fun σ' H' ⟨B3, ρ3, q1, q2, q3⟩ => ⟨ds.length - (i + 1), by omega, rfl, hlt, B3, ρ3, q1, q2, q3⟩, fun x H' y => ?_⟩
      obtain ⟨B', x', dq⟩ := yld x H' y
      have ev3 := ev2.up x'
      unfold forL at h2
      cases q : g ds[i] ρ2 with
      | none => rw [q] at h2; exact h2.elim
      | some ρ3 =>
        rw [q] at h2
        dsimp only [Op.fl] at h2
        refine ⟨Be, He, B', ρ2, _, ρ3, ev3, dq, q, fun σ4 ev4 _ _ => ⟨Be, He, B', ρ3, ev4, ?_⟩⟩
        cases q2 : k ρ3 with
        | nx ρ4 => rw [q2] at h2; exact fun σ5 B5 H5 ev5 s5 => ⟨B5, ρ4, ev5, (s2.trans x'.b).trans s5, h2.mono (x'.b.trans s5)⟩
        | ct ρ4 => rw [q2] at h2; exact fun σ5 B5 H5 ev5 s5 => ⟨B5, ρ4, ev5, (s2.trans x'.b).trans s5, h2.mono (x'.b.trans s5)⟩
        | bk ρ4 => rw [q2] at h2; exact DnS.mono (f := .nx ρ4) x'.b h2
        | rt d => rw [q2] at h2; exact h2
        | ex c => rw [q2] at h2; exact h2
        | no => rw [q2] at h2; exact h2
    · left
      have e : i = ds.length := by omega
      subst e
      rw [List.drop_length] at h2
      exact ⟨(jo _ B2 H2 s2 ev2.bh).2 (Nat.le_refl _), h2 σ2 B2 H2 ev2 (.refl _)⟩

/-! ### while -/
def whileL (t : Rho → Rs Bool) (body : Rho → Fl) : Nat → Rho → Fl
  | 0, _ => .no
  | n + 1, ρ => (t ρ).fl fun c => if c = true then (match body ρ with
    | .nx ρ2 => whileL t body n ρ2
    | .ct ρ2 => whileL t body n ρ2
    | .bk ρ2 => .nx ρ2
    | r => r) else .nx ρ
def mWhile (t : Rho → Rs Bool) (body : Rho → Fl) (fuel : Rho → Nat) : Rho → Fl := fun ρ => whileL t body (fuel ρ) ρ
theorem ds_while {body : List Stmt} (fuel : Rho → Nat) (hp : PassesOwn (model X.prog X.w) X.A X.env X.xe) (ht : DT X E c mt) (hb : DSs X E body k) : DS X E (.While c body [] pos) (mWhile mt k fuel) := ps_wk (ps_while hp ht hb) fun D σ H h => by
  obtain ⟨Be, He, B, ρ, ev, h⟩ := h
  refine ⟨fun n σ H => ∃ B2 ρ2, Ev X.K Be He B2 H σ ρ2 ∧ DnS X.K X.mg E Be He B2 (whileL mt k n ρ2) D, ⟨fuel ρ, B, ρ, ev, h⟩, ?_⟩
  rintro n σ2 H2 ⟨B2, ρ2, ev2, h2⟩
  cases n with
  | zero => exact h2.elim
  | succ n =>
    refine ⟨Be, He, B2, ρ2, ev2, ?_⟩
    unfold whileL at h2
    cases r : mt ρ2 with
    | no => rw [r] at h2; exact h2
    | ex c => rw [r] at h2; exact h2
    | ok b =>
      rw [r] at h2
      dsimp only [Rs.fl] at h2
      intro B3 H3 x3
      have ev3 := ev2.up x3
      cases b with
      | false => exact iteF (h2 σ2 B3 H3 ev3 x3.b)
      | true =>
        refine iteT ⟨fun σ' H' => ∃ B4 ρ4, Ev X.K Be He B4 H' σ' ρ4 ∧ DnS X.K X.mg E Be He B4 (whileL mt k n ρ4) D, fun σ' H' q => ⟨n, Nat.lt_succ_self n, q⟩, Be, He, B3, ρ2, ev3, ?_⟩
        rw [if_pos rfl] at h2
        cases q2 : k ρ2 with
        | nx ρ4 => rw [q2] at h2; exact fun σ5 B5 H5 ev5 s5 => ⟨B5, ρ4, ev5, h2.mono (x3.b.trans s5)⟩
        | ct ρ4 => rw [q2] at h2; exact fun σ5 B5 H5 ev5 s5 => ⟨B5, ρ4, ev5, h2.mono (x3.b.trans s5)⟩
        | bk ρ4 => rw [q2] at h2; exact DnS.mono (f := .nx ρ4) x3.b h2
        | rt d => rw [q2] at h2; exact h2
        | ex c => rw [q2] at h2; exact h2
        | no => rw [q2] at h2; exact h2

/-! ### calls of one's own -/
def DnR (K : PySem.W.Frag) (mg : Str → Option Value) (E : XK) (B H : Hp) (r : Rs D) (Q : VK) : Prop := match r with
  | .ok d => ∀ v B' H', Ext B H B' H' → Dq K B' v d → Q v H'
  | .ex c => XW mg E c H
  | .no => False
def spD (K : PySem.W.Frag) (mg : Str → Option Value) (F : List D → Rs D) : Sp := fun vs H Q E => ∃ B ds, Same B H ∧ DqAll K B vs ds ∧ DnR K mg E B H (F ds) Q
def mCall (F : List D → Rs D) (ms : Rho → Rs (List D × List Nat)) : Rho → Rs TD := fun ρ => (ms ρ).bind fun q => (F q.1).bind fun d => .ok (d, keepT d q.2)
theorem mCall_tn {F : List D → Rs D} (h : TntA ms) : Tnt (mCall F ms) := fun ρ d t q => by
  unfold mCall at q
  cases r : ms ρ with
  | no => rw [r] at q; cases q
  | ex c => rw [r] at q; cases q
  | ok x =>
    rw [r] at q
    dsimp only [Rs.bind] at q
    cases r2 : F x.1 with
    | no => rw [r2] at q; cases q
    | ex c => rw [r2] at q; cases q
    | ok y => rw [r2] at q; cases q; exact keepT_own (h ρ _ _ r)
theorem call_run {mg : Str → Option Value} {F : List D → Rs D} {σ : L2.St} {H : Hp} {Q : VK} (tn : TntA ms) (h : tD K mg E (mCall F ms) σ H Q) : tDA K mg E ms σ H fun vs H1 => spD K mg F vs H1 Q E := by
  obtain ⟨Be, He, B, ρ, ev, h⟩ := h
  refine ⟨Be, He, B, ρ, ev, ?_⟩
  unfold mCall at h
  cases r : ms ρ with
  | no => rw [r] at h; exact h
  | ex c => rw [r] at h; exact h
  | ok q =>
    obtain ⟨ds, t⟩ := q
    rw [r] at h
    dsimp only [Rs.bind] at h
    intro vs B1 H1 x1 dv
    have ev1 := ev.up x1
    have ot := tn ρ _ _ r
    refine ⟨Ba t σ B1 H1, ds, ev1.ba_h, dv, ?_⟩
    cases r2 : F ds with
    | no => rw [r2] at h; exact h
    | ex c => rw [r2] at h; exact fun C H' e s => h C H' e (ev1.he.trans s)
    | ok d =>
      rw [r2] at h
      exact fin_run ev x1 ot h
theorem de_call {CX : CXT} {kk : Nat} {f : Addr} {fd : FuncData} {ps : List Str} {F : List D → Rs D} {x : Str} (G : FnOk X.prog X.w X.K X.mg X.base CX kk f fd ps (spD X.K X.mg F)) (hr : Room kk X.A) (hg : Gl X x) (hm : X.mg x = some (.ref f)) (hk : PySem.W.keepIn X.K (.ref f) = true) (hb : Binds X.K fd ps []) (hx : Passes CX X E)
    (ha : DA X E (e :: es) ms) (hdb : (x == ("__debug__" : Str)) = false := by decide) (he : starEach (e :: es) X.env = (false, eval e X.env) :: starEach es X.env := by rfl) (hpl : (backTo pos (starEach es X.env)).any (·.1) = false := by rfl) :
    DE X E (.Call (.Name x p) (e :: es) [] pos) (mCall F ms) :=
  ⟨pe_wk (pe_call G hr hg hm hk hb .nil hx ha.pa hdb he hpl) fun σ H Q h => by
    show tDA X.K X.mg E ms σ H fun vs H1 => spD X.K X.mg F (vs ++ []) H1 Q E
    have := call_run ha.tn h
    simp only [List.append_nil]
    exact this, mCall_tn ha.tn⟩
theorem de_call0 {CX : CXT} {kk : Nat} {f : Addr} {fd : FuncData} {F : List D → Rs D} {x : Str} (G : FnOk X.prog X.w X.K X.mg X.base CX kk f fd [] (spD X.K X.mg F)) (hr : Room kk X.A) (hg : Gl X x) (hm : X.mg x = some (.ref f)) (hk : PySem.W.keepIn X.K (.ref f) = true) (hb : Binds X.K fd [] []) (hx : Passes CX X E)
    (hdb : (x == ("__debug__" : Str)) = false := by decide) : DE X E (.Call (.Name x p) [] [] pos) (mCall F mNil) :=
  ⟨pe_wk (pe_call0 G hr hg hm hk hb .nil hx hdb) fun σ H Q h => by
    have := call_run (ms := mNil) (fun ρ d t h => by cases h; exact .nil) h
    obtain ⟨Be, He, B, ρ, ev, g⟩ := this
    exact g [] B H (.refl ev.bh) .nil, mCall_tn fun ρ d t h => by cases h; exact .nil⟩
/-- a body's end as a function's -/
def Fl.fn (f : Fl) : Rs D := match f with
  | .nx _ => .ok .none
  | .rt d => .ok d
  | .ex c => .ex c
  | _ => .no
def ini (N n : Nat) (ds : List D) : Rho := ds.map .im ++ List.replicate (N - n) .un
def fnRun (body : Rho → Fl) (N n : Nat) : List D → Rs D := fun ds => if ds.length = n then (body (ini N n ds)).fn else .no
theorem ev_start {B H : Hp} {vs : List V} {ds : List D} {N : List Str} {n : Nat} (s : Same B H) (dv : DqAll K B vs ds) (hn : ds.length = n) (hN : n ≤ N.length) : Ev K B H B H (L2.start N vs) (ini N.length n ds) := by
  have hv : vs.length = n := dv.length.trans hn
  have hl : (L2.start N vs).length = (ini N.length n ds).length := by
    unfold L2.start ini
    simp only [List.length_append, List.length_map, List.length_replicate]
    omega
  refine ⟨s, .refl _, fun a o h => ⟨s a o h, .inr (.inl (by rw [h]; exact fun z => nomatch z))⟩, .refl _, hl, fun i sl h => ?_, fun i j d1 d2 h1 => ?_, fun i j d1 d2 h1 => ?_, fun i j dss s h1 => ?_⟩
  · unfold ini at h
    by_cases c : i < n
    · rw [List.getElem?_append_left (by rw [List.length_map]; omega), List.getElem?_map] at h
      cases q : ds[i]? with
      | none => rw [q] at h; cases h
      | some d =>
        rw [q] at h
        cases h
        obtain ⟨v, g1, g2⟩ := dv.get q
        refine ⟨v, ?_, g2⟩
        unfold L2.start
        rw [List.getElem?_append_left (by rw [List.length_map]; omega), List.getElem?_map, g1]
        rfl
    · rw [List.getElem?_append_right (by rw [List.length_map]; omega)] at h
      have e : sl = .un := by
        rw [List.getElem?_replicate] at h
        split at h
        · exact (Option.some.inj h).symm
        · cases h
      subst e
      trivial
  · unfold ini at h1
    by_cases c : i < n
    · rw [List.getElem?_append_left (by rw [List.length_map]; omega), List.getElem?_map] at h1
      cases q : ds[i]? with
      | none => rw [q] at h1; cases h1
      | some d => rw [q] at h1; cases h1
    · rw [List.getElem?_append_right (by rw [List.length_map]; omega)] at h1
      rw [List.getElem?_replicate] at h1
      split at h1
      · exact nomatch Option.some.inj h1
      · cases h1
  · unfold ini at h1
    by_cases c : i < n
    · rw [List.getElem?_append_left (by rw [List.length_map]; omega), List.getElem?_map] at h1
      cases q : ds[i]? with
      | none => rw [q] at h1; cases h1
      | some d => rw [q] at h1; cases h1
    · rw [List.getElem?_append_right (by rw [List.length_map]; omega)] at h1
      rw [List.getElem?_replicate] at h1
      split at h1
      · exact nomatch Option.some.inj h1
      · cases h1
  · unfold ini at h1
    by_cases c : i < n
    · rw [List.getElem?_append_left (by rw [List.length_map]; omega), List.getElem?_map] at h1
      cases q : ds[i]? with
      | none => rw [q] at h1; cases h1
      | some d => rw [q] at h1; cases h1
    · rw [List.getElem?_append_right (by rw [List.length_map]; omega)] at h1
      rw [List.getElem?_replicate] at h1
      split at h1
      · exact nomatch Option.some.inj h1
      · cases h1
theorem mx_ext {Be He H : Hp} (b : Same Be H) (h : Same He H) : Ext Be He (Mx Be He H) H :=
  ⟨fun a o q => Mx.of (b a o q) (.inr (.inl (by rw [q]; exact fun z => nomatch z))), h, Mx.same, fun a q1 q2 => by
    unfold Mx
    cases w : isTu (H a) with
    | false => rw [if_pos ⟨Option.isSome_iff_ne_none.mpr q2, q1, rfl⟩]; exact .inl rfl
    | true =>
      rw [if_neg fun z => by cases z.2.2]
      unfold isTu at w
      split at w
      · rename_i xs e; exact .inr ⟨xs, e⟩
      · cases w⟩
theorem body_run {mg : Str → Option Value} {body : Rho → Fl} {N : List Str} {n : Nat} (hN : n ≤ N.length) {vs : List V} {H : Hp} {Q : VK} (h : spD K mg (fnRun body N.length n) vs H Q E) : tDS K mg E body { nx := fun _ H' => Q .non H', rt := Q } (L2.start N vs) H := by
  obtain ⟨B, ds, s, dv, h⟩ := h
  unfold fnRun at h
  by_cases c : ds.length = n
  · rw [if_pos c] at h
    refine ⟨B, H, B, ini N.length n ds, ev_start s dv c hN, ?_⟩
    cases r : body (ini N.length n ds) with
    | nx ρ => rw [r] at h; exact fun σ B' H' ev _ => h .non B' H' ⟨ev.be, ev.he, ev.bh, fun a q1 q2 => by
        cases q : B' a with
        | none => exact .inl rfl
        | some o =>
          rcases (ev.bm a o q).2 with z | z | ⟨xs, z⟩
          · exact absurd z q2
          · exact absurd q1 z
          · exact .inr ⟨xs, by rw [z]⟩⟩ .non
    | rt d => rw [r] at h; exact fun v H' s1 s2 dq => h v _ H' (mx_ext s2 s1) dq
    | ex c => rw [r] at h; exact h
    | bk ρ => rw [r] at h; exact h.elim
    | ct ρ => rw [r] at h; exact h.elim
    | no => rw [r] at h; exact h
  · rw [if_neg c] at h; exact h.elim
theorem spD_len {mg : Str → Option Value} {body : Rho → Fl} {N n : Nat} {vs : List V} {H : Hp} {Q : VK} {E : XK} (h : spD K mg (fnRun body N n) vs H Q E) : vs.length = n := by
  obtain ⟨B, ds, s, dv, h⟩ := h
  unfold fnRun at h
  by_cases c : ds.length = n
  · exact dv.length.trans c
  · rw [if_neg c] at h; exact h.elim
/-- THE RULE for a def -/
theorem fn_ok {P : Program} {w : World} {K : PySem.W.Frag} {mg : Str → Option Value} {base : Heap} {x qual : Str} {st : Stmt} {f : Addr} {fd : FuncData} {N ps : List Str} {kk n nn : Nat} {body : Rho → Fl} (F : Fun K x qual st f fd) (S : FnScope N ps (defScope st)) (h1 : ps.length = n) (h2 : N.length = nn)
    (hb : ∀ (cdv : Value) (A : Around) (outer : List Env) (s : Shared) (H : Hp) (E : XK), Room kk (A.deeper (envOfC qual (defScope st) s.heap.objs.size f cdv)) →
      DSs (cxOf (L2.CX P w) P w K mg base N qual (defScope st) f cdv A outer s H E) E (defBody st) body) : FnOk P w K mg base (L2.CX P w) (kk + 1) f fd ps (spD K mg (fnRun body nn n)) := by
  subst h1 h2
  have hN : ps.length ≤ N.length := by have := congrArg List.length S.pre; rw [List.length_take] at this; omega
  exact F.okX S (fun vs H Q E h => spD_len h) fun cdv A outer s H vs Q E hr h => ⟨_, hb cdv A outer s H E hr, body_run hN h⟩
theorem len_of {ds : List D} {i : Nat} (h : i < ds.length) : ds.drop i = ds[i] :: ds.drop (i + 1) := List.drop_eq_getElem_cons h
end
end PL

set_option Elab.async false
set_option linter.all false
set_option maxRecDepth 100000
set_option maxHeartbeats 1000000
namespace PL
open PySem PySem.Spec PyProof.Rows L2
variable {K : PySem.W.Frag}

/-! ### list comprehensions -/
def wipeR (ρ : Rho) : List Nat → Rho
  | [] => ρ
  | v :: vs => (wipeR ρ vs).set v .un
theorem wipeR_len (ρ : Rho) : ∀ vs : List Nat, (wipeR ρ vs).length = ρ.length
  | [] => rfl
  | v :: vs => by unfold wipeR; rw [List.length_set, wipeR_len ρ vs]
theorem wipeR_get {ρ : Rho} {i : Nat} {s : Sl} : ∀ {vs : List Nat}, (wipeR ρ vs)[i]? = some s → s = .un ∨ (ρ[i]? = some s ∧ i ∉ vs)
  | [], h => .inr ⟨h, by simp⟩
  | v :: vs, h => by
    unfold wipeR at h
    by_cases e : v = i
    · subst e
      have hv : v < (wipeR ρ vs).length := by
        have := (List.getElem?_eq_some_iff.mp h).1
        rwa [List.length_set] at this
      rw [List.getElem?_set_self hv] at h
      exact .inl (Option.some.inj h).symm
    · rw [List.getElem?_set_ne e] at h
      rcases wipeR_get h with q | ⟨q1, q2⟩
      · exact .inl q
      · exact .inr ⟨q1, by simp only [List.mem_cons, not_or]; exact ⟨fun z => e z.symm, q2⟩⟩
theorem Ev.wipe {Be He B H : Hp} {σ : L2.St} {ρ : Rho} (ev : Ev K Be He B H σ ρ) (vs : List Nat) : Ev K Be He B H (L2.wipe σ vs) (wipeR ρ vs) := by
  refine ⟨ev.eb, ev.be, ev.bm, ev.he, by rw [wipe_length, wipeR_len]; exact ev.len, fun i s h => ?_, fun i j d1 d2 h1 h2 h3 => ?_, (fun i j d1 d2 h1 h2 h3 => by
    rcases wipeR_get h1 with q | ⟨q1, q2⟩
    · cases q
    · rcases wipeR_get h2 with q | ⟨q3, q4⟩
      · cases q
      · rw [wipe_out q2, wipe_out q4] at h3
        exact ev.nk i j d1 d2 q1 q3 h3), fun i j dss s h1 h2 h3 h4 => by
    rcases wipeR_get h1 with q | ⟨q1, q2⟩
    · cases q
    · rcases wipeR_get h2 with q | ⟨q3, q4⟩
      · subst q; cases h3
      · rw [wipe_out q2, wipe_out q4]
        exact ev.nn i j dss s q1 q3 h3 h4⟩
  · rcases wipeR_get h with q | ⟨q1, q2⟩
    · subst q; trivial
    · rw [wipe_out q2]; exact ev.sl i s q1
  · rcases wipeR_get h1 with q | ⟨q1, q2⟩
    · cases q
    · rcases wipeR_get h2 with q | ⟨q3, q4⟩
      · cases q
      · rw [wipe_out q2, wipe_out q4] at h3
        exact ev.nd i j d1 d2 q1 q3 h3
theorem wipe_in {σ : L2.St} {i : Nat} : ∀ {vs : List Nat}, i ∈ vs → i < σ.length → (L2.wipe σ vs)[i]? = some none
  | v :: vs, h, hi => by
    unfold L2.wipe
    by_cases e : v = i
    · subst e; rw [List.getElem?_set_self (by rw [wipe_length]; exact hi)]
    · rw [List.getElem?_set_ne e]
      rcases List.mem_cons.mp h with q | q
      · exact absurd q.symm e
      · exact wipe_in q hi
theorem wipe_back {σ σ2 : L2.St} {vs : List Nat} (hl : σ2.length = (L2.wipe σ vs).length) (h : ∀ i, i ∉ vs → σ2[i]? = (L2.wipe σ vs)[i]?) : L2.wipe σ2 vs = L2.wipe σ vs := by
  apply List.ext_getElem?
  intro i
  rw [wipe_length] at hl
  by_cases c : i ∈ vs
  · by_cases hi : i < σ.length
    · rw [wipe_in c hi, wipe_in c (by rw [hl]; exact hi)]
    · rw [List.getElem?_eq_none (by rw [wipe_length]; omega), List.getElem?_eq_none (by rw [wipe_length]; omega)]
  · rw [wipe_out c, h i c]
/-- an object that no slot knows is changed -/
theorem Ev.other {Be He B H : Hp} {σ : L2.St} {ρ : Rho} (ev : Ev K Be He B H σ ρ) {a : Addr} {o : HO} (bn : B a = none) (hn : He a = none) (apart : ∀ (j : Nat) (es : List D), ρ[j]? = some (.ow es) → σ[j]? ≠ some (some (.ref a))) (apartD : ∀ (j : Nat) (es : List (List L2.Key × Int)), ρ[j]? = some (.dk es) → σ[j]? ≠ some (some (.ref a))) (apartN : ∀ (j : Nat) (dss : List (List D)) (l' : Addr) (ls : List Addr), ρ[j]? = some (.nl dss) → σ[j]? = some (some (.ref l')) → H l' = some (.lst (ls.map V.ref)) → a ≠ l' ∧ a ∉ ls) : Ev K Be He B (upd H a o) σ ρ := by
  refine ⟨ev.eb, ev.be, fun c u q => by rw [upd_ne (ne_of_none q bn)]; exact ev.bm c u q, fun c u q => by rw [upd_ne (ne_of_none q hn)]; exact ev.he c u q, ev.len, fun i s h => ?_, ev.nd, ev.nk, fun i j dss s h1 h2 h3 h4 => ?_⟩
  rotate_left
  · obtain ⟨n1, n2⟩ := ev.nn i j dss s h1 h2 h3 h4
    refine ⟨n1, fun l b ls g1 g2 g3 => ?_⟩
    obtain ⟨ls0, k1, k2⟩ := ev.nlAt i dss l h1 g1
    have f := apartN i dss l ls0 h1 g1 k1
    rw [upd_ne (fun e => f.1 e.symm)] at g2
    exact n2 l b ls g1 g2 g3
  have r := ev.sl i s h
  cases s with
  | un => trivial
  | im d => exact r
  | ow ds =>
    obtain ⟨l, vs, h1, h2, h3, h4, h5⟩ := r
    refine ⟨l, vs, h1, ?_, h3, h4, h5⟩
    rw [upd_ne ?_]
    · exact h2
    · rintro rfl
      exact apart i ds h h1
  | dk kvs =>
    obtain ⟨l, h1, h2, h4, h5⟩ := r
    refine ⟨l, h1, ?_, h4, h5⟩
    rw [upd_ne ?_]
    · exact h2
    · rintro rfl
      exact apartD i kvs h h1
  | nl dss =>
    obtain ⟨l, ls, h1, h2, h4, h5, h6, h7⟩ := r
    obtain ⟨f1, f2⟩ := apartN i dss l ls h h1 h2
    exact ⟨l, ls, h1, by rw [upd_ne (fun z => f1 z.symm)]; exact h2, h4, h5, h6, h7.upd f2⟩
theorem comp_f {B2 H2 B3 H3 H1 : Hp} (x : Ext B2 H2 B3 H3) (s : Same H1 H2) {a : Addr} (h : B2 a = none ∨ ∃ xs, B2 a = some (.tup xs)) (h1 : H1 a ≠ none) : B3 a = none ∨ ∃ xs, B3 a = some (.tup xs) := by
  rcases h with h | ⟨xs, h⟩
  · exact x.f a h (Same.some s h1)
  · exact .inr ⟨xs, x.b a _ h⟩
def compL (g : D → Rho → Option Rho) (tt : Rho → Rs Bool) (me : Rho → Rs TD) (ρ0 : Rho) : List D → Rs (List D)
  | [] => .ok []
  | d :: ds => match g d ρ0 with
    | none => .no
    | some ρ1 => (tt ρ1).bind fun b => if b = true then (me ρ1).bind fun q => if q.2 = [] then (compL g tt me ρ0 ds).bind fun r => .ok (q.1 :: r) else .no else compL g tt me ρ0 ds
def Rs.o {α : Type} : Rs α → Option α
  | .ok a => some a
  | _ => none
def compF (rs : List D) : Option D := if rs.length ≤ sizeLine then some (.list rs) else none
def mComp (mi : Rho → Rs (List D × List Nat)) (g : D → Rho → Option Rho) (tt : Rho → Rs Bool) (me : Rho → Rs TD) (vs : List Nat) : Rho → Rs TD := fun ρ => (mi ρ).bind fun q => fin q.2 ((compL g tt me (wipeR (frzT q.2 ρ) vs) q.1).o.bind compF)
def DTs (X : Cx) (E : XK) (ifs : List Expr) (m : Rho → Rs Bool) : Prop := PTs X ifs (tDT X.K X.mg E m)
def tOne : Rho → Rs Bool := fun _ => .ok true
section
variable {X : Cx} {E : XK} {e a b c tg iter elt : Expr} {es : List Expr} {pos p : Pos} {m ma mb mc me : Rho → Rs TD} {ms mi : Rho → Rs (List D × List Nat)} {mt mu tt : Rho → Rs Bool} {st : Stmt} {rest : List Stmt} {k l : Rho → Fl}
theorem pts_wk {ifs : List Expr} {t t' : TT} (h : PTs X ifs t) (w : ∀ σ H Q, t' σ H Q → t σ H Q) : PTs X ifs t' := ⟨fun pins s σ H Q I q => h.run pins s σ H Q I (w σ H Q q)⟩
theorem dts_0 : DTs X E [] tOne := pts_wk pts_nil fun σ H Q h => by
  obtain ⟨Be, He, B, ρ, ev, h⟩ := h
  exact h B H (.refl ev.bh)
theorem dts_1 (h : DT X E c mt) : DTs X E [c] mt := pts_one h
theorem mComp_tn {g : D → Rho → Option Rho} {vs : List Nat} (h : TntA mi) : Tnt (mComp mi g tt me vs) := fun ρ d t q => by
  unfold mComp at q
  cases r : mi ρ with
  | no => rw [r] at q; cases q
  | ex c => rw [r] at q; cases q
  | ok x =>
    rw [r] at q
    obtain ⟨_, e⟩ := fin_ok q
    subst e
    exact keepT_own (h ρ _ _ r)
theorem comp_run {mg : Str → Option Value} {g : D → Rho → Option Rho} {is vs : List Nat} {σ : L2.St} {H : Hp} {Q : VK} (tn : TntA mi) (tne : Tnt me) (hsub : ∀ i, i ∈ is → i ∈ vs) (h : tD K mg E (mComp mi g tt me vs) σ H Q) :
    tLc (tDI K mg E mi) (tDG K g is) (tDT K mg E0 tt) (tD K mg E0 me) vs σ H Q := by
  obtain ⟨Be, He, B, ρ, ev, h⟩ := h
  refine ⟨Be, He, B, ρ, ev, ?_⟩
  unfold mComp at h
  cases r : mi ρ with
  | no => rw [r] at h; exact h
  | ex c => rw [r] at h; exact h
  | ok q =>
    obtain ⟨ds, t⟩ := q
    rw [r] at h
    dsimp only [Rs.bind] at h
    intro J B1 H1 x1 jo
    have ot := tn ρ _ _ r
    cases rc : compL g tt me (wipeR (frzT t ρ) vs) ds with
    | no => rw [rc] at h; exact h.elim
    | ex c => rw [rc] at h; exact h.elim
    | ok rs =>
      rw [rc] at h
      dsimp only [Rs.o, Option.bind] at h
      cases rf : compF rs with
      | none => rw [rf] at h; exact h.elim
      | some d0 =>
        rw [rf] at h
        unfold compF at rf
        split at rf
        · rename_i hsz
          cases rf
          have fr := fin_run ev x1 ot h
          have ev0 := ((ev.up x1).freeze ot).wipe vs
          generalize wipeR (frzT t ρ) vs = ρ0 at rc ev0
          generalize Ba t σ B1 H1 = Bx at fr jo ev0
          intro L hL
          have hHe : He L = none := ev0.he.free hL
          have bxL : Bx L = none := ev0.bh.free hL
          have apart : ∀ (j : Nat) (es : List D), ρ0[j]? = some (.ow es) → (L2.wipe σ vs)[j]? ≠ some (some (.ref L)) := fun j es hj q => by
            obtain ⟨l, ws, g1, g2, _⟩ := ev0.sl j _ hj
            rw [q] at g1
            cases g1
            rw [hL] at g2
            cases g2
          have apartD : ∀ (j : Nat) (es : List (List L2.Key × Int)), ρ0[j]? = some (.dk es) → (L2.wipe σ vs)[j]? ≠ some (some (.ref L)) := fun j es hj q => by
            obtain ⟨l, g1, g2, _⟩ := ev0.sl j _ hj
            rw [q] at g1
            cases g1
            rw [hL] at g2
            cases g2
          let W : Nat → Nat → Hp → Prop := fun i n H => n = ds.length - i ∧ i ≤ ds.length ∧ ∃ B2 acc as rest, Ev K Be He B2 H (L2.wipe σ vs) ρ0 ∧ Same Bx B2 ∧ Same H1 H ∧ (∀ a, Bx a = none → H1 a ≠ none → B2 a = none ∨ ∃ xs, B2 a = some (.tup xs)) ∧ H L = some (.lst acc) ∧ B2 L = none ∧
            DqAll K B2 acc as ∧ compL g tt me ρ0 (ds.drop i) = .ok rest ∧ as ++ rest = rs
          refine ⟨W, ⟨ds.length, rfl, Nat.zero_le _, Bx, [], [], rs, ev0.other bxL hHe apart apartD (ev0.nlFar (.refl _) hL), .refl _, fun a o q => by rw [upd_ne (ne_of_none q hL)]; exact q, fun a q _ => .inl q, upd_same, bxL, .nil, rc, rfl⟩, ?_⟩
          rintro i n H2 ⟨rfl, hle, B2, acc, as, rest, ev2, s2, sh2, f2, hacc, b2, dacc, hrest, hrs⟩
          by_cases hlt : i < ds.length
          · right
            rw [List.drop_eq_getElem_cons hlt] at hrest
            have e0 : ds[i]? = some ds[i] := List.getElem?_eq_getElem hlt
            obtain ⟨go, yld⟩ := (jo i B2 H2 s2 ev2.bh).1 _ e0
            have nx : ∀ (H' : Hp), (∃ B2 acc as rest, Ev K Be He B2 H' (L2.wipe σ vs) ρ0 ∧ Same Bx B2 ∧ Same H1 H' ∧ (∀ a, Bx a = none → H1 a ≠ none → B2 a = none ∨ ∃ xs, B2 a = some (.tup xs)) ∧ H' L = some (.lst acc) ∧ B2 L = none ∧
                DqAll K B2 acc as ∧ compL g tt me ρ0 (ds.drop (i + 1)) = .ok rest ∧ as ++ rest = rs) → ∃ m', m' < ds.length - i ∧ W (i + 1) m' H' := fun H' q => ⟨ds.length - (i + 1), by omega, rfl, hlt, q⟩
            refine ⟨go, _, nx, fun x H' y => ?_⟩
            obtain ⟨B', x', dq⟩ := yld x H' y
            have ev3 := ev2.up x'
            unfold compL at hrest
            cases q : g ds[i] ρ0 with
            | none => rw [q] at hrest; cases hrest
            | some ρ1 =>
              rw [q] at hrest
              dsimp only at hrest
              refine ⟨Be, He, B', ρ0, _, ρ1, ev3, dq, q, fun σ4 ev4 l4 o4 => ⟨wipe_back l4 fun j hj => o4 j fun z => hj (hsub j z), ?_⟩⟩
              refine ⟨Be, He, B', ρ1, ev4, ?_⟩
              cases q2 : tt ρ1 with
              | no => rw [q2] at hrest; cases hrest
              | ex c => rw [q2] at hrest; cases hrest
              | ok bb =>
                rw [q2] at hrest
                dsimp only [Rs.bind] at hrest
                intro B3 H3 x3
                have x23 := x'.trans x3
                cases bb with
                | false =>
                  rw [if_neg Bool.false_ne_true] at hrest
                  exact iteF ⟨B3, acc, as, rest, ev2.up x23, s2.trans x23.b, sh2.trans x23.h, fun a q1 q2 => comp_f x23 sh2 (f2 a q1 q2) q2, x23.h _ _ hacc, x23.out b2 hacc (fun xs e => by cases e), dacc.up x23.b, hrest, hrs⟩
                | true =>
                  rw [if_pos rfl] at hrest
                  refine iteT ⟨Be, He, B3, ρ1, ev4.up x3, ?_⟩
                  cases q3 : me ρ1 with
                  | no => rw [q3] at hrest; cases hrest
                  | ex c => rw [q3] at hrest; cases hrest
                  | ok y1 =>
                    obtain ⟨d1, t1⟩ := y1
                    rw [q3] at hrest
                    dsimp only at hrest
                    split at hrest
                    · rename_i ct
                      have ct : t1 = [] := ct
                      subst ct
                      intro v B4 H4 x4 dv
                      have dv : Dq K B4 v d1 := dv
                      have x24 := x23.trans x4
                      have h4 : H4 L = some (.lst acc) := x24.h _ _ hacc
                      have b4 : B4 L = none := x24.out b2 hacc (fun xs e => by cases e)
                      cases q5 : compL g tt me ρ0 (ds.drop (i + 1)) with
                      | no => rw [q5] at hrest; cases hrest
                      | ex c => rw [q5] at hrest; cases hrest
                      | ok rest2 =>
                        rw [q5] at hrest
                        cases hrest
                        refine ⟨acc, h4, ?_, B4, acc ++ [v], as ++ [d1], rest2, (ev2.up x24).other b4 hHe apart apartD (ev0.nlFar (sh2.trans x24.h) hL), s2.trans x24.b, fun a o z => ?_, fun a q1 q2 => comp_f x24 sh2 (f2 a q1 q2) q2, upd_same, b4, (dacc.up x24.b).append (.cons dv .nil), rfl, by rw [List.append_assoc]; exact hrs⟩
                        · rw [dacc.length]
                          have := congrArg List.length hrs
                          rw [List.length_append, List.length_cons] at this
                          omega
                        · rw [upd_ne (ne_of_none z hL)]
                          exact x24.h _ _ (sh2 _ _ z)
                    · cases hrest
          · left
            have e : i = ds.length := by omega
            subst e
            rw [List.drop_length] at hrest
            cases hrest
            rw [List.append_nil] at hrs
            subst hrs
            refine ⟨(jo _ B2 H2 s2 ev2.bh).2 (Nat.le_refl _), fr _ (upd B2 L (.lst acc)) H2 ⟨fun a o z => ?_, sh2, fun a o z => ?_, fun a q1 q2 => ?_⟩ (.lst (.of upd_same) (dacc.up fun a o z => by rw [upd_ne (ne_of_none z b2)]; exact z))⟩
            · rw [upd_ne (ne_of_none z bxL)]; exact s2 a o z
            · by_cases e : a = L
              · subst e; rw [upd_same] at z; rw [hacc, ← z]
              · rw [upd_ne e] at z; exact ev2.bh a o z
            · rw [upd_ne (fun e => q2 (by rw [e]; exact hL))]
              exact f2 a q1 q2
        · cases rf
theorem de_lc {ifs : List Expr} {scope : Scope} {own : List (Str × Nat)} {g : D → Rho → Option Rho} {is : List Nat} (hc : X.calm = true) (hN : X.N.Nodup) (hi : DI X E tg iter mi) (ok : BlkOk X.N X.env.scope scope own)
    (hg : ∀ (s : Shared) (H : Hp) (C : Addr) (cl : List (Str × Addr)) (fp : List Addr), DG (X.blk s H scope (compEnvC scope cl C X.env) fp) tg g is) (ht : ∀ (s : Shared) (H : Hp) (C : Addr) (cl : List (Str × Addr)) (fp : List Addr), DTs (X.blk s H scope (compEnvC scope cl C X.env) fp) E0 ifs tt)
    (he : ∀ (s : Shared) (H : Hp) (C : Addr) (cl : List (Str × Addr)) (fp : List Addr), DE (X.blk s H scope (compEnvC scope cl C X.env) fp) E0 elt me) (hsub : ∀ i, i ∈ is → i ∈ own.map (·.2) := by decide) (hs : ∀ x, foldedSetIterable iter X.env x = pure x := by intro _; rfl) :
    DE X E (.ListComp elt [⟨tg, iter, ifs, 0⟩] scope pos) (mComp mi g tt me (own.map (·.2))) :=
  ⟨pe_wk (pe_lc (g := tDG X.K g is) (tt := tDT X.K X.mg E0 tt) (te := tD X.K X.mg E0 me) hc hN hi.pi ok (fun s H C cl fp => hg s H C cl fp) (fun s H C cl fp => ht s H C cl fp) (fun s H C cl fp => (he s H C cl fp).pe) hs) fun σ H Q h => comp_run hi.tn (he X.s_0 X.H_0 (0 : Nat) [] []).tn hsub h, mComp_tn hi.tn⟩
theorem ds_setLc (i : Nat) {y : Str} {py spos : Pos} {ifs : List Expr} {scope : Scope} {own : List (Str × Nat)} {g : D → Rho → Option Rho} {is : List Nat} (hc : X.calm = true) (hN : X.N.Nodup) (hi : DI X E tg iter mi) (ok : BlkOk X.N X.env.scope scope own)
    (hg : ∀ (s : Shared) (H : Hp) (C : Addr) (cl : List (Str × Addr)) (fp : List Addr), DG (X.blk s H scope (compEnvC scope cl C X.env) fp) tg g is) (ht : ∀ (s : Shared) (H : Hp) (C : Addr) (cl : List (Str × Addr)) (fp : List Addr), DTs (X.blk s H scope (compEnvC scope cl C X.env) fp) E0 ifs tt)
    (he : ∀ (s : Shared) (H : Hp) (C : Addr) (cl : List (Str × Addr)) (fp : List Addr), DE (X.blk s H scope (compEnvC scope cl C X.env) fp) E0 elt me) (hsw : swapsWith (.ListComp elt [⟨tg, iter, ifs, 0⟩] scope pos) (some (.Name y py)) spos.line X.env = pure true)
    (hy : X.N[i]? = some y := by rfl) (hyl : X.env.scope.names.lookup y = some .local := by rfl) (hsub : ∀ i, i ∈ is → i ∈ own.map (·.2) := by decide) (hs : ∀ x, foldedSetIterable iter X.env x = pure x := by intro _; rfl) :
    DS X E (.Assign [.Name y py] (.ListComp elt [⟨tg, iter, ifs, 0⟩] scope pos) spos) (mAsg (mComp mi g tt me (own.map (·.2))) (gN i)) :=
  ps_wk (ps_setLc (g := tDG X.K g is) (tt := tDT X.K X.mg E0 tt) (te := tD X.K X.mg E0 me) hc hN hy hyl hsw hi.pi ok (fun s H C cl fp => hg s H C cl fp) (fun s H C cl fp => ht s H C cl fp) (fun s H C cl fp => (he s H C cl fp).pe) hs) fun D σ H h => by
    have h2 := asg_run (is := [i]) (mComp_tn hi.tn) h
    refine comp_run (E := E) (Q := fun x H1 => gName i x σ H1 D.nx) hi.tn (he X.s_0 X.H_0 (0 : Nat) [] []).tn hsub ?_
    obtain ⟨Be, He, B, ρ, ev, h2⟩ := h2
    refine ⟨Be, He, B, ρ, ev, ?_⟩
    cases r : mComp mi g tt me (own.map (·.2)) ρ with
    | no => rw [r] at h2; exact h2
    | ex c => rw [r] at h2; exact h2
    | ok q =>
      obtain ⟨d, t⟩ := q
      rw [r] at h2
      intro v B1 H1 x1 dv
      obtain ⟨Be', He', B', ρ', d', ρ2, ev', dv', e1, kk⟩ := h2 v B1 H1 x1 dv
      cases e1
      exact kk _ (ev'.put i dv') (List.length_set ..) fun j hj => List.getElem?_set_ne fun e => hj (by simp [e])
end
end PL

set_option Elab.async false
set_option linter.all false
set_option maxRecDepth 100000
set_option maxHeartbeats 1000000
namespace PL
open PySem PySem.Spec PyProof.Rows L2
variable {K : PySem.W.Frag}

/-! ### defs by names -/
/-- the def st stands at the name x -/
def Df (K : PySem.W.Frag) (mg : Str → Option Value) (x : Str) (st : Stmt) (ps : List Str) : Prop := ∃ f fd, Fun K x x st f fd ∧ mg x = some (.ref f) ∧ Binds K fd ps []
/-- the def at the name x computes F -/
def Dd (P : Program) (w : World) (K : PySem.W.Frag) (mg : Str → Option Value) (base : Heap) (x : Str) (k : Nat) (ps : List Str) (F : List D → Rs D) : Prop :=
  ∃ f fd, mg x = some (.ref f) ∧ PySem.W.keepIn K (.ref f) = true ∧ Binds K fd ps [] ∧ FnOk P w K mg base (L2.CX P w) k f fd ps (spD K mg F)
abbrev Xf (P : Program) (w : World) (K : PySem.W.Frag) (mg : Str → Option Value) (base : Heap) (N : List Str) (x : Str) (st : Stmt) (f : Addr) (cdv : Value) (A : Around) (outer : List Env) (s : Shared) (H : Hp) (E : XK) : Cx :=
  cxOf (L2.CX P w) P w K mg base N x (defScope st) f cdv A outer s H E
section
variable {P : Program} {w : World} {mg : Str → Option Value} {base : Heap} {x : Str} {st : Stmt} {N ps : List Str} {kk n nn : Nat} {body : Rho → Fl}
theorem dd_at {f : Addr} {fd : FuncData} (F : Fun K x x st f fd) (S : FnScope N ps (defScope st)) (h1 : ps.length = n) (h2 : N.length = nn)
    (hb : ∀ (f : Addr) (cdv : Value) (A : Around) (outer : List Env) (s : Shared) (H : Hp) (E : XK), Room kk (Xf P w K mg base N x st f cdv A outer s H E).A → Takes (Xf P w K mg base N x st f cdv A outer s H E) (fun cls d _ H => E cls d H) →
      PassesOwn (model P w) (Xf P w K mg base N x st f cdv A outer s H E).A (Xf P w K mg base N x st f cdv A outer s H E).env (Xf P w K mg base N x st f cdv A outer s H E).xe → Passes (L2.CX P w) (Xf P w K mg base N x st f cdv A outer s H E) E →
      DSs (Xf P w K mg base N x st f cdv A outer s H E) E (defBody st) body) : FnOk P w K mg base (L2.CX P w) (kk + 1) f fd ps (spD K mg (fnRun body nn n)) :=
  fn_ok F S h1 h2 fun cdv A outer s H E hr => by
    have tk : Takes (Xf P w K mg base N x st f cdv A outer s H E) (fun cls d _ H => E cls d H) := takes_of rfl rfl rfl rfl
    exact hb f cdv A outer s H E hr tk (passes_of rfl) (passes_call tk fun _ _ _ _ h => h)
theorem dd_ok (F : Df K mg x st ps) (S : FnScope N ps (defScope st)) (h1 : ps.length = n) (h2 : N.length = nn)
    (hb : ∀ (f : Addr) (cdv : Value) (A : Around) (outer : List Env) (s : Shared) (H : Hp) (E : XK), Room kk (Xf P w K mg base N x st f cdv A outer s H E).A → Takes (Xf P w K mg base N x st f cdv A outer s H E) (fun cls d _ H => E cls d H) →
      PassesOwn (model P w) (Xf P w K mg base N x st f cdv A outer s H E).A (Xf P w K mg base N x st f cdv A outer s H E).env (Xf P w K mg base N x st f cdv A outer s H E).xe → Passes (L2.CX P w) (Xf P w K mg base N x st f cdv A outer s H E) E →
      DSs (Xf P w K mg base N x st f cdv A outer s H E) E (defBody st) body) : Dd P w K mg base x (kk + 1) ps (fnRun body nn n) := by
  obtain ⟨f, fd, F, hm, hbd⟩ := F
  exact ⟨f, fd, hm, F.kp, hbd, dd_at F S h1 h2 hb⟩
theorem Dd.mono {k j : Nat} {F : List D → Rs D} (h : Dd P w K mg base x k ps F) (hk : k ≤ j) : Dd P w K mg base x j ps F := by
  obtain ⟨f, fd, h1, h2, h3, h4⟩ := h
  exact ⟨f, fd, h1, h2, h3, h4.mono hk⟩
theorem Dd.as {k : Nat} {F G : List D → Rs D} (h : Dd P w K mg base x k ps F) (e : ∀ ds, ds.length = ps.length → G ds ≠ .no → F ds = G ds) (hl : ∀ ds, G ds ≠ .no → ds.length = ps.length) : Dd P w K mg base x k ps G := by
  obtain ⟨f, fd, h1, h2, h3, h4⟩ := h
  refine ⟨f, fd, h1, h2, h3, h4.imp fun vs H Q E q => ?_⟩
  obtain ⟨B, ds, s, dv, q⟩ := q
  have hn : G ds ≠ .no := fun z => by rw [z] at q; exact q
  exact ⟨B, ds, s, dv, by rw [e ds (hl ds hn) hn]; exact q⟩
end
section
variable {X : Cx} {E : XK} {e : Expr} {es : List Expr} {pos p : Pos} {ms : Rho → Rs (List D × List Nat)}
theorem de_fn {kk kr : Nat} {ps : List Str} {F : List D → Rs D} {x : Str} (G : Dd X.prog X.w X.K X.mg X.base x kk ps F) (hr : Room kr X.A) (ha : DA X E (e :: es) ms) (hx : Passes (L2.CX X.prog X.w) X E) (hle : kk ≤ kr := by decide) (hg : Gl X x := by rfl)
    (hdb : (x == ("__debug__" : Str)) = false := by decide) (he : starEach (e :: es) X.env = (false, eval e X.env) :: starEach es X.env := by rfl) (hpl : (backTo pos (starEach es X.env)).any (·.1) = false := by rfl) :
    DE X E (.Call (.Name x p) (e :: es) [] pos) (mCall F ms) := by
  obtain ⟨f, fd, h1, h2, h3, h4⟩ := G
  exact de_call h4 (hr.mono hle) hg h1 h2 h3 hx ha hdb he hpl
theorem de_fn0 {kk kr : Nat} {F : List D → Rs D} {x : Str} (G : Dd X.prog X.w X.K X.mg X.base x kk [] F) (hr : Room kr X.A) (hx : Passes (L2.CX X.prog X.w) X E) (hle : kk ≤ kr := by decide) (hg : Gl X x := by rfl)
    (hdb : (x == ("__debug__" : Str)) = false := by decide) : DE X E (.Call (.Name x p) [] [] pos) (mCall F mNil) := by
  obtain ⟨f, fd, h1, h2, h3, h4⟩ := G
  exact de_call0 h4 (hr.mono hle) hg h1 h2 h3 hx hdb
theorem de_gint' {x : Str} {i : Int} (hm : ∃ t, X.mg x = some (.int i t)) (hg : Gl X x := by rfl) (hd : (x == ("__debug__" : Str)) = false := by decide) : DE X E (.Name x pos) (mC (.int i)) := by
  obtain ⟨t, hm⟩ := hm
  exact de_gint hg hm hd
theorem de_gstr' {x z : Str} (hm : ∃ t, X.mg x = some (.str z t)) (hg : Gl X x := by rfl) (hd : (x == ("__debug__" : Str)) = false := by decide) : DE X E (.Name x pos) (mC (.str z)) := by
  obtain ⟨t, hm⟩ := hm
  exact de_gstr hg hm hd
/-- what is known of an own exception class -/
structure ExcF (K : PySem.W.Frag) (mg : Str → Option Value) (x : Str) (C : Addr) : Prop where
  g : mg x = some (.ref C)
  q : PySem.W.excIn K C He.veBase "ValueError.__new__" = true
  k : PySem.W.keepIn K (.ref C) = true
  s : PySem.W.subIn K (.ref C) (.type "BaseException") = some true
  t : PySem.W.typeIn K (.ref C) = some (.type "type")
theorem ds_rs {x z : Str} {j : Nat} {p2 p3 : Pos} (T : ∃ C, ExcF X.K X.mg x C) (tk : Takes X (fun cls d _ H => E cls d H)) (hc : X.calm = true := by rfl) (hg : Gl X x := by rfl) (hdb : (x == ("__debug__" : Str)) = false := by decide) :
    DS X E (.Raise (some (.Call (.Name x p) [.Constant (.str z) j p2] [] pos)) none p3) (fun _ => .ex x) := by
  obtain ⟨C, T⟩ := T
  exact ds_raise hc tk PySem.F.excBase_ValueError T.q T.g T.k (raises_own T.s T.t) hg hdb
end
/-! ### the head's facts -/
section
variable {h : Heap} {mg : Str → Option Value} {fa : List He.Fa} {fn : List He.FnD}
theorem df_mk (X : K.In h) (G : h.Ns mainGlobals mg) (c : He.SaysE fa fn K) (x : Str) (st : Stmt) (ps : List Str) (i jg jk : Nat)
    (hb : ∀ (kV doc pm : Value) (an : Option Addr) (cdv ct : Value) (us : List Value), us.length = ps.length → bindArgs (PySem.W.fnOf x x (defArgs st) (defBody st) (defScope st) .none kV doc pm an cdv ct) ⟨us, []⟩ = pure (ps.zip us))
    (hi : fn[i]? = some ⟨(x, none), x, x, defArgs st, defBody st, defScope st⟩ := by rfl) (hg : fa[jg]? = some (.glo x) := by rfl) (hk : fa[jk]? = some (.keep x) := by rfl) : Df K mg x st ps := by
  obtain ⟨oc, od, osl, kV, doc, pm, an, cdv, ct, l, hc⟩ := c.def_ i hi
  have F := fun_mk (st := st) l hc (He.keep_ok (c.fact jk hk))
  exact ⟨_, _, F, He.glo_ok X G (c.fact jg hg), F.binds hb⟩
theorem exc_mk (X : K.In h) (G : h.Ns mainGlobals mg) (c : He.SaysE fa fn K) (x : Str) (jg je : Nat) (hg : fa[jg]? = some (.glo x) := by rfl) (he : fa[je]? = some (.exc x) := by rfl) : ∃ C, ExcF K mg x C := by
  obtain ⟨h1, h2, h3, h4⟩ := He.exc_ok (c.fact je he)
  exact ⟨_, He.glo_ok X G (c.fact jg hg), h1, h2, h3, h4⟩
end
theorem scr_rel {H : Hp} {a : Addr} {ns : List Int} (h : SqL K H a (ns.map V.int)) : DqAll K H [.ref a] [scrD ns] := .cons (.scr h) .nil
/-- a law whose function gives True -/
theorem law_sp {mg : Str → Option Value} {H : Hp} {a : Addr} {ns : List Int} {F : List D → Rs D} {E : XK} (h : SqL K H a (ns.map V.int)) (e : F [scrD ns] = .ok (.bool true)) : spD K mg F [.ref a] H (fun v _ => v = .bl true) E := by
  refine ⟨H, _, .refl _, scr_rel h, ?_⟩
  rw [e]
  intro v B' H' _ dv
  cases dv
  rfl
theorem cx_none {P : Program} {w : World} {H : Hp} {s s' : Shared} {e : Value} (h : L2.CX P w [] H s (fun _ _ _ => False) e s') : False := by
  obtain ⟨_, _, _, _, _, _, _, _, _, _, _, _, z⟩ := h
  exact z
theorem fn0 {P : Program} {w : World} {mg : Str → Option Value} {base : Heap} {k : Nat} {f : Addr} {fd : FuncData} {ps : List Str} {sp : Sp} (h : FnOk P w K mg base (L2.CX P w) k f fd ps sp) : FnOk P w K mg base CX0 k f fd ps (fun vs H Q _ => sp vs H Q E0) :=
  ⟨fun vs H Q E q => h.len _ _ _ _ q, fun A outer s H args us vs Q E hr e0 hb hv hs => codeAny_mono (h.run A outer s H args us vs Q E0 hr e0 hb hv hs) fun r s' q => by
    cases r with
    | error e =>
      obtain ⟨_, _, _, _, _, _, _, _, _, _, _, _, z⟩ := q
      exact z
    | ok fl => cases fl <;> exact q⟩
theorem law_bind {x qual p : Str} {st : Stmt} {f : Addr} {fd : FuncData} (F : Fun K x qual st f fd)
    (h : ∀ (kV doc pm : Value) (an : Option Addr) (cdv ct : Value) (us : List Value), us.length = 1 → bindArgs (PySem.W.fnOf x qual (defArgs st) (defBody st) (defScope st) .none kV doc pm an cdv ct) ⟨us, []⟩ = pure ([p].zip us)) (s : Shared) (u : Value) : BindsTo s fd ⟨[u], []⟩ [(p, u)] := by
  obtain ⟨oc, od, kV, doc, pm, an, cdv, ct, osl, rfl, lk, hcd⟩ := F.ex
  exact .of_eq (h kV doc pm an cdv ct [u] rfl)
end PL

set_option Elab.async false
set_option linter.all false
set_option maxRecDepth 100000
set_option maxHeartbeats 1000000
namespace PL
open PySem PySem.Spec PyProof.Rows L2
variable {K : PySem.W.Frag}
theorem u65 {k : Nat} {A : Around} (hr : Room k A) : A.units + 65 < cLine := by have := hr.un; omega
/-! ### max(xs, default=d) -/
def maxdI (d : Int) : List Int → Int
  | [] => d
  | n :: r => r.foldl max n
theorem maxOf_fold : ∀ (r : List Int) (n : Int), PySem.W.maxOf n r = r.foldl max n
  | [], _ => rfl
  | x :: r, n => by
    rw [List.foldl_cons, ← maxOf_fold r (max n x)]
    show r.foldl _ (if decide (n < x) = true then x else n) = r.foldl _ (max n x)
    by_cases c : n < x
    · rw [if_pos (decide_eq_true c), show max n x = x by omega]
    · rw [if_neg (by simpa using c), show max n x = n by omega]
theorem reads_ints {h : Heap} : ∀ {ns : List Int} {us : List Value}, Vals (ns.map V.int) us → ∃ as, ReadsAll h us (ns.map PySem.W.Datum.toD) as
  | [], _, .nil => ⟨_, .nil⟩
  | n :: ns, _, .cons r t => by
    obtain ⟨u, rfl⟩ := r
    obtain ⟨as, q⟩ := reads_ints t
    exact ⟨_, .cons (.int n u) q⟩
def rMaxd (K : PySem.W.Frag) : List V → List V → Hp → VK → Prop := fun xs zs H Q => ∃ (a : Addr) (ns : List Int) (d : Int), xs = [.ref a] ∧ zs = [.int d] ∧ SqL K H a (ns.map V.int) ∧ Q (.int (maxdI d ns)) H
section
variable {X : Cx} {E : XK} {e : Expr} {es : List Expr} {pos p : Pos} {m : Rho → Rs TD} {ms : Rho → Rs (List D × List Nat)}
theorem cr_maxd (hc : X.calm = true) (hu : X.A.units + 65 < cLine) : CallRK X (.builtin "max") [Str.ofString "default"] (rMaxd X.K) := by
  intro pins s σ H xs zs us ws Q I rx rz h
  obtain ⟨a, ns, d, rfl, rfl, hs, q⟩ := h
  obtain ⟨its, rv, pl, hz⟩ := I.list hs
  obtain ⟨u, rfl, ru⟩ := vals1 rx
  obtain ⟨z, rfl, t, rfl⟩ := vals1 rz
  cases (show u = Value.ref a from ru)
  have hu2 : X.A.units + 1 + PySem.W.Datum.depth Int < cLine := by
    have e : PySem.W.Datum.depth Int ≤ 1 := by decide
    omega
  refine PySem.W.max_list_datum_default (α := Int) (xs := ns) (I.ok.hd hc) pl.isList (reads_ints (h := s.heap) (by simpa using rv)) hu2 (fun e h' tk k => ?_) fun y ys i v h' tk e hi hv k => ?_
  · subst e
    exact ⟨.int d, H, I.kept (t' := tk) k, ⟨t, rfl⟩, q⟩
  · subst e
    obtain ⟨as, hv⟩ := hv
    obtain ⟨t2, rfl⟩ : ∃ t2, v = .int (PySem.W.maxOf y ys) t2 := by
      generalize hd : PySem.W.Datum.toD (PySem.W.maxOf y ys) = dd at hv
      have hd2 : PyData.int (PySem.W.maxOf y ys) = dd := hd
      cases hv <;> cases hd2
      exact ⟨_, rfl⟩
    refine ⟨.int _, H, I.kept (t' := tk) k, ⟨t2, rfl⟩, ?_⟩
    rw [maxOf_fold]
    exact q
def maxdF (d : Int) : List D → Option D
  | [.list ds] => (asInts ds).map fun ns => .int (maxdI d ns)
  | _ => none
theorem de_maxd {d : Int} {j : Nat} {p2 kpos : Pos} (hc : X.calm = true) (hu : X.A.units + 65 < cLine) (hm : X.mg "max" = none) (he : DE X E e m) (hg : Gl X "max" := by rfl)
    (h1 : backTo pos (starEach [e] X.env) = (false, eval e X.env) :: backTo pos (starEach [] X.env) := by rfl) (hpl : (backTo pos (starEach [e] X.env)).any (·.1) = false := by rfl)
    (hs : starEach [e] X.env = (false, eval e X.env) :: starEach [] X.env := by rfl)
    (hall : (backToKw pos (keywordEach [⟨some "default", .Constant (.int d) j p2, kpos⟩] X.env)).all (·.1.isSome) = true := by rfl) (hnone : (backToKw pos (keywordEach [⟨some "default", .Constant (.int d) j p2, kpos⟩] X.env)).any (·.1.isNone) = false := by rfl)
    (hks : (backToKw pos (keywordEach [⟨some "default", .Constant (.int d) j p2, kpos⟩] X.env)).filterMap (·.1) = [Str.ofString "default"] := by rfl) :
    DE X E (.Call (.Name "max" p) [e] [⟨some "default", .Constant (.int d) j p2, kpos⟩] pos) (mF (maxdF d) (mCons m mNil)) := by
  have ha : DA X E [e] (mCons m mNil) := da_cons he da_nil hs
  refine ⟨pe_wk (pe_callBK (cr_maxd hc hu) hg hm boot_max ha.pa (pk_cons pe_int pk_nil) (by decide) (by decide) h1 hpl hall hnone hks) fun σ H Q h => ?_, mF_tn ha.tn⟩
  refine args_op (r := fun vs H Q => rMaxd X.K vs [.int d] H Q) ha.tn (fun B vs ds H Q s hv h => ?_) h
  unfold maxdF at h
  split at h
  · cases hv with
    | cons r1 r2 =>
      cases r2
      cases r1 with
      | lst r a =>
        rename_i es _ _
        cases q : asInts es with
        | none => rw [q] at h; exact h.elim
        | some ns =>
          rw [q] at h
          have e := asInts_of a q
          subst e
          exact ⟨_, ns, d, rfl, rfl, .inl (Same.rd s r), some_run s h fun _ => .int _⟩
  · exact h.elim

/-! ### list(x) of a list, a tuple, a text -/
def rListS : List V → Hp → VK → Prop := fun xs H Q => ∃ z : Str, xs = [.str z] ∧ z.length ≤ sizeLine ∧ ∀ l, H l = none → Q (.ref l) (upd H l (.lst (z.cps.toList.map fun c => V.str ⟨#[c]⟩)))
theorem call_listS (hc : X.calm = true) : CallR X (.type "list") rListS := by
  intro pins s σ H xs us Q I r h
  obtain ⟨z, rfl, hz, q⟩ := h
  obtain ⟨u, rfl, t, rfl⟩ := vals1 r
  refine PySem.call_list_str (I.ok.hd hc) z t (fun h' tk acc' c' hk hS hi => ?_) hz
  have hv : Vals (z.cps.toList.map fun c => V.str ⟨#[c]⟩) acc'.toList := by
    refine vals_of_at (by rw [List.length_map, Array.length_toList, Array.length_toList, hi.1]) fun j x u h1 h2 => ?_
    rw [List.getElem?_map] at h1
    obtain ⟨c, u', g1, g2⟩ := hi.2 j u (by rw [← Array.getElem?_toList]; exact h2)
    rw [Array.getElem?_toList, g1] at h1
    cases h1
    exact ⟨u', g2⟩
  refine ⟨.ref s.heap.objs.size, _, I.laid (t' := tk) hk (Nat.le_refl _) (show ObjOk X.prog X.w _ _ _ (.lst _) from ⟨?_, acc'.toList, c', hv, ?_⟩), rfl, q _ (I.hok.fresh (Nat.le_refl _))⟩
  · rw [List.length_map, Array.length_toList]; exact hz
  · rw [Array.toArray_toList]; exact hS
def listAF : List D → Option D
  | [.list ds] => some (.list ds)
  | [.tuple ds] => some (.list ds)
  | [.str z] => if z.length ≤ sizeLine then some (.list (charsD z)) else none
  | _ => none
theorem call_listA (hc : X.calm = true) : CallR X (.type "list") (fun xs H Q => (∃ p ys, xs = [.ref p] ∧ (SqL X.K H p ys ∨ SqT X.K H p ys) ∧ ∀ l, H l = none → Q (.ref l) (upd H l (.lst ys))) ∨ rListS xs H Q) := call_list_of.or (call_listS hc)
theorem chars_dq {B : Hp} : ∀ cs : List Nat, DqAll K B (cs.map fun c => V.str ⟨#[c]⟩) (cs.map fun c => PyData.str ⟨#[c]⟩)
  | [] => .nil
  | c :: cs => .cons (.str _) (chars_dq cs)
theorem f_listA : OpOk K (fun xs H Q => (∃ p ys, xs = [.ref p] ∧ (SqL K H p ys ∨ SqT K H p ys) ∧ ∀ l, H l = none → Q (.ref l) (upd H l (.lst ys))) ∨ rListS xs H Q) listAF := by
  intro B vs ds H Q s hv h
  unfold listAF at h
  split at h
  · exact .inl (f_list B vs _ H Q s hv h)
  · exact .inl (f_list B vs _ H Q s hv h)
  · split at h
    · rename_i c
      cases hv with
      | cons r1 r2 =>
        cases r2; cases r1
        exact .inr ⟨_, rfl, c, new_list s h (chars_dq _)⟩
    · exact h.elim
  · exact h.elim
end
end PL

set_option Elab.async false
set_option linter.all false
set_option maxRecDepth 100000
set_option maxHeartbeats 2000000
/-! list(reversed(x)), several targets at once, the empty dict, list(range) -/
namespace PLR
open PySem PySem.Spec PyProof.Rows RT
variable {prog : Program} {w : World} {A : Around} {E : Value → Shared → Prop} {s : Shared}
abbrev RevTo (items : Array Value) (acc : Array Value) : Prop := ItemsOf (fun i v => items[items.size - 1 - i]? = some v) acc items.size
theorem ext_rev {R : Result → Shared → Prop} {it l S : Addr} {items : Array Value} {res : Value} {c₀ : Nat} (hh : A.handled = none) (hit : s.heap.IsRevIter it l ((items.size : Int) - 1)) (hl : s.heap.IsList l items) (hne : l ≠ it) (hn : items.size ≤ sizeLine)
    (hS : s.heap.get? S = some { cls := .type "list", data := .seq #[] c₀ }) (hSi : S ≠ it) (hSl : S ≠ l)
    (hR : ∀ (h' : Heap) (tk : Nat) (acc : Array Value) (c' : Nat), (∀ b o, b ≠ S → b ≠ it → s.heap.get? b = some o → h'.get? b = some o) → h'.get? S = some { cls := .type "list", dict := none, data := .seq acc c', slots := #[] } → RevTo items acc → R (.ok (.ret res)) { s with heap := h', toks := tk }) :
    wpAny (model prog w) A.in1 (Builtin.List.listExtendWith (.ref S) (.ref it) res)
      (fun fin s' => match fin with | .done f => R (.ok f) s' | .again c' => c'.quiet = true ∧ codeAny (model prog w) A c' R s') (fun e s' => R (.error e) s') s := by
  have W := (Walks.listRev (prog := prog) (w := w) (A := A.in1) hh it l hne items).toS
  have out : S ∉ [it, l] := by
    intro q
    rcases List.mem_cons.mp q with q | q
    · exact hSi q
    · exact hSl (List.mem_singleton.mp q)
  have hT : s.TypeIs (.ref it) "list_reverseiterator" := hit.typeIs
  have other : Builtin.List.listSameRef (.ref S) (.ref it) = false := by simp [Builtin.List.listSameRef, hSi]
  unfold Builtin.List.listExtendWith
  refine wpAny_bind (wpAny_typeOf hT ?_)
  rw [if_neg (by rw [other]; decide)]
  refine wpAny_bind (wpAny_pyIter_revIter hit (wpAny_bind (wpAny_holding ?_)))
  unfold Builtin.List.listLengthHint
  refine wpAny_bind (wpAny_specialOf hT nolen_lri ?_)
  show wpAny _ A.in1 (specialOf (Value.ref it) (Str.ofString "__length_hint__") >>= _) _ _ _
  refine wpAny_bind (wpAny_specialOf hT hint_lri ?_)
  generalize hid : ("list_reverseiterator.__length_hint__" : String) = hint
  wp_delta
  have two : splitId hint = some ("list_reverseiterator", "__length_hint__") := by
    subst hid
    decide +kernel
  rw [two]
  subst hid
  refine wpAny_bind (wpAny_isInstance (b := true) hT (by rw [isSubtype_type]; kernel_rfl) (wpAny_pure ?_))
  rw [if_neg (by decide)]
  have start : ((items.size : Nat) : Int) - 1 - ((0 : Nat) : Int) = (items.size : Int) - 1 := by omega
  refine wpAny_pure ⟨plainId_quiet F.plain_extend_loop _, codeAny_extend_loopS W hn S out res items.size 0 _ #[] c₀ rfl (Nat.zero_le _) ⟨Nat.zero_le _, by rw [start]; exact hit, hl⟩ hS (ItemsOf.nil _) fun s' acc c' hm got told => ?_⟩
  rw [Moved.eq_with hm]
  refine hR s'.heap s'.toks acc c' (fun b o b1 b2 e => hm.heap b o (fun q => ?_) e) got told
  rcases List.mem_cons.mp q with q | q
  · exact b1 q
  · exact b2 (List.mem_singleton.mp q)
theorem list_rev {it l : Addr} {items : Array Value} {Q : Value → Shared → Prop} (hh : A.handled = none) (hit : s.heap.IsRevIter it l ((items.size : Int) - 1)) (hl : s.heap.IsList l items) (hne : l ≠ it) (hn : items.size ≤ sizeLine)
    (hQ : ∀ (h' : Heap) (tk : Nat) (acc : Array Value) (c' : Nat), (∀ b o, b ≠ it → s.heap.get? b = some o → h'.get? b = some o) → h'.get? s.heap.objs.size = some { cls := .type "list", dict := none, data := .seq acc c', slots := #[] } → RevTo items acc →
      Q (.ref s.heap.objs.size) { s with heap := h', toks := tk }) : wpAny (model prog w) A (call (.type "list") [.ref it]) Q E s := by
  refine callType_codes (Q₁ := fun obj s₁ => obj = .ref s.heap.objs.size ∧ s₁ = { s with heap := s.heap.push { cls := .type "list", data := .seq #[] } }) F.called_list (F.typeCall_list_1 _) F.entry_list_init (code_list_new _ ⟨rfl, rfl⟩) fun obj s₁ h₁ => ?_
  obtain ⟨rfl, rfl⟩ := h₁
  have new : (s.heap.push { cls := .type "list", data := .seq #[] }).get? s.heap.objs.size = some { cls := .type "list", data := .seq #[] } := Heap.get?_push_size _ rfl
  obtain ⟨oi, hoi, _⟩ := id hit
  obtain ⟨ol, hol, _⟩ := id hl
  have hSi : s.heap.objs.size ≠ it := Nat.ne_of_gt (Heap.lt_size hoi)
  have hSl : s.heap.objs.size ≠ l := Nat.ne_of_gt (Heap.lt_size hol)
  have keep0 : ∀ b o, s.heap.get? b = some o → (s.heap.push { cls := .type "list", data := .seq #[] }).get? b = some o := fun b o e => Heap.get?_push_of_some _ e
  refine ⟨⟨_, new, rfl⟩, F.args_list_init_2 _ _, ?_⟩
  show wpAny _ _ (do let old ← Builtin.List.listItems (.ref s.heap.objs.size); Builtin.List.listUpdate (.ref s.heap.objs.size) (fun _ => #[]); letGo old.toList.reverse; Builtin.List.listExtendWith (.ref s.heap.objs.size) (.ref it) .none) _ _ _
  unfold Builtin.List.listItems
  refine wpAny_bind (wpAny_bind (wpAny_seqItems new rfl (wpAny_pure ?_)))
  show wpAny _ _ (updateSeq s.heap.objs.size (fun _ => #[]) >>= fun _ => letGo (#[] : Array Value).toList.reverse >>= fun _ => Builtin.List.listExtendWith (.ref s.heap.objs.size) (.ref it) .none) _ _ _
  refine wpAny_bind (wpAny_updateSeq new rfl (wpAny_bind (wpAny_letGo ?_)))
  have new2 := Heap.get?_update_self (Obj.mapSeq (fun _ => (#[] : Array Value))) new rfl
  have keep : ∀ b o, b ≠ s.heap.objs.size → s.heap.get? b = some o → ((s.heap.push { cls := .type "list", data := .seq #[] }).update s.heap.objs.size (Obj.mapSeq (fun _ => (#[] : Array Value)))).get? b = some o := fun b o hb e => (Heap.get?_update_other _ _ (Ne.symm hb)).trans (keep0 b o e)
  refine ext_rev hh (hit.at fun o e => keep it o (Ne.symm hSi) e) ⟨ol, keep l ol (Ne.symm hSl) hol, by obtain ⟨o2, h2, c2, n2, d2⟩ := id hl; rw [hol] at h2; cases h2; exact ⟨c2, n2, d2⟩⟩ hne hn new2 hSi hSl fun h' tk acc c' hk got told => ?_
  exact ⟨rfl, hQ h' tk acc c' (fun b o b1 e => hk b o (Nat.ne_of_lt (Heap.lt_size e)) b1 (keep b o (Nat.ne_of_lt (Heap.lt_size e)) e)) got told⟩
end PLR
namespace PL
open PySem PySem.Spec PyProof.Rows L2
variable {K : PySem.W.Frag}
section
variable {X : Cx} {E : XK} {e : Expr} {es : List Expr} {pos p : Pos} {m : Rho → Rs TD} {ms : Rho → Rs (List D × List Nat)}
/-- list(reversed(x)), x a list -/
def tLstRev (K : PySem.W.Frag) (te : TE) : TE := fun σ H Q => te σ H fun v H1 => ∃ (a : Addr) (xs : List V), v = .ref a ∧ SqL K H1 a xs ∧ ∀ q, H1 q = none → Q (.ref q) (upd H1 q (.lst xs.reverse))
theorem pe_lstRev {te : TE} {p2 pos2 : Pos} (hc : X.calm = true) (hg : Gl X "list") (hm : X.mg "list" = none) (hg2 : Gl X "reversed") (hm2 : X.mg "reversed" = none) (he : PE X e te)
    (hs : starEach [e] X.env = (false, eval e X.env) :: starEach [] X.env := by rfl)
    (hs2 : starEach [.Call (.Name "reversed" p2) [e] [] pos2] X.env = (false, eval (.Call (.Name "reversed" p2) [e] [] pos2) X.env) :: starEach [] X.env := by rfl) :
    PE X (.Call (.Name "list" p) [.Call (.Name "reversed" p2) [e] [] pos2] [] pos) (tLstRev X.K te) := by
  refine ⟨fun pins s σ H Q I h => ?_⟩
  refine Call_ (ld_blt I hg hm boot_list (PyProof.Rows.callWith_type1 (args_cons (Call_ (ld_blt I hg2 hm2 PyProof.Rows.boot_reversed (PyProof.Rows.callWith_type1 (args_cons (thn (he.run pins s σ H _ I h) fun u s1 ⟨v, H1, I1, r1, q1⟩ => args_nil ?_) hs) hs rfl))) hs2) hs2 rfl))
  obtain ⟨a, xs, ev, hq, q⟩ := q1
  subst ev
  cases (show u = Value.ref a from r1)
  obtain ⟨its, rv, pl, hz⟩ := I1.list hq
  refine call_reversed_list pl.isList (args_nil ?_)
  generalize ho : revObj a ((its.toArray.size : Int) - 1) = ro
  have I2 : Inv X pins σ H1 { s1 with heap := s1.heap.push ro } := I1.kept (t' := s1.toks) fun b o e => Heap.get?_push_of_some _ e
  obtain ⟨f0, f1, f2, f3, f4, f5⟩ := I1.fpOk (H' := H1) (b := s1.heap.objs.size) (Nat.le_refl _) (I1.hok.fresh (Nat.le_refl _))
  have hl := pl.isList
  obtain ⟨ol, hol, _⟩ := id hl
  have hne : a ≠ s1.heap.objs.size := Nat.ne_of_lt (Heap.lt_size hol)
  have hn : its.toArray.size ≤ sizeLine := by rw [List.size_toArray, ← rv.length]; exact hz
  have hi : (s1.heap.push ro).get? s1.heap.objs.size = some ro := Heap.get?_push_size _ (by subst ho; rfl)
  refine PLR.list_rev (s := { s1 with heap := s1.heap.push ro }) (I1.ok.hd hc) ⟨ro, hi, by subst ho; rfl, by subst ho; rfl⟩ (hl.push _) hne hn fun h' tk acc c' hk got told => ?_
  have hf : ∀ b ∈ [s1.heap.objs.size], FpOk X pins H1 b := fun b hb => by
    have e : b = s1.heap.objs.size := by simpa using hb
    subst e
    exact ⟨f0, f1, f2, f3, f4, f5⟩
  have fr : H1 (s1.heap.push ro).objs.size = none := I2.hok.fresh (Nat.le_refl _)
  have new : ObjOk X.prog X.w (upd H1 (s1.heap.push ro).objs.size (.lst xs.reverse)) h' (s1.heap.push ro).objs.size (.lst xs.reverse) :=
    ⟨by rw [List.length_reverse]; exact hz, acc.toList, c', RT.vals_rev rv told, by rw [Array.toArray_toList]; exact got⟩
  exact ⟨.ref (s1.heap.push ro).objs.size, _, Inv.turnedNew (s := { s1 with heap := s1.heap.push ro }) (t' := tk) I2 (ch := [s1.heap.objs.size]) (fun b ob hb z => hk b ob (by simpa using hb) z) hf (Nat.le_refl _) new, rfl, q _ fr⟩
/-- a new list, the other way round -/
def mOrev (m : Rho → Rs TD) : Rho → Rs (List D) := fun ρ => (m ρ).bind fun q => if q.2 = [] then (match q.1 with
  | .list ds => .ok ds.reverse
  | _ => .no) else .no
theorem do_rev {p2 pos2 : Pos} (hc : X.calm = true) (hg : Gl X "list") (hm : X.mg "list" = none) (hg2 : Gl X "reversed") (hm2 : X.mg "reversed" = none) (he : DE X E e m)
    (hs : starEach [e] X.env = (false, eval e X.env) :: starEach [] X.env := by rfl)
    (hs2 : starEach [.Call (.Name "reversed" p2) [e] [] pos2] X.env = (false, eval (.Call (.Name "reversed" p2) [e] [] pos2) X.env) :: starEach [] X.env := by rfl) :
    DO X E (.Call (.Name "list" p) [.Call (.Name "reversed" p2) [e] [] pos2] [] pos) (mOrev m) := pe_wk (pe_lstRev hc hg hm hg2 hm2 he.pe hs hs2) fun σ H Q h => by
  obtain ⟨Be, He, B, ρ, ev, h⟩ := h
  refine ⟨Be, He, B, ρ, ev, ?_⟩
  unfold mOrev at h
  cases r1 : m ρ with
  | no => rw [r1] at h; exact h
  | ex c => rw [r1] at h; exact h
  | ok q1 =>
    obtain ⟨d, t⟩ := q1
    rw [r1] at h
    intro v B1 H1 x1 dv1
    have ev1 := ev.up x1
    dsimp only [Rs.bind] at h
    split at h
    · rename_i c
      have c : t = [] := c
      subst c
      have dv1 : Dq X.K B1 v d := dv1
      cases d with
      | list ds =>
        cases dv1 with
        | lst r al =>
          exact ⟨_, _, rfl, .inl (Same.rd ev1.bh r), fun p hp => h p _ B1 _ (x1.trans (.same ev1.bh fun a o q => by rw [upd_ne (ne_of_none q hp)]; exact q)) (ev1.bh.free hp) (x1.h.free hp) upd_same al.reverse⟩
      | _ => exact h.elim
    · exact h.elim
/-! ### a, b = x, y -/
def mPar (ms : Rho → Rs (List D × List Nat)) (is : List Nat) : Rho → Fl := fun ρ => (ms ρ).fl fun q => if q.2 = [] then (match is, q.1 with
  | [i, j], [d, e] => .nx ((ρ.set i (.im d)).set j (.im e))
  | [i, j, l], [d, e, f] => .nx (((ρ.set i (.im d)).set j (.im e)).set l (.im f))
  | _, _ => .no) else .no
theorem ds_par2 (i j : Nat) {x y : Str} {a b : Expr} {px py pt : Pos} {kt k2 pt2} (hN : X.N.Nodup) (ha : DA X E [a, b] ms) (hc : X.calm = true := by rfl) (hi : X.N[i]? = some x := by rfl) (hj : X.N[j]? = some y := by rfl) (hij : i ≠ j := by decide)
    (hx : X.env.scope.names.lookup x = some .local := by rfl) (hy : X.env.scope.names.lookup y = some .local := by rfl)
    (hw : swappedStores [.Tuple [.Name x px, .Name y py] kt pt] (.Tuple [a, b] k2 pt2) X.env = pure (some [x, y]) := by rfl)
    (hs : swapsWithSole [.Tuple [.Name x px, .Name y py] kt pt] (.Tuple [a, b] k2 pt2) pos.line X.env = pure false := by rfl) :
    DS X E (.Assign [.Tuple [.Name x px, .Name y py] kt pt] (.Tuple [a, b] k2 pt2) pos) (mPar ms [i, j]) := ps_wk (ps_par hc hN hi hj hij hx hy ha.pa hw hs) fun D σ H h => by
  obtain ⟨Be, He, B, ρ, ev, h⟩ := h
  refine ⟨Be, He, B, ρ, ev, ?_⟩
  unfold mPar at h
  cases r : ms ρ with
  | no => rw [r] at h; exact h
  | ex c => rw [r] at h; exact h
  | ok q =>
    obtain ⟨ds, t⟩ := q
    rw [r] at h
    dsimp only [Rs.fl] at h
    split at h
    · rename_i c
      have c : t = [] := c
      subst c
      rcases ds with _ | ⟨d1, _ | ⟨d2, _ | ⟨d3, ds⟩⟩⟩
      · exact (show False from h).elim
      · exact (show False from h).elim
      · intro vs B1 H1 x1 dv
        have dv : DqAll X.K B1 vs [d1, d2] := dv
        cases dv with
        | cons g1 dv =>
          cases dv with
          | cons g2 dv =>
            cases dv with
            | nil => exact ⟨_, _, rfl, h _ B1 H1 (((ev.up x1).put i g1).put j g2) x1.b⟩
      · exact (show False from h).elim
    · exact h.elim
theorem ds_par3 (i j l : Nat) {x y z : Str} {a b c : Expr} {px py pz pt : Pos} {kt k2 pt2} (hN : X.N.Nodup) (ha : DA X E [a, b, c] ms) (hc : X.calm = true := by rfl) (hi : X.N[i]? = some x := by rfl) (hj : X.N[j]? = some y := by rfl) (hl : X.N[l]? = some z := by rfl)
    (hij : i ≠ j := by decide) (hil : i ≠ l := by decide) (hjl : j ≠ l := by decide)
    (hx : X.env.scope.names.lookup x = some .local := by rfl) (hy : X.env.scope.names.lookup y = some .local := by rfl) (hz : X.env.scope.names.lookup z = some .local := by rfl)
    (hw : swappedStores [.Tuple [.Name x px, .Name y py, .Name z pz] kt pt] (.Tuple [a, b, c] k2 pt2) X.env = pure (some [x, y, z]) := by rfl)
    (hs : swapsWithSole [.Tuple [.Name x px, .Name y py, .Name z pz] kt pt] (.Tuple [a, b, c] k2 pt2) pos.line X.env = pure false := by rfl) :
    DS X E (.Assign [.Tuple [.Name x px, .Name y py, .Name z pz] kt pt] (.Tuple [a, b, c] k2 pt2) pos) (mPar ms [i, j, l]) := ps_wk (ps_par3 hc hN hi hj hl hij hil hjl hx hy hz ha.pa hw hs) fun D σ H h => by
  obtain ⟨Be, He, B, ρ, ev, h⟩ := h
  refine ⟨Be, He, B, ρ, ev, ?_⟩
  unfold mPar at h
  cases r : ms ρ with
  | no => rw [r] at h; exact h
  | ex c => rw [r] at h; exact h
  | ok q =>
    obtain ⟨ds, t⟩ := q
    rw [r] at h
    dsimp only [Rs.fl] at h
    split at h
    · rename_i c
      have c : t = [] := c
      subst c
      rcases ds with _ | ⟨d1, _ | ⟨d2, _ | ⟨d3, _ | ⟨d4, ds⟩⟩⟩⟩
      · exact (show False from h).elim
      · exact (show False from h).elim
      · exact (show False from h).elim
      · intro vs B1 H1 x1 dv
        have dv : DqAll X.K B1 vs [d1, d2, d3] := dv
        cases dv with
        | cons g1 dv =>
          cases dv with
          | cons g2 dv =>
            cases dv with
            | cons g3 dv =>
              cases dv with
              | nil => exact ⟨_, _, _, rfl, h _ B1 H1 ((((ev.up x1).put i g1).put j g2).put l g3) x1.b⟩
      · exact (show False from h).elim
    · exact h.elim
end
end PL

set_option Elab.async false
set_option linter.all false
set_option maxRecDepth 100000
set_option maxHeartbeats 2000000
/-! dicts of one's own: keys are tuples of numbers and texts, values numbers -/
namespace PL
open PySem PySem.Spec PyProof.Rows L2
variable {K : PySem.W.Frag}
abbrev KVs := List (List L2.Key × Int)
def vI (kvs : KVs) (k : List L2.Key) : Option Int := (kvs.find? fun p => decide (p.1 = k)).map (·.2)
def pI (kvs : KVs) (k : List L2.Key) (v : Int) : KVs := if (kvs.any fun p => decide (p.1 = k)) = true then kvs.map (fun p => if p.1 = k then (p.1, v) else p) else kvs ++ [(k, v)]
theorem valV_ivs (k : List L2.Key) : ∀ kvs : KVs, valV (ivs kvs) k = (vI kvs k).map V.int
  | [] => rfl
  | p :: r => by
    have ih := valV_ivs k r
    unfold ivs vI valV at *
    rw [List.map_cons, List.find?_cons, List.find?_cons]
    by_cases e : p.1 = k
    · simp [e]
    · simp only [e, decide_false]
      exact ih
theorem putK_ivs (kvs : KVs) (k : List L2.Key) (v : Int) : putK (ivs kvs) k (.int v) = ivs (pI kvs k v) := by
  unfold putK pI ivs
  rw [List.any_map]
  have e : ((fun kv : List L2.Key × V => decide (kv.1 = k)) ∘ fun p : List L2.Key × Int => (p.1, V.int p.2)) = fun p => decide (p.1 = k) := rfl
  rw [e]
  split
  · rw [List.map_map, List.map_map]
    apply List.map_congr_left
    intro p _
    simp only [Function.comp]
    split <;> rfl
  · rw [List.map_append]; rfl
theorem ivs_len (kvs : KVs) : (ivs kvs).length = kvs.length := List.length_map ..
def keyOf1 : D → Option L2.Key
  | .int i => some (.inl i)
  | .str s => some (.inr s)
  | _ => none
def keysOf : List D → Option (List L2.Key)
  | [] => some []
  | d :: ds => match keyOf1 d, keysOf ds with
    | some k, some ks => some (k :: ks)
    | _, _ => none
def keyOf : D → Option (List L2.Key)
  | .tuple ds => keysOf ds
  | _ => none
theorem keys_of {B : Hp} : ∀ {vs : List V} {ds : List D} {ks : List L2.Key}, DqAll K B vs ds → keysOf ds = some ks → vs = ks.map kV
  | _, _, _, .nil, e => by cases e; rfl
  | _, _, ks, .cons (d := d) (ds := ds) h t, e => by
    unfold keysOf at e
    cases q1 : keyOf1 d with
    | none => rw [q1] at e; cases e
    | some k =>
      cases q2 : keysOf ds with
      | none => rw [q1, q2] at e; cases e
      | some ks' =>
        rw [q1, q2] at e
        cases e
        rw [keys_of t q2]
        cases h <;> first | (cases q1; done) | (cases q1; rfl)
theorem key_of {B H : Hp} (s : Same B H) {v : V} {d : D} {k : List L2.Key} (h : Dq K B v d) (e : keyOf d = some k) : ∃ b, v = .ref b ∧ H b = some (.tup (k.map kV)) := by
  cases h <;> first | (cases e; done) | skip
  rename_i r a
  rw [← keys_of a e]
  exact ⟨_, rfl, s _ _ r⟩

/-! ### in the environment -/
theorem Ev.putD {Be He B H : Hp} {σ : L2.St} {ρ : Rho} (ev : Ev K Be He B H σ ρ) (i : Nat) {l : Addr} {ks : KVs} (hl : H l = some (.dT (ivs ks))) (hn : He l = none) (bn : B l = none)
    (apart : ∀ (j : Nat) (es : KVs), ρ[j]? = some (.dk es) → σ[j]? ≠ some (some (.ref l))) (apartN : ∀ (j : Nat) (dss : List (List D)) (l' : Addr) (ls : List Addr), ρ[j]? = some (.nl dss) → σ[j]? = some (some (.ref l')) → H l' = some (.lst (ls.map V.ref)) → l ≠ l' ∧ l ∉ ls) : Ev K Be He B H (σ.set i (some (.ref l))) (ρ.set i (.dk ks)) := by
  refine ⟨ev.eb, ev.be, ev.bm, ev.he, by rw [List.length_set, List.length_set]; exact ev.len, fun j s hs => ?_, fun j k ds es h1 h2 h3 => ?_, ev.nk.put i ev.len apart, ev.nn.put i ev.len rfl apartN⟩
  · rcases set_at hs with ⟨e, q⟩ | ⟨e, q⟩
    · subst e; subst q
      have hi := (List.getElem?_eq_some_iff.mp hs).1
      rw [List.length_set] at hi
      exact ⟨l, List.getElem?_set_self (by rw [ev.len]; exact hi), hl, hn, bn⟩
    · have r := ev.sl j s q
      rw [List.getElem?_set_ne e]
      exact r
  · rcases set_at h1 with ⟨_, q⟩ | ⟨e1, q1⟩
    · cases q
    · rcases set_at h2 with ⟨_, q⟩ | ⟨e2, q2⟩
      · cases q
      · rw [List.getElem?_set_ne e1, List.getElem?_set_ne e2] at h3
        exact ev.nd j k ds es q1 q2 h3
theorem Ev.mutD {Be He B H : Hp} {σ : L2.St} {ρ : Rho} (ev : Ev K Be He B H σ ρ) {i : Nat} {l : Addr} {ks ks' : KVs} (hi : ρ[i]? = some (.dk ks)) (hs : σ[i]? = some (some (.ref l))) :
    Ev K Be He B (upd H l (.dT (ivs ks'))) σ (ρ.set i (.dk ks')) := by
  obtain ⟨l', g1, g2, g4, g5⟩ := ev.sl i _ hi
  rw [hs] at g1
  cases g1
  have nb : ∀ a o, B a = some o → a ≠ l := fun a o q => ne_of_none q g5
  refine ⟨ev.eb, ev.be, fun a o q => by rw [upd_ne (nb a o q)]; exact ev.bm a o q, fun a o q => by rw [upd_ne (ne_of_none q g4)]; exact ev.he a o q, by rw [List.length_set]; exact ev.len, fun j s hsj => ?_, fun j k ds es h1 h2 h3 => ?_, ev.nk.mut hi, ev.nn.mut hi rfl rfl hs fun j dss l' q1 q2 => (ev.nlAt j dss l' q1 q2).imp fun _ z => z.1⟩
  · rcases set_at hsj with ⟨e, q⟩ | ⟨e, q⟩
    · subst e; subst q
      exact ⟨l, hs, upd_same, g4, g5⟩
    · have r := ev.sl j s q
      cases s with
      | un => trivial
      | im d => exact r
      | ow fs =>
        obtain ⟨l2, vs2, k1, k2, k3, k4, k5⟩ := r
        refine ⟨l2, vs2, k1, ?_, k3, k4, k5⟩
        rw [upd_ne (ne_of k2 g2 fun e => by cases e)]
        exact k2
      | dk fs =>
        obtain ⟨l2, k1, k2, k4, k5⟩ := r
        refine ⟨l2, k1, ?_, k4, k5⟩
        rw [upd_ne ?_]
        · exact k2
        · rintro rfl
          exact e (ev.nk i j ks fs hi q (by rw [hs, k1]))
      | nl dss =>
        obtain ⟨l2, ls, k1, k2, k4, k5, k6, k7⟩ := r
        obtain ⟨f1, f2⟩ := (ev.nn j i dss _ q hi rfl (fun z => e z.symm)).2 l2 l ls k1 k2 hs
        exact ⟨l2, ls, k1, by rw [upd_ne (fun z => f1 z.symm)]; exact k2, k4, k5, k6, k7.upd f2⟩
  · rcases set_at h1 with ⟨_, q⟩ | ⟨e1, q1⟩
    · cases q
    · rcases set_at h2 with ⟨_, q⟩ | ⟨e2, q2⟩
      · cases q
      · exact ev.nd j k ds es q1 q2 h3
section
variable {X : Cx} {E : XK} {e a b c f : Expr} {es : List Expr} {pos p : Pos} {m ma mb mk mf : Rho → Rs TD}
/-! ### reading -/
def mDget2 (j : Nat) (mk mf : Rho → Rs TD) : Rho → Rs TD := fun ρ => match ρ[j]? with
  | some (.dk kvs) => (mk ρ).bind fun q => (mf ρ).bind fun r => match keyOf q.1, r.1 with
    | some k, .int c => .ok (.int ((vI kvs k).getD c), [])
    | _, _ => .no
  | _ => .no
def mDget (j : Nat) (mk : Rho → Rs TD) : Rho → Rs TD := fun ρ => match ρ[j]? with
  | some (.dk kvs) => (mk ρ).bind fun q => match (keyOf q.1).bind (vI kvs) with
    | some v => .ok (.int v, [])
    | none => .no
  | _ => .no
def mDin (neg : Bool) (j : Nat) (mk : Rho → Rs TD) : Rho → Rs TD := fun ρ => match ρ[j]? with
  | some (.dk kvs) => (mk ρ).bind fun q => match keyOf q.1 with
    | some k => .ok (.bool (neg != (vI kvs k).isSome), [])
    | none => .no
  | _ => .no
theorem ev_key {Be He B H B1 H1 : Hp} {σ : L2.St} {ρ : Rho} (ev : Ev K Be He B H σ ρ) (x : Ext B H B1 H1) {t : List Nat} {v : V} {d : D} {k : List L2.Key} (dv : DV K σ B1 H1 t v d) (e : keyOf d = some k) : ∃ b, v = .ref b ∧ H1 b = some (.tup (k.map kV)) :=
  key_of (ev.up x).ba_h dv e
theorem de_dget2 (j : Nat) {x : Str} {px apos cpos : Pos} (hu : X.A.units + 65 < cLine) (he : DE X E e mk) (hf : DE X E f mf) (hN : X.N[j]? = some x := by rfl) (hv : Vis X.env.scope x := by first | exact Or.inl rfl | exact Or.inr (Or.inl rfl) | exact Or.inr (Or.inr rfl)) (hd : (x == ("__debug__" : Str)) = false := by decide)
    (hcd : (x == ("__classdict__" : Str)) = false := by decide)
    (h1 : attributeBase (.Name x px) "get" X.env (eval (.Name x px) X.env) = eval (.Name x px) X.env := by rfl)
    (h2 : ((backTo cpos (starEach [e, f] X.env)).all (fun x => !x.1) && (backToKw cpos (keywordEach [] X.env)).all (fun x => x.1.isSome)
    && decide (([e, f] : List Expr).length + ([] : List Keyword).length + (if ([] : List Keyword).isEmpty then 0 else 1) < 30)) = true := by rfl)
    (h3 : (apos.endLine == cpos.line) = true := by rfl)
    (h4 : backTo cpos (starEach [e, f] X.env) = [(false, eval e X.env), (false, eval f X.env)] := by rfl) :
    DE X E (.Call (.Attribute (.Name x px) "get" apos) [e, f] [] cpos) (mDget2 j mk mf) := by
  refine ⟨pe_wk (pe_dget2 (by omega) (pe_var hN hv hd hcd) he.pe hf.pe ⟨h1, h2, h3, h4⟩) fun σ H Q h => ?_, fun ρ d t h => ?_⟩
  · obtain ⟨Be, He, B, ρ, ev, h⟩ := h
    unfold mDget2 at h
    split at h
    · rename_i kvs hk
      obtain ⟨l, g1, g2, g4, g5⟩ := ev.sl j _ hk
      refine ⟨_, g1, l, rfl, .inr ⟨_, .of g2⟩, Be, He, B, ρ, ev, ?_⟩
      cases r1 : mk ρ with
      | no => rw [r1] at h; exact h
      | ex c => rw [r1] at h; exact h
      | ok q1 =>
        obtain ⟨d1, t1⟩ := q1
        rw [r1] at h
        intro v1 B1 H1 x1 dv1
        have ev1 := ev.up x1
        refine ⟨Be, He, B1, ρ, ev1, ?_⟩
        cases r2 : mf ρ with
        | no => rw [r2] at h; exact h
        | ex c => rw [r2] at h; exact h
        | ok q2 =>
          obtain ⟨d2, t2⟩ := q2
          rw [r2] at h
          intro v2 B2 H2 x2 dv2
          dsimp only [Rs.bind] at h
          cases qk : keyOf d1 with
          | none => rw [qk] at h; exact h.elim
          | some k =>
            rw [qk] at h
            cases d2 with
            | int c =>
              cases dv2
              obtain ⟨bb, e1, e2⟩ := ev_key ev x1 dv1 qk
              subst e1
              have x12 := x1.trans x2
              refine ⟨_, DGet.t (x12.h _ _ g2) (x2.h _ _ e2), ?_⟩
              rw [valV_ivs]
              have eq : (Option.map V.int (vI kvs k)).getD (.int c) = .int ((vI kvs k).getD c) := by cases vI kvs k <;> rfl
              rw [eq]
              exact h _ B2 H2 x12 (.int _)
            | _ => exact h.elim
    · exact h.elim
  · unfold mDget2 at h
    split at h
    · cases r1 : mk ρ with
      | no => rw [r1] at h; cases h
      | ex c => rw [r1] at h; cases h
      | ok q1 =>
        cases r2 : mf ρ with
        | no => rw [r1, r2] at h; cases h
        | ex c => rw [r1, r2] at h; cases h
        | ok q2 =>
          rw [r1, r2] at h
          dsimp only [Rs.bind] at h
          split at h
          · cases h; exact .nil
          · cases h
    · cases h
theorem de_dget (j : Nat) {x : Str} {px : Pos} (hu : X.A.units + 65 < cLine) (he : DE X E e mk) (hN : X.N[j]? = some x := by rfl) (hv : Vis X.env.scope x := by first | exact Or.inl rfl | exact Or.inr (Or.inl rfl) | exact Or.inr (Or.inr rfl)) (hd : (x == ("__debug__" : Str)) = false := by decide)
    (hcd : (x == ("__classdict__" : Str)) = false := by decide) (hs : NoSl e := by exact fun _ _ => rfl) : DE X E (.Subscript (.Name x px) e pos) (mDget j mk) := by
  refine ⟨pe_wk (pe_dget (by omega) (pe_var hN hv hd hcd) he.pe hs) fun σ H Q h => ?_, fun ρ d t h => ?_⟩
  · obtain ⟨Be, He, B, ρ, ev, h⟩ := h
    unfold mDget at h
    split at h
    · rename_i kvs hk
      obtain ⟨l, g1, g2, g4, g5⟩ := ev.sl j _ hk
      refine ⟨_, g1, Be, He, B, ρ, ev, ?_⟩
      cases r1 : mk ρ with
      | no => rw [r1] at h; exact h
      | ex c => rw [r1] at h; exact h
      | ok q1 =>
        obtain ⟨d1, t1⟩ := q1
        rw [r1] at h
        intro v1 B1 H1 x1 dv1
        dsimp only [Rs.bind] at h
        cases qk : keyOf d1 with
        | none => rw [qk] at h; exact h.elim
        | some k =>
          rw [qk] at h
          dsimp only [Option.bind] at h
          cases qv : vI kvs k with
          | none => rw [qv] at h; exact h.elim
          | some z =>
            rw [qv] at h
            obtain ⟨bb, e1, e2⟩ := ev_key ev x1 dv1 qk
            subst e1
            refine ⟨l, .int z, rfl, ?_, h _ B1 H1 x1 (.int _)⟩
            have := DGet.t (x1.h _ _ g2) e2
            rw [valV_ivs, qv] at this
            exact this
    · exact h.elim
  · unfold mDget at h
    split at h
    · cases r1 : mk ρ with
      | no => rw [r1] at h; cases h
      | ex c => rw [r1] at h; cases h
      | ok q1 =>
        rw [r1] at h
        dsimp only [Rs.bind] at h
        split at h
        · cases h; exact .nil
        · cases h
    · cases h
theorem mDin_tn {neg : Bool} {j : Nat} : Tnt (mDin neg j mk) := fun ρ d t h => by
  unfold mDin at h
  split at h
  · cases r1 : mk ρ with
    | no => rw [r1] at h; cases h
    | ex c => rw [r1] at h; cases h
    | ok q1 =>
      rw [r1] at h
      dsimp only [Rs.bind] at h
      split at h
      · cases h; exact .nil
      · cases h
  · cases h
theorem din_run {mg : Str → Option Value} {neg : Bool} {j : Nat} {σ : L2.St} {H : Hp} {Q : VK} (h : tD K mg E (mDin neg j mk) σ H Q) : tD K mg E mk σ H fun y H1 => tVar j σ H1 fun x H2 => ∃ a o, x = .ref a ∧ DGet H2 a y o ∧ Q (.bl (neg != o.isSome)) H2 := by
  obtain ⟨Be, He, B, ρ, ev, h⟩ := h
  refine ⟨Be, He, B, ρ, ev, ?_⟩
  unfold mDin at h
  split at h
  · rename_i kvs hk
    obtain ⟨l, g1, g2, g4, g5⟩ := ev.sl j _ hk
    cases r1 : mk ρ with
    | no => rw [r1] at h; exact h
    | ex c => rw [r1] at h; exact h
    | ok q1 =>
      obtain ⟨d1, t1⟩ := q1
      rw [r1] at h
      intro v1 B1 H1 x1 dv1
      dsimp only [Rs.bind] at h
      cases qk : keyOf d1 with
      | none => rw [qk] at h; exact h.elim
      | some k =>
        rw [qk] at h
        obtain ⟨bb, e1, e2⟩ := ev_key ev x1 dv1 qk
        subst e1
        refine ⟨_, g1, l, _, rfl, DGet.t (x1.h _ _ g2) e2, ?_⟩
        rw [valV_ivs, Option.isSome_map]
        exact h _ B1 H1 x1 (.bl _)
  · exact h.elim
theorem de_din (j : Nat) {x : Str} {px : Pos} (hu : X.A.units + 65 < cLine) (he : DE X E e mk) (hN : X.N[j]? = some x := by rfl) (hv : Vis X.env.scope x := by first | exact Or.inl rfl | exact Or.inr (Or.inl rfl) | exact Or.inr (Or.inr rfl)) (hd : (x == ("__debug__" : Str)) = false := by decide)
    (hcd : (x == ("__classdict__" : Str)) = false := by decide) (hm : behindInMarks .In (.Name x px) = false := by rfl) : DE X E (.Compare e [.In] [.Name x px] pos) (mDin false j mk) :=
  ⟨pe_wk (pe_cmp (pc_din (by omega) he.pe (pe_var hN hv hd hcd)) hm) fun σ H Q h => by
    have := din_run h
    simpa [tDIn] using this, mDin_tn⟩
theorem de_dnotin (j : Nat) {x : Str} {px : Pos} (hu : X.A.units + 65 < cLine) (he : DE X E e mk) (hN : X.N[j]? = some x := by rfl) (hv : Vis X.env.scope x := by first | exact Or.inl rfl | exact Or.inr (Or.inl rfl) | exact Or.inr (Or.inr rfl)) (hd : (x == ("__debug__" : Str)) = false := by decide)
    (hcd : (x == ("__classdict__" : Str)) = false := by decide) (hm : behindInMarks .NotIn (.Name x px) = false := by rfl) : DE X E (.Compare e [.NotIn] [.Name x px] pos) (mDin true j mk) :=
  ⟨pe_wk (pe_cmp (pc_dnotin (by omega) he.pe (pe_var hN hv hd hcd)) hm) fun σ H Q h => by
    have := din_run h
    simpa [tDNotIn] using this, mDin_tn⟩
/-! ### writing -/
def mSetD (i : Nat) : Rho → Fl := fun ρ => .nx (ρ.set i (.dk []))
theorem ds_setD (i : Nat) {x : Str} {px : Pos} {dpos : Pos} (hN : X.N.Nodup) (hi : X.N[i]? = some x := by rfl) (hx : Loc X.env.scope x := by first | exact Or.inl rfl | exact Or.inr rfl) (hs : swapsWith (.Dict [] [] dpos) (some (.Name x px)) pos.line X.env = pure false := by rfl) (hf : X.fn x = true ∨ X.env.scope.names.lookup x = some .local := by first | exact .inl rfl | exact .inr rfl) :
    DS X E (.Assign [.Name x px] (.Dict [] [] dpos) pos) (mSetD i) := ps_wk (ps_set hN hi hx pe_dnewT hs hf) fun D σ H h => by
  obtain ⟨Be, He, B, ρ, ev, h⟩ := h
  intro p hp
  have x1 : Ext B H B (upd H p (.dT [])) := .same ev.bh fun a o q => by rw [upd_ne (ne_of_none q hp)]; exact q
  refine h _ B _ ((ev.up x1).putD i (ks := []) upd_same (ev.he.free hp) (ev.bh.free hp) (fun j es hj q => ?_) (ev.nlFar x1.h hp)) (.refl _)
  obtain ⟨l', g1, g2, _⟩ := ev.sl j _ hj
  rw [q] at g1
  cases g1
  rw [hp] at g2
  cases g2
def mDput (j : Nat) (m mk : Rho → Rs TD) : Rho → Fl := fun ρ => match ρ[j]? with
  | some (.dk kvs) => (m ρ).fl fun q => match q.1 with
    | .int v => (mk ρ).fl fun r => match keyOf r.1 with
      | some k => if kvs.length < sizeLine then .nx (ρ.set j (.dk (pI kvs k v))) else .no
      | none => .no
    | _ => .no
  | _ => .no
theorem ds_dput (j : Nat) {x : Str} {px tpos : Pos} (hu : X.A.units + 65 < cLine) (hm : DE X E e m) (he : DE X E b mk) (hN : X.N[j]? = some x := by rfl) (hv : Vis X.env.scope x := by first | exact Or.inl rfl | exact Or.inr (Or.inl rfl) | exact Or.inr (Or.inr rfl))
    (hd : (x == ("__debug__" : Str)) = false := by decide) (hcd : (x == ("__classdict__" : Str)) = false := by decide) (hs : swapsWith e (some (.Subscript (.Name x px) b tpos)) pos.line X.env = pure false := by rfl) :
    DS X E (.Assign [.Subscript (.Name x px) b tpos] e pos) (mDput j m mk) := ps_wk (ps_dput (by omega) (pe_var hN hv hd hcd) he.pe hm.pe hs) fun D σ H h => by
  obtain ⟨Be, He, B, ρ, ev, h⟩ := h
  refine ⟨Be, He, B, ρ, ev, ?_⟩
  unfold mDput at h
  split at h
  · rename_i kvs hk
    obtain ⟨l, g1, g2, g4, g5⟩ := ev.sl j _ hk
    cases r1 : m ρ with
    | no => rw [r1] at h; exact h
    | ex c => rw [r1] at h; exact h
    | ok q1 =>
      obtain ⟨d1, t1⟩ := q1
      rw [r1] at h
      intro v1 B1 H1 x1 dv1
      dsimp only [Rs.fl] at h
      cases d1 with
      | int z =>
        cases dv1
        have ev1 := ev.up x1
        refine ⟨_, g1, Be, He, B1, ρ, ev1, ?_⟩
        dsimp only at h
        cases r2 : mk ρ with
        | no => rw [r2] at h; exact h
        | ex c => rw [r2] at h; exact h
        | ok q2 =>
          obtain ⟨d2, t2⟩ := q2
          rw [r2] at h
          intro v2 B2 H2 x2 dv2
          dsimp only at h
          cases qk : keyOf d2 with
          | none => rw [qk] at h; exact h.elim
          | some k =>
            rw [qk] at h
            dsimp only at h
            split at h
            · rename_i hl
              obtain ⟨bb, e1, e2⟩ := ev_key ev1 x2 dv2 qk
              subst e1
              have x12 := x1.trans x2
              refine ⟨l, _, rfl, DPut.t (x12.h _ _ g2) e2 (by rw [ivs_len]; exact hl), ?_⟩
              rw [putK_ivs]
              exact h σ B2 _ ((ev1.up x2).mutD hk g1) (x1.b.trans x2.b)
            · exact h.elim
      | _ => exact h.elim
  · exact h.elim
/-- return d -/
def mRetD (i : Nat) : Rho → Fl := fun ρ => match ρ[i]? with
  | some (.dk kvs) => .rt (dctD kvs)
  | _ => .no
theorem ds_retD (i : Nat) {x : Str} {px : Pos} (hN : X.N[i]? = some x := by rfl) (hv : Vis X.env.scope x := by first | exact Or.inl rfl | exact Or.inr (Or.inl rfl) | exact Or.inr (Or.inr rfl)) (hd : (x == ("__debug__" : Str)) = false := by decide)
    (hcd : (x == ("__classdict__" : Str)) = false := by decide) : DS X E (.Return (some (.Name x px)) pos) (mRetD i) := ps_wk (ps_ret (pe_var hN hv hd hcd)) fun D σ H h => by
  obtain ⟨Be, He, B, ρ, ev, h⟩ := h
  unfold mRetD at h
  split at h
  · rename_i kvs hk
    obtain ⟨l, g1, g2, g4, g5⟩ := ev.sl i _ hk
    exact ⟨_, g1, h _ H ev.he (ev.be.trans ev.bh) (.dct (Mx.of g2 (.inl g4)))⟩
  · exact h.elim
/-- list(reversed(x)), x a list of one's own -/
def mOrevO (j : Nat) : Rho → Rs (List D) := fun ρ => match ρ[j]? with
  | some (.ow ds) => .ok ds.reverse
  | some (.im (.list ds)) => .ok ds.reverse
  | _ => .no
theorem do_revO (j : Nat) {x : Str} {px p2 pos2 : Pos} (hc : X.calm = true) (hg : Gl X "list") (hm : X.mg "list" = none) (hg2 : Gl X "reversed") (hm2 : X.mg "reversed" = none) (hN : X.N[j]? = some x := by rfl) (hv : Vis X.env.scope x := by first | exact Or.inl rfl | exact Or.inr (Or.inl rfl) | exact Or.inr (Or.inr rfl))
    (hd : (x == ("__debug__" : Str)) = false := by decide) (hcd : (x == ("__classdict__" : Str)) = false := by decide)
    (hs : starEach [.Name x px] X.env = (false, eval (.Name x px) X.env) :: starEach [] X.env := by rfl)
    (hs2 : starEach [.Call (.Name "reversed" p2) [.Name x px] [] pos2] X.env = (false, eval (.Call (.Name "reversed" p2) [.Name x px] [] pos2) X.env) :: starEach [] X.env := by rfl) :
    DO X E (.Call (.Name "list" p) [.Call (.Name "reversed" p2) [.Name x px] [] pos2] [] pos) (mOrevO j) := pe_wk (pe_lstRev hc hg hm hg2 hm2 (pe_var hN hv hd hcd) hs hs2) fun σ H Q h => by
  obtain ⟨Be, He, B, ρ, ev, h⟩ := h
  have go : ∀ (vs : List V) (ds : List D), DqAll X.K B vs ds → DnO X.K X.mg E He B H (.ok ds.reverse) Q → ∀ q, H q = none → Q (.ref q) (upd H q (.lst vs.reverse)) := fun vs ds al h p hp =>
    h p _ B _ (.same ev.bh fun a o q => by rw [upd_ne (ne_of_none q hp)]; exact q) (ev.bh.free hp) hp upd_same al.reverse
  unfold mOrevO at h
  split at h
  · rename_i ds hk
    obtain ⟨l, vs, g1, g2, g3, g4, g5⟩ := ev.sl j _ hk
    exact ⟨_, g1, l, vs, rfl, .inl (.of g2), go vs ds g3 h⟩
  · rename_i ds hk
    obtain ⟨v, g1, g2⟩ := ev.sl j _ hk
    cases g2 with
    | lst r al => exact ⟨_, g1, _, _, rfl, .inl (Same.rd ev.bh r), go _ ds al h⟩
  · exact h.elim
end
end PL

set_option Elab.async false
set_option linter.all false
set_option maxRecDepth 100000
set_option maxHeartbeats 2000000
/-! lists of one's own within a list of one's own: xs = [[]], xs.append([]), xs[-1].append(e), return xs -/
namespace PL
open PySem PySem.Spec PyProof.Rows L2
variable {K : PySem.W.Frag}
def nlFree (ρ : Rho) : Bool := ρ.all fun s => !s.isNl
theorem nlFree_at {ρ : Rho} (h : nlFree ρ = true) {i : Nat} {dss : List (List D)} : ρ[i]? ≠ some (.nl dss) := fun e => by
  have := List.all_eq_true.mp h _ (List.mem_of_getElem? e)
  cases this
theorem Ev.putN {Be He B H : Hp} {σ : L2.St} {ρ : Rho} (ev : Ev K Be He B H σ ρ) (i : Nat) {l : Addr} {ls : List Addr} {dss : List (List D)} (hl : H l = some (.lst (ls.map V.ref))) (hn : He l = none) (bn : B l = none) (out : l ∉ ls) (il : InL K H He B ls dss) (free : nlFree ρ = true)
    (apart : ∀ (j : Nat) (s : Sl) (b : Addr), ρ[j]? = some s → s.own = true → σ[j]? = some (some (.ref b)) → b ≠ l ∧ b ∉ ls) : Ev K Be He B H (σ.set i (some (.ref l))) (ρ.set i (.nl dss)) := by
  refine ⟨ev.eb, ev.be, ev.bm, ev.he, by rw [List.length_set, List.length_set]; exact ev.len, fun j s hs => ?_, fun j k ds es h1 h2 h3 => ?_, fun j k ds es h1 h2 h3 => ?_, fun j k ds s h1 h2 h3 h4 => ?_⟩
  · rcases set_at hs with ⟨e, q⟩ | ⟨e, q⟩
    · subst e; subst q
      have hi := (List.getElem?_eq_some_iff.mp hs).1
      rw [List.length_set] at hi
      exact ⟨l, ls, List.getElem?_set_self (by rw [ev.len]; exact hi), hl, hn, bn, out, il⟩
    · have r := ev.sl j s q
      rw [List.getElem?_set_ne e]
      exact r
  · rcases set_at h1 with ⟨_, q⟩ | ⟨e1, q1⟩
    · cases q
    · rcases set_at h2 with ⟨_, q⟩ | ⟨e2, q2⟩
      · cases q
      · rw [List.getElem?_set_ne e1, List.getElem?_set_ne e2] at h3
        exact ev.nd j k ds es q1 q2 h3
  · rcases set_at h1 with ⟨_, q⟩ | ⟨e1, q1⟩
    · cases q
    · rcases set_at h2 with ⟨_, q⟩ | ⟨e2, q2⟩
      · cases q
      · rw [List.getElem?_set_ne e1, List.getElem?_set_ne e2] at h3
        exact ev.nk j k ds es q1 q2 h3
  · rcases set_at h1 with ⟨e1, q⟩ | ⟨e1, q1⟩
    · subst e1
      cases q
      rcases set_at h2 with ⟨e2, q⟩ | ⟨e2, q2⟩
      · exact absurd e2 h4
      · refine ⟨?_, fun l' b ls' g1 g2 g3 => ?_⟩
        · cases s with
          | nl d => exact absurd q2 (nlFree_at free)
          | _ => rfl
        · have hi := (List.getElem?_eq_some_iff.mp h1).1
          rw [List.length_set] at hi
          rw [List.getElem?_set_self (by rw [ev.len]; exact hi)] at g1
          cases g1
          rw [hl] at g2
          have e3 : ls = ls' := ref_inj (by injection g2 with e; injection e)
          subst e3
          rw [List.getElem?_set_ne e2] at g3
          exact apart k s b q2 h3 g3
    · exact absurd q1 (nlFree_at free)
/-- a list within is changed, or one comes behind -/
theorem Ev.mutN {Be He B H H' : Hp} {σ : L2.St} {ρ : Rho} (ev : Ev K Be He B H σ ρ) {i : Nat} {l : Addr} {ls ls' : List Addr} {dss dss' : List (List D)} (hi : ρ[i]? = some (.nl dss)) (hs : σ[i]? = some (some (.ref l))) (hl : H l = some (.lst (ls.map V.ref))) (hl' : H' l = some (.lst (ls'.map V.ref)))
    (out : l ∉ ls') (il : InL K H' He B ls' dss') (far : ∀ a o, H a = some o → a ≠ l → a ∉ ls' → H' a = some o) (hh : ∀ a o, He a = some o → H' a = some o) (hb : ∀ a o, B a = some o → H' a = some o)
    (more : ∀ a, a ∈ ls' → a ∈ ls ∨ H a = none) : Ev K Be He B H' σ (ρ.set i (.nl dss')) := by
  have il0 : ¬ ρ.length ≤ i := fun q => by rw [List.getElem?_eq_none q] at hi; cases hi
  have fp : ∀ (j : Nat) (s : Sl) (b : Addr), ρ[j]? = some s → s.own = true → i ≠ j → σ[j]? = some (some (.ref b)) → H b ≠ none → b ≠ l ∧ b ∉ ls' := fun j s b h1 h2 h3 h4 h5 => by
    obtain ⟨_, n2⟩ := ev.nn i j dss s hi h1 h2 h3
    obtain ⟨k1, k2⟩ := n2 l b ls hs hl h4
    refine ⟨k1, fun q => ?_⟩
    rcases more b q with z | z
    · exact k2 z
    · exact h5 z
  refine ⟨ev.eb, ev.be, fun a o q => ⟨hb a o q, (ev.bm a o q).2⟩, fun a o q => hh a o q, by rw [List.length_set]; exact ev.len, fun j s hsj => ?_, fun j k ds es h1 h2 h3 => ?_, fun j k ds es h1 h2 h3 => ?_, fun j k ds s h1 h2 h3 h4 => ?_⟩
  · rcases set_at hsj with ⟨e, q⟩ | ⟨e, q⟩
    · subst e; subst q
      obtain ⟨l0, ls0, k1, k2, k4, k5, _⟩ := ev.sl i _ hi
      rw [hs] at k1
      cases k1
      exact ⟨l, ls', hs, hl', k4, k5, out, il⟩
    · have r := ev.sl j s q
      cases s with
      | un => trivial
      | im d => exact r
      | ow fs =>
        obtain ⟨l2, vs2, k1, k2, k3, k4, k5⟩ := r
        obtain ⟨f1, f2⟩ := fp j _ l2 q rfl e k1 (by rw [k2]; exact fun z => nomatch z)
        exact ⟨l2, vs2, k1, far _ _ k2 f1 f2, k3, k4, k5⟩
      | dk fs =>
        obtain ⟨l2, k1, k2, k4, k5⟩ := r
        obtain ⟨f1, f2⟩ := fp j _ l2 q rfl e k1 (by rw [k2]; exact fun z => nomatch z)
        exact ⟨l2, k1, far _ _ k2 f1 f2, k4, k5⟩
      | nl fs =>
        have := (ev.nn i j dss _ hi q rfl e).1
        cases this
  · rcases set_at h1 with ⟨_, q⟩ | ⟨e1, q1⟩
    · cases q
    · rcases set_at h2 with ⟨_, q⟩ | ⟨e2, q2⟩
      · cases q
      · exact ev.nd j k ds es q1 q2 h3
  · rcases set_at h1 with ⟨_, q⟩ | ⟨e1, q1⟩
    · cases q
    · rcases set_at h2 with ⟨_, q⟩ | ⟨e2, q2⟩
      · cases q
      · exact ev.nk j k ds es q1 q2 h3
  · rcases set_at h1 with ⟨e1, q⟩ | ⟨e1, q1⟩
    · subst e1
      rcases set_at h2 with ⟨e2, q⟩ | ⟨e2, q2⟩
      · exact absurd e2 h4
      · refine ⟨(ev.nn i k dss s hi q2 h3 e2).1, fun l0 b ls0 g1 g2 g3 => ?_⟩
        rw [hs] at g1
        cases g1
        rw [hl'] at g2
        have e3 : ls' = ls0 := ref_inj (by injection g2 with e; injection e)
        subst e3
        refine fp k s b q2 h3 e2 g3 ?_
        have r := ev.sl k s q2
        cases s with
        | un => cases h3
        | im d => cases h3
        | ow fs =>
          obtain ⟨l2, vs2, k1, k2, _⟩ := r
          rw [g3] at k1; cases k1; rw [k2]; exact fun z => nomatch z
        | dk fs =>
          obtain ⟨l2, k1, k2, _⟩ := r
          rw [g3] at k1; cases k1; rw [k2]; exact fun z => nomatch z
        | nl fs =>
          obtain ⟨l2, ls2, k1, k2, _⟩ := r
          rw [g3] at k1; cases k1; rw [k2]; exact fun z => nomatch z
    · have := (ev.nn i j dss _ hi q1 rfl e1).1
      cases this
section
variable {X : Cx} {E : XK} {e : Expr} {pos : Pos} {m : Rho → Rs TD}
/-- what is one's own stands -/
theorem Ev.own_some {Be He B H : Hp} {σ : L2.St} {ρ : Rho} (ev : Ev K Be He B H σ ρ) {j : Nat} {s : Sl} {b : Addr} (h1 : ρ[j]? = some s) (h2 : s.own = true) (h3 : σ[j]? = some (some (.ref b))) : H b ≠ none := by
  have r := ev.sl j s h1
  cases s with
  | un => cases h2
  | im d => cases h2
  | ow fs =>
    obtain ⟨l2, vs2, k1, k2, _⟩ := r
    rw [h3] at k1; cases k1; rw [k2]; exact fun z => nomatch z
  | dk fs =>
    obtain ⟨l2, k1, k2, _⟩ := r
    rw [h3] at k1; cases k1; rw [k2]; exact fun z => nomatch z
  | nl fs =>
    obtain ⟨l2, ls2, k1, k2, _⟩ := r
    rw [h3] at k1; cases k1; rw [k2]; exact fun z => nomatch z
def mSetN (i : Nat) : Rho → Fl := fun ρ => if nlFree ρ = true then .nx (ρ.set i (.nl [[]])) else .no
theorem ds_setN (i : Nat) {x : Str} {px p1 p2 : Pos} (hN : X.N.Nodup) (hi : X.N[i]? = some x := by rfl) (hx : Loc X.env.scope x := by first | exact Or.inl rfl | exact Or.inr rfl) (hs : swapsWith (.List [.List [] p1] p2) (some (.Name x px)) pos.line X.env = pure false := by rfl) (hf : X.fn x = true ∨ X.env.scope.names.lookup x = some .local := by first | exact .inl rfl | exact .inr rfl)
    (hst : starEach [.List [] p1] X.env = (false, eval (.List [] p1) X.env) :: starEach [] X.env := by rfl) :
    DS X E (.Assign [.Name x px] (.List [.List [] p1] p2) pos) (mSetN i) := ps_wk (ps_set hN hi hx (pe_lst (pa_cons (pe_lst pa_nil) pa_nil hst)) hs hf) fun D σ H h => by
  obtain ⟨Be, He, B, ρ, ev, h⟩ := h
  unfold mSetN at h
  split at h
  · rename_i free
    refine ⟨by decide, fun p hp => ⟨few (by show 1 ≤ 1000; decide), fun q hq => ?_⟩⟩
    have qp : q ≠ p := fun e => by subst e; rw [upd_same] at hq; cases hq
    have hq0 : H q = none := by rwa [upd_ne qp] at hq
    have s1 : Same H (upd H p (.lst [])) := fun a o z => by rw [upd_ne (ne_of_none z hp)]; exact z
    have s2 : Same H (upd (upd H p (.lst [])) q (.lst [V.ref p])) := fun a o z => by rw [upd_ne (ne_of_none z hq0)]; exact s1 a o z
    have ev2 := ev.up (.same ev.bh s2)
    refine h _ B _ (ev2.putN i (ls := [p]) (dss := [[]]) upd_same (ev.he.free hq0) (ev.bh.free hq0) (by simpa using qp) ⟨rfl, by simp, fun k a ds z1 z2 => ?_⟩ free fun j s b g1 g2 g3 => ?_) (.refl _)
    · have hk : k = 0 := by
        cases k with
        | zero => rfl
        | succ k => simp at z1
      subst hk
      simp at z1 z2
      subst z1; subst z2
      exact ⟨[], by rw [upd_ne (fun e => qp e.symm), upd_same], .nil, ev.he.free hp, ev.bh.free hp⟩
    · have := ev.own_some g1 g2 g3
      refine ⟨fun e => by subst e; exact this hq0, fun e => ?_⟩
      have e : b = p := by simpa using e
      subst e; exact this hp
  · exact h.elim
/-- xs.append([]) -/
def mAppN (i : Nat) : Rho → Fl := fun ρ => match ρ[i]? with
  | some (.nl dss) => if dss.length < sizeLine then .nx (ρ.set i (.nl (dss ++ [[]]))) else .no
  | _ => .no
theorem ds_appN (i : Nat) {x : Str} {px apos cpos p1 : Pos} (hN : X.N[i]? = some x := by rfl) (hv : Vis X.env.scope x := by first | exact Or.inl rfl | exact Or.inr (Or.inl rfl) | exact Or.inr (Or.inr rfl))
    (hd : (x == ("__debug__" : Str)) = false := by decide) (hcd : (x == ("__classdict__" : Str)) = false := by decide)
    (hbase : attributeBase (.Name x px) "append" X.env (eval (.Name x px) X.env) = eval (.Name x px) X.env := by rfl)
    (hfew : ((backTo cpos (starEach [.List [] p1] X.env)).all (fun x => !x.1) && (backToKw cpos (keywordEach [] X.env)).all (fun x => x.1.isSome)
      && decide (([.List [] p1] : List Expr).length + ([] : List Keyword).length + (if ([] : List Keyword).isEmpty then 0 else 1) < 30)) = true := by rfl)
    (hline : (apos.endLine == cpos.line) = true := by rfl) (hs : starEach [.List [] p1] X.env = (false, eval (.List [] p1) X.env) :: starEach [] X.env := by rfl) (hplain : (backTo cpos (starEach [] X.env)).any (·.1) = false := by rfl)
    (hsw : swapsWith (.Call (.Attribute (.Name x px) "append" apos) [.List [] p1] [] cpos) none pos.line X.env = pure false := by rfl) :
    DS X E (.Expr (.Call (.Attribute (.Name x px) "append" apos) [.List [] p1] [] cpos) pos) (mAppN i) :=
  ps_wk (ps_expr (pe_bm PySem.F.plainAttrs_list PySem.F.slot_list_append PySem.F.type_list_append mt_append (pe_var hN hv hd hcd) (pa_cons (pe_lst pa_nil) pa_nil hs) hbase hfew hline hs hplain) hsw) fun D σ H h => by
    obtain ⟨Be, He, B, ρ, ev, h⟩ := h
    unfold mAppN at h
    split at h
    · rename_i dss hds
      split at h
      · rename_i hsz
        obtain ⟨l, ls, h1, h2, h4, h5, h6, h7⟩ := ev.sl i _ hds
        refine ⟨_, h1, .inl ⟨rfl, _, .inl (.inl h2)⟩, by decide, fun p hp => ?_⟩
        have pl : p ≠ l := fun e => by subst e; rw [hp] at h2; cases h2
        have pn : p ∉ ls := fun e => by
          obtain ⟨vs, ds, z, _⟩ := h7.mem e
          rw [hp] at z; cases z
        refine ⟨l, _, _, rfl, rfl, by rw [upd_ne (fun e => pl e.symm)]; exact h2, by rw [List.length_map, h7.n]; exact hsz, ?_⟩
        have em : ls.map V.ref ++ [V.ref p] = (ls ++ [p]).map V.ref := by rw [List.map_append]; rfl
        rw [em]
        have nb : ∀ a o, B a = some o → a ≠ l ∧ a ≠ p := fun a o q => ⟨ne_of_none q h5, ne_of_none (ev.bh a o q) hp⟩
        have nh : ∀ a o, He a = some o → a ≠ l ∧ a ≠ p := fun a o q => ⟨ne_of_none q h4, ne_of_none (ev.he a o q) hp⟩
        refine h σ B _ (ev.mutN (ls := ls) (ls' := ls ++ [p]) hds h1 h2 upd_same ?_ ⟨by simp [h7.n], ?_, fun k a ds z1 z2 => ?_⟩ (fun a o q1 q2 q3 => ?_) (fun a o q => by rw [upd_ne (nh a o q).1, upd_ne (nh a o q).2]; exact ev.he a o q) (fun a o q => by rw [upd_ne (nb a o q).1, upd_ne (nb a o q).2]; exact ev.bh a o q) fun a q => ?_) (.refl _)
        · simp only [List.mem_append, List.mem_singleton, not_or]; exact ⟨h6, fun e => pl e.symm⟩
        · rw [List.nodup_append]
          refine ⟨h7.nd, by simp, fun a ha b hb => ?_⟩
          have hb : b = p := by simpa using hb
          subst hb
          exact fun e => pn (e ▸ ha)
        · by_cases c : k < ls.length
          · rw [List.getElem?_append_left c] at z1
            rw [List.getElem?_append_left (by rw [← h7.n]; exact c)] at z2
            obtain ⟨vs, w1, w2, w3, w4⟩ := h7.at_ k a ds z1 z2
            have am := List.mem_of_getElem? z1
            exact ⟨vs, by rw [upd_ne (fun e => h6 (by rw [← e]; exact am)), upd_ne (fun e => pn (by rw [← e]; exact am))]; exact w1, w2, w3, w4⟩
          · have hk : k = ls.length := by
              have := (List.getElem?_eq_some_iff.mp z1).1
              rw [List.length_append, List.length_singleton] at this
              omega
            subst hk
            rw [List.getElem?_append_right (Nat.le_refl _)] at z1
            rw [h7.n, List.getElem?_append_right (Nat.le_refl _)] at z2
            simp at z1 z2
            subst z1; subst z2
            exact ⟨[], by rw [upd_ne pl, upd_same], .nil, ev.he.free hp, ev.bh.free hp⟩
        · have q4 : a ≠ p := fun e => q3 (by simp [e])
          rw [upd_ne q2, upd_ne q4]; exact q1
        · rcases List.mem_append.mp q with z | z
          · exact .inl z
          · have z : a = p := by simpa using z
            subst z; exact .inr hp
      · exact h.elim
    · exact h.elim
/-- xs[-1].append(e) -/
def mAppL (i : Nat) (m : Rho → Rs TD) : Rho → Fl := fun ρ => match ρ[i]? with
  | some (.nl dss) => match dss[dss.length - 1]? with
    | some ds => (m ρ).fl fun q => if q.2 = [] ∧ ds.length < sizeLine then .nx (ρ.set i (.nl (dss.dropLast ++ [ds ++ [q.1]]))) else .no
    | none => .no
  | _ => .no
theorem ds_appL (i : Nat) {x : Str} {k1 : Nat} {px apos cpos p1 p2 p3 : Pos} (he : DE X E e m) (hN : X.N[i]? = some x := by rfl) (hv : Vis X.env.scope x := by first | exact Or.inl rfl | exact Or.inr (Or.inl rfl) | exact Or.inr (Or.inr rfl))
    (hd : (x == ("__debug__" : Str)) = false := by decide) (hcd : (x == ("__classdict__" : Str)) = false := by decide) (hpl : PlainIx (.UnaryOp .USub (.Constant (.int 1) k1 p1) p2) := by exact fun _ _ => rfl)
    (hbase : attributeBase (.Subscript (.Name x px) (.UnaryOp .USub (.Constant (.int 1) k1 p1) p2) p3) "append" X.env (eval (.Subscript (.Name x px) (.UnaryOp .USub (.Constant (.int 1) k1 p1) p2) p3) X.env) = eval (.Subscript (.Name x px) (.UnaryOp .USub (.Constant (.int 1) k1 p1) p2) p3) X.env := by rfl)
    (hfew : ((backTo cpos (starEach [e] X.env)).all (fun x => !x.1) && (backToKw cpos (keywordEach [] X.env)).all (fun x => x.1.isSome)
      && decide (([e] : List Expr).length + ([] : List Keyword).length + (if ([] : List Keyword).isEmpty then 0 else 1) < 30)) = true := by rfl)
    (hline : (apos.endLine == cpos.line) = true := by rfl) (hs : starEach [e] X.env = (false, eval e X.env) :: starEach [] X.env := by rfl) (hplain : (backTo cpos (starEach [] X.env)).any (·.1) = false := by rfl)
    (hsw : swapsWith (.Call (.Attribute (.Subscript (.Name x px) (.UnaryOp .USub (.Constant (.int 1) k1 p1) p2) p3) "append" apos) [e] [] cpos) none pos.line X.env = pure false := by rfl) :
    DS X E (.Expr (.Call (.Attribute (.Subscript (.Name x px) (.UnaryOp .USub (.Constant (.int 1) k1 p1) p2) p3) "append" apos) [e] [] cpos) pos) (mAppL i m) :=
  ps_wk (ps_expr (pe_bm PySem.F.plainAttrs_list PySem.F.slot_list_append PySem.F.type_list_append mt_append (pe_ix ix_seq (pe_var hN hv hd hcd) (pe_un un_neg pe_int) hpl) (pa_cons he.pe pa_nil hs) hbase hfew hline hs hplain) hsw) fun D σ H h => by
    obtain ⟨Be, He, B, ρ, ev, h⟩ := h
    unfold mAppL at h
    split at h
    · rename_i dss hds
      obtain ⟨l, ls, h1, h2, h4, h5, h6, h7⟩ := ev.sl i _ hds
      cases qd : dss[dss.length - 1]? with
      | none => rw [qd] at h; exact h.elim
      | some ds =>
        rw [qd] at h
        dsimp only at h
        have hd0 : dss.length - 1 < dss.length := (List.getElem?_eq_some_iff.mp qd).1
        have hlen := h7.n
        obtain ⟨a, ha⟩ : ∃ a, ls[ls.length - 1]? = some a := ⟨_, List.getElem?_eq_getElem (by omega)⟩
        obtain ⟨vs, z1, z2, z3, z4⟩ := h7.at_ _ a ds ha (by rw [hlen]; exact qd)
        have am := List.mem_of_getElem? ha
        have al : a ≠ l := fun e => h6 (by rw [← e]; exact am)
        have hat : atI (ls.map V.ref) (-1) = some (V.ref a) := by
          unfold atI
          have e : ixN (ls.map V.ref).length (-1) = some (ls.length - 1) := by
            rw [List.length_map]
            unfold ixN
            rw [if_neg (by omega)]
            split
            · congr 1; omega
            · omega
          rw [e]
          show (ls.map V.ref)[ls.length - 1]? = _
          rw [List.getElem?_map, ha]; rfl
        refine ⟨_, h1, 1, rfl, .inl ⟨l, _, -1, .ref a, rfl, rfl, .inl (.of h2), hat, .inl ⟨rfl, vs, .inl (.inl z1)⟩, Be, He, B, ρ, ev, ?_⟩⟩
        cases r : m ρ with
        | no => rw [r] at h; exact h
        | ex c => rw [r] at h; exact h
        | ok q =>
          obtain ⟨d, t⟩ := q
          rw [r] at h
          dsimp only [Rs.fl] at h
          split at h
          · rename_i c
            obtain ⟨c1, c2⟩ := c
            subst c1
            intro v B1 H1 x1 dv
            have dv : Dq X.K B1 v d := dv
            have ev1 := ev.up x1
            have z1' := x1.h _ _ z1
            refine ⟨a, vs, v, rfl, rfl, z1', by rw [z2.length]; exact c2, ?_⟩
            obtain ⟨l', ls', k1, k2, k4, k5, k6, k7⟩ := ev1.sl i _ hds
            rw [h1] at k1
            cases k1
            have k8 := x1.h _ _ h2
            rw [k8] at k2
            have e3 : ls = ls' := ref_inj (by injection k2 with e; injection e)
            subst e3
            have dvs := z2.up x1.b
            have ba1 : B1 a = none := x1.out z4 z1 fun xs e => by cases e
            refine h σ B1 _ (ev1.mutN (ls := ls) (ls' := ls) hds h1 k8 (by rw [upd_ne (fun e => al e.symm)]; exact k8) h6 ⟨?_, h7.nd, fun k b es w1 w2 => ?_⟩ (fun b o q1 q2 q3 => ?_) (fun b o q => ?_) (fun b o q => ?_) fun b q => .inl q) x1.b
            · rw [List.length_append, List.length_dropLast, List.length_singleton]; omega
            · by_cases c : k = ls.length - 1
              · subst c
                rw [ha] at w1
                cases w1
                have w2 : es = ds ++ [d] := by
                  rw [hlen] at w2
                  have : dss.dropLast.length = dss.length - 1 := List.length_dropLast
                  rw [List.getElem?_append_right (by omega), this, Nat.sub_self] at w2
                  exact (Option.some.inj w2).symm
                subst w2
                exact ⟨vs ++ [v], upd_same, dvs.append (.cons dv .nil), z3, ba1⟩
              · have hk : k < ls.length := (List.getElem?_eq_some_iff.mp w1).1
                have w2' : dss[k]? = some es := by
                  rw [List.getElem?_append_left (by rw [List.length_dropLast]; omega), List.dropLast_eq_take, List.getElem?_take, if_pos (by omega)] at w2
                  exact w2
                obtain ⟨us, y1, y2, y3, y4⟩ := k7.at_ k b es w1 w2'
                have ne : b ≠ a := fun e => by
                  subst e
                  exact c ((List.getElem?_inj hk h7.nd).mp (w1.trans ha.symm))
                exact ⟨us, by rw [upd_ne ne]; exact y1, y2, y3, y4⟩
            · rw [upd_ne (fun e => q3 (by rw [e]; exact am))]; exact q1
            · rw [upd_ne (ne_of_none q z3)]; exact ev1.he b o q
            · rw [upd_ne (ne_of_none q ba1)]; exact ev1.bh b o q
          · exact h.elim
    · exact h.elim
/-- return xs -/
def mRetN (i : Nat) : Rho → Fl := fun ρ => match ρ[i]? with
  | some (.nl dss) => .rt (.list (dss.map .list))
  | _ => .no
theorem inl_dq {Be He B H : Hp} {σ : L2.St} {ρ : Rho} (ev : Ev K Be He B H σ ρ) : ∀ {ls : List Addr} {dss : List (List D)}, InL K H He B ls dss → DqAll K (Mx Be He H) (ls.map V.ref) (dss.map .list)
  | [], [], _ => .nil
  | [], _ :: _, h => by have := h.n; simp at this
  | _ :: _, [], h => by have := h.n; simp at this
  | a :: ls, ds :: dss, h => by
    obtain ⟨vs, z1, z2, z3, z4⟩ := h.at_ 0 a ds rfl rfl
    refine .cons (.lst (.of (Mx.of z1 (.inl z3))) (z2.up ev.mx)) (inl_dq ev ⟨by have := h.n; simpa using this, (List.nodup_cons.mp h.nd).2, fun k b es w1 w2 => h.at_ (k + 1) b es w1 w2⟩)
theorem ds_retN2 (i : Nat) {x : Str} {px : Pos} (hN : X.N[i]? = some x := by rfl) (hv : Vis X.env.scope x := by first | exact Or.inl rfl | exact Or.inr (Or.inl rfl) | exact Or.inr (Or.inr rfl)) (hd : (x == ("__debug__" : Str)) = false := by decide)
    (hcd : (x == ("__classdict__" : Str)) = false := by decide) : DS X E (.Return (some (.Name x px)) pos) (mRetN i) := ps_wk (ps_ret (pe_var hN hv hd hcd)) fun D σ H h => by
  obtain ⟨Be, He, B, ρ, ev, h⟩ := h
  unfold mRetN at h
  split at h
  · rename_i dss hk
    obtain ⟨l, ls, h1, h2, h4, h5, h6, h7⟩ := ev.sl i _ hk
    exact ⟨_, h1, h _ H ev.he (ev.be.trans ev.bh) (.lst (.of (Mx.of h2 (.inl h4))) (inl_dq ev h7))⟩
  · exact h.elim
end
end PL

set_option Elab.async false
set_option linter.all false
set_option maxRecDepth 100000
set_option maxHeartbeats 2000000
/-! in a dict, as a test; the walk over a dict for its greatest value -/
namespace PL
open PySem PySem.Spec PyProof.Rows L2
variable {K : PySem.W.Frag}
section
variable {X : Cx} {E : XK} {e : Expr} {pos : Pos} {mk : Rho → Rs TD}
theorem dt_din (j : Nat) {x : Str} {px : Pos} (hu : X.A.units + 65 < cLine) (he : DE X E e mk) (hN : X.N[j]? = some x := by rfl) (hv : Vis X.env.scope x := by first | exact Or.inl rfl | exact Or.inr (Or.inl rfl) | exact Or.inr (Or.inr rfl)) (hd : (x == ("__debug__" : Str)) = false := by decide)
    (hcd : (x == ("__classdict__" : Str)) = false := by decide) (hm : behindInMarks .In (.Name x px) = false := by rfl) : DT X E (.Compare e [.In] [.Name x px] pos) (mTv (mDin false j mk)) :=
  pt_wk (pt_cmp (pc_din (by omega) he.pe (pe_var hN hv hd hcd)) hm) fun σ H Q h => by
    have := din_run (tst h)
    simpa [tDIn, tB] using this
theorem dt_dnotin (j : Nat) {x : Str} {px : Pos} (hu : X.A.units + 65 < cLine) (he : DE X E e mk) (hN : X.N[j]? = some x := by rfl) (hv : Vis X.env.scope x := by first | exact Or.inl rfl | exact Or.inr (Or.inl rfl) | exact Or.inr (Or.inr rfl)) (hd : (x == ("__debug__" : Str)) = false := by decide)
    (hcd : (x == ("__classdict__" : Str)) = false := by decide) (hm : behindInMarks .NotIn (.Name x px) = false := by rfl) : DT X E (.Compare e [.NotIn] [.Name x px] pos) (mTv (mDin true j mk)) :=
  pt_wk (pt_cmp (pc_dnotin (by omega) he.pe (pe_var hN hv hd hcd)) hm) fun σ H Q h => by
    have := din_run (tst h)
    simpa [tDNotIn, tB] using this
end
/-! ### a dict as data -/
def decAll : List (D × D) → Option KVs
  | [] => some []
  | (k, .int v) :: r => match keyOf k, decAll r with
    | some k, some r => some ((k, v) :: r)
    | _, _ => none
  | _ => none
def dctOf : D → Option KVs
  | .dict ((.bool true, .none) :: r) => decAll r
  | _ => none
theorem keysOf_key : ∀ k : List L2.Key, keysOf (k.map keyD) = some k
  | [] => rfl
  | a :: k => by
    have e : keyOf1 (keyD a) = some a := by cases a <;> rfl
    rw [List.map_cons, keysOf, e, keysOf_key k]
theorem decAll_of : ∀ kvs : KVs, decAll (kvs.map fun p => (.tuple (p.1.map keyD), .int p.2)) = some kvs
  | [] => rfl
  | p :: r => by
    have e : keyOf (.tuple (p.1.map keyD)) = some p.1 := keysOf_key p.1
    rw [List.map_cons, decAll, e, decAll_of r]
@[simp] theorem dctOf_dct (kvs : KVs) : dctOf (dctD kvs) = some kvs := decAll_of kvs
theorem dct_of {B : Hp} {v : V} {d : D} {kvs : KVs} (h : Dq K B v d) (e : dctOf d = some kvs) : ∃ a, v = .ref a ∧ B a = some (.dT (ivs kvs)) := by
  cases h with
  | dct r => rw [dctOf_dct] at e; cases e; exact ⟨_, rfl, r⟩
  | scr r => cases e
  | emp r => cases e
  | _ => cases e
/-- the first of the greatest values above 1 -/
def bstS (b : Option (List L2.Key) × Int) (p : List L2.Key × Int) : Option (List L2.Key) × Int := if b.2 < p.2 then (some p.1, p.2) else b
def bst (kvs : KVs) : Option (List L2.Key) × Int := kvs.foldl bstS (none, 1)
theorem bst_snoc (kvs : KVs) (p : List L2.Key × Int) : bst (kvs ++ [p]) = bstS (bst kvs) p := by unfold bst; rw [List.foldl_append]; rfl
def bstD : Option (List L2.Key) → D
  | none => .none
  | some k => .tuple (k.map keyD)
def mBest : Rho → Fl := fun (ρ : Rho) => match ρ[1]?, ρ[2]?, ρ[3]? with
  | some (Sl.im .none), some (Sl.im (.int 1)), some (Sl.im d) => match dctOf d with
    | some kvs => if (kvs.map (·.1)).Nodup ∧ 4 < ρ.length then .nx (((ρ.set 4 .un).set 1 (.im (bstD (bst kvs).1))).set 2 (.im (.int (bst kvs).2))) else .no
    | none => .no
  | _, _, _ => .no
theorem Ev.forget {Be He B H : Hp} {σ : L2.St} {ρ : Rho} (ev : Ev K Be He B H σ ρ) (i : Nat) (v : Option V) : Ev K Be He B H (σ.set i v) (ρ.set i .un) := by
  refine ⟨ev.eb, ev.be, ev.bm, ev.he, by rw [List.length_set, List.length_set]; exact ev.len, fun j s hs => ?_, fun j k ds es h1 h2 h3 => ?_, (ev.nk.set i fun _ e => by cases e), ev.nn.set i rfl⟩
  · rcases set_at hs with ⟨e, q⟩ | ⟨e, q⟩
    · subst q; trivial
    · rw [List.getElem?_set_ne e]; exact ev.sl j s q
  · rcases set_at h1 with ⟨_, q⟩ | ⟨e1, q1⟩
    · cases q
    · rcases set_at h2 with ⟨_, q⟩ | ⟨e2, q2⟩
      · cases q
      · rw [List.getElem?_set_ne e1, List.getElem?_set_ne e2] at h3
        exact ev.nd j k ds es q1 q2 h3
theorem vals_keys {B : Hp} : ∀ k : List L2.Key, DqAll K B (k.map kV) (k.map keyD)
  | [] => .nil
  | .inl i :: k => .cons (.int i) (vals_keys k)
  | .inr s :: k => .cons (.str s) (vals_keys k)
theorem vI_at {kvs : KVs} (h : (kvs.map (·.1)).Nodup) {i : Nat} {p : List L2.Key × Int} (hi : kvs[i]? = some p) : vI kvs p.1 = some p.2 := by
  induction kvs generalizing i with
  | nil => simp at hi
  | cons q r ih =>
    rw [List.map_cons, List.nodup_cons] at h
    cases i with
    | zero =>
      simp at hi
      subst hi
      simp [vI]
    | succ i =>
      simp at hi
      have hm : p.1 ∈ r.map (·.1) := List.mem_map.mpr ⟨p, List.mem_of_getElem? hi, rfl⟩
      have ne : ¬ q.1 = p.1 := fun e => h.1 (by rw [e]; exact hm)
      unfold vI
      rw [List.find?_cons]
      simp only [ne, decide_false]
      exact ih h.2 hi
/-- what the best is in the heap -/
def BstV (H : Hp) (v : V) : Option (List L2.Key) → Prop
  | none => v = .non
  | some k => ∃ q, v = .ref q ∧ H q = some (.tup (k.map kV))
section
variable {X : Cx} {E : XK} {pos : Pos}
theorem ds_best {pair told many best : Str} {p1 p2 p3 p4 p5 p6 p7 p8 p9 p10 p11 p12 p13 p14 p15 p16 : Pos} (hu : X.A.units + 65 < cLine) (hN : X.N.Nodup) (hp : PassesOwn (model X.prog X.w) X.A X.env X.xe) (hc : X.calm = true := by rfl)
    (n1 : X.N[1]? = some best := by rfl) (n2 : X.N[2]? = some many := by rfl) (n3 : X.N[3]? = some told := by rfl) (n4 : X.N[4]? = some pair := by rfl)
    (l1 : Loc X.env.scope best := by first | exact Or.inl rfl | exact Or.inr rfl) (l2 : Loc X.env.scope many := by first | exact Or.inl rfl | exact Or.inr rfl) (l4 : Loc X.env.scope pair := by first | exact Or.inl rfl | exact Or.inr rfl)
    (v2 : Vis X.env.scope many := by first | exact Or.inl rfl | exact Or.inr (Or.inl rfl) | exact Or.inr (Or.inr rfl)) (v3 : Vis X.env.scope told := by first | exact Or.inl rfl | exact Or.inr (Or.inl rfl) | exact Or.inr (Or.inr rfl)) (v4 : Vis X.env.scope pair := by first | exact Or.inl rfl | exact Or.inr (Or.inl rfl) | exact Or.inr (Or.inr rfl))
    (d2 : (many == ("__debug__" : Str)) = false := by decide) (d3 : (told == ("__debug__" : Str)) = false := by decide) (d4 : (pair == ("__debug__" : Str)) = false := by decide)
    (c2 : (many == ("__classdict__" : Str)) = false := by decide) (c3 : (told == ("__classdict__" : Str)) = false := by decide) (c4 : (pair == ("__classdict__" : Str)) = false := by decide)
    (f1 : X.fn best = true ∨ X.env.scope.names.lookup best = some .local := by first | exact .inl rfl | exact .inr rfl) (f2 : X.fn many = true ∨ X.env.scope.names.lookup many = some .local := by first | exact .inl rfl | exact .inr rfl) (f4 : X.fn pair = true ∨ X.env.scope.names.lookup pair = some .local := by first | exact .inl rfl | exact .inr rfl)
    (s1 : swapsWith (.Name pair p9) (some (.Name best p8)) p10.line X.env = pure false := by rfl) (s2 : swapsWith (.Subscript (.Name told p12) (.Name pair p13) p14) (some (.Name many p11)) p15.line X.env = pure false := by rfl)
    (hs : ∀ x, foldedSetIterable (.Name told p2) X.env x = pure x := by intro _; rfl) :
    DS X E (.For (.Name pair p1) (.Name told p2) [.If (.Compare (.Subscript (.Name told p3) (.Name pair p4) p5) [.Gt] [.Name many p6] p7) [.Assign [.Name best p8] (.Name pair p9) p10, .Assign [.Name many p11] (.Subscript (.Name told p12) (.Name pair p13) p14) p15] [] p16] [] pos) mBest := by
  have pv2 : ∀ p, PE X (.Name many p) (tVar 2) := fun p => pe_var n2 v2 d2 c2
  have pv3 : ∀ p, PE X (.Name told p) (tVar 3) := fun p => pe_var n3 v3 d3 c3
  have pv4 : ∀ p, PE X (.Name pair p) (tVar 4) := fun p => pe_var n4 v4 d4 c4
  have gd : ∀ p q r, PE X (.Subscript (.Name told p) (.Name pair q) r) (tDGet (tVar 3) (tVar 4)) := fun p q r => pe_dget (by omega) (pv3 p) (pv4 q) (fun _ _ => rfl)
  refine ps_wk (ps_lock (ps_for hp hc (pi_keys (pv3 p2)) (pg_name hN n4 l4 f4) (pss_one (ps_if (pt_cmpR op_gt (gd p3 p4 p5) (pv2 p6) (nomark _)) (pss_cons (ps_set hN n1 l1 (pv4 p9) s1 f1) (pss_one (ps_set hN n2 l2 (gd p12 p13 p14) s2 f2))) pss_nil)) hs)) fun D σ H h => ?_
  obtain ⟨Be, He, B, ρ, ev, h⟩ := h
  unfold mBest at h
  split at h
  rotate_left
  · exact h.elim
  rename_i d r1 r2 r3
  cases qd : dctOf d with
  | none => rw [qd] at h; exact h.elim
  | some kvs =>
  rw [qd] at h
  dsimp only at h
  split at h
  rotate_left
  · exact h.elim
  rename_i nod
  obtain ⟨nod, l4ρ⟩ := nod
  obtain ⟨w1, k1, q1⟩ := ev.sl 1 _ r1
  obtain ⟨w2, k2, q2⟩ := ev.sl 2 _ r2
  obtain ⟨w3, k3, q3⟩ := ev.sl 3 _ r3
  cases q1
  cases q2
  obtain ⟨a, ea, hBa⟩ := dct_of q3 qd
  subst ea
  have hHa := ev.bh a _ hBa
  have hlen : ∀ {i : Nat} {v : Option V}, σ[i]? = some v → i < σ.length := fun h => (List.getElem?_eq_some_iff.mp h).1
  refine ⟨a, _, hHa, trivial, fun od => ?_⟩
  have hbk : upd (upd H a (.frz od (.dT (ivs kvs)))) a (.dT (ivs kvs)) = H := by
    rw [upd_upd]
    funext b
    by_cases e : b = a
    · subst e; rw [upd_same, hHa]
    · rw [upd_ne e]
  have hat : upd H a (.frz od (.dT (ivs kvs))) a = some (.frz od (.dT (ivs kvs))) := upd_same
  generalize hH1 : upd H a (.frz od (.dT (ivs kvs))) = H1 at *
  refine ⟨_, k3, a, od, rfl, .inr ⟨_, hat, ?_⟩⟩
  let W : Nat → Nat → L2.St → Hp → Prop := fun i n σ' H' => n = kvs.length - i ∧ i ≤ kvs.length ∧ H' = H1 ∧ ∃ (x : Option V) (vb : V), BstV H1 vb (bst (kvs.take i)).1 ∧ σ' = (((σ.set 4 x).set 1 (some vb)).set 2 (some (.int (bst (kvs.take i)).2)))
  have set_self : ∀ {xs : L2.St} {i : Nat} {v : Option V}, xs[i]? = some v → xs.set i v = xs := fun {xs i v} h => by
    apply List.ext_getElem?
    intro j
    by_cases e : i = j
    · subst e; rw [List.getElem?_set_self (List.getElem?_eq_some_iff.mp h).1, h]
    · rw [List.getElem?_set_ne e]
  have four : ∃ x : Option V, σ.set 4 x = σ := by
    cases q : σ[4]? with
    | none => exact ⟨none, by rw [List.set_eq_of_length_le (by simpa using q)]⟩
    | some x => exact ⟨x, set_self q⟩
  obtain ⟨x0, hx0⟩ := four
  refine ⟨W, ⟨kvs.length, rfl, Nat.zero_le _, rfl, x0, .non, rfl, ?_⟩, ?_⟩
  · rw [hx0]
    show σ = ((σ.set 1 (some .non)).set 2 (some (.int 1)))
    rw [set_self k1, set_self k2]
  rintro i n σ' H' ⟨rfl, hle, rfl, x, vb, hvb, rfl⟩
  have l0 := hlen k1
  have l0' := hlen k2
  have l0'' := hlen k3
  have at3 : ∀ (x y z : Option V), (((σ.set 4 x).set 1 y).set 2 z)[3]? = some (some (.ref a)) := fun x y z => by
    rw [List.getElem?_set_ne (by decide), List.getElem?_set_ne (by decide), List.getElem?_set_ne (by decide)]; exact k3
  by_cases hlt : i < kvs.length
  · right
    have e0 : kvs[i]? = some kvs[i] := List.getElem?_eq_getElem hlt
    have ht : kvs.take (i + 1) = kvs.take i ++ [kvs[i]] := by rw [List.take_succ, e0]; rfl
    refine ⟨⟨hat, by rw [ivs_len]; exact hlt⟩, fun σ5 H5 => H5 = H' ∧ ∃ (x : Option V) (vb : V), BstV H' vb (bst (kvs.take (i + 1))).1 ∧ σ5 = (((σ.set 4 x).set 1 (some vb)).set 2 (some (.int (bst (kvs.take (i + 1))).2))), fun σ5 H5 ⟨q1, x, vb, q2, q3⟩ => ⟨kvs.length - (i + 1), by omega, rfl, hlt, q1, x, vb, q2, q3⟩, fun y H5 yl => ?_⟩
    obtain ⟨rfl, k, v, q, g1, rfl, g2⟩ := yl
    have gk : (k, v) = (kvs[i].1, V.int kvs[i].2) := by
      unfold ivs at g1
      rw [List.getElem?_map, e0] at g1
      exact (Option.some.inj g1).symm
    cases gk
    have vi := vI_at nod e0
    generalize hkv : kvs[i] = kv at *
    have hs4 : ((((σ.set 4 x).set 1 (some vb)).set 2 (some (.int (bst (kvs.take i)).2))).set 4 (some (.ref q))) = (((σ.set 4 (some (.ref q))).set 1 (some vb)).set 2 (some (.int (bst (kvs.take i)).2))) := by
      rw [List.set_comm _ _ (show (2 : Nat) ≠ 4 by decide), List.set_comm _ _ (show (1 : Nat) ≠ 4 by decide), List.set_set]
    simp only [gName]
    rw [hs4]
    have l4' : 4 < σ.length := by rw [ev.len]; exact l4ρ
    have at4 : ∀ (y z : Option V), (((σ.set 4 (some (.ref q))).set 1 y).set 2 z)[4]? = some (some (.ref q)) := fun y z => by
      rw [List.getElem?_set_ne (by decide), List.getElem?_set_ne (by decide), List.getElem?_set_self l4']
    have dg : DGet H5 a (.ref q) (some (.int kv.2)) := .inr ⟨ivs kvs, kv.1, q, .inr ⟨od, hat⟩, rfl, g2, by rw [valV_ivs, vi]; rfl⟩
    refine ⟨_, at3 _ _ _, _, at4 _ _, a, _, rfl, dg, _, by rw [List.getElem?_set_self (by simp; exact l0')], _, _, rfl, rfl, decide ((bst (kvs.take i)).2 < kv.2), rfl, ?_⟩
    by_cases c : (bst (kvs.take i)).2 < kv.2
    · rw [decide_eq_true c]
      refine iteT ⟨_, at4 _ _, ?_⟩
      have hs1 : ((((σ.set 4 (some (.ref q))).set 1 (some vb)).set 2 (some (.int (bst (kvs.take i)).2))).set 1 (some (.ref q))) = (((σ.set 4 (some (.ref q))).set 1 (some (.ref q))).set 2 (some (.int (bst (kvs.take i)).2))) := by
        rw [List.set_comm _ _ (show (2 : Nat) ≠ 1 by decide), List.set_set]
      simp only [gName]
      rw [hs1]
      refine ⟨_, at3 _ _ _, _, at4 _ _, a, _, rfl, dg, ?_⟩
      refine ⟨rfl, some (.ref q), .ref q, ?_, ?_⟩
      · rw [ht, bst_snoc]
        unfold bstS
        rw [if_pos c]
        exact ⟨q, rfl, g2⟩
      · rw [ht, bst_snoc]
        unfold bstS
        rw [if_pos c]
        rw [List.set_set]
    · rw [decide_eq_false c]
      refine iteF ⟨rfl, some (.ref q), vb, ?_, ?_⟩
      · rw [ht, bst_snoc]
        unfold bstS
        rw [if_neg c]
        exact hvb
      · rw [ht, bst_snoc]
        unfold bstS
        rw [if_neg c]
  · left
    have e : i = kvs.length := by omega
    subst e
    rw [List.take_length] at hvb ⊢
    refine ⟨⟨hat, by rw [ivs_len]; exact Nat.le_refl _⟩, hat, ?_⟩
    rw [hbk]
    cases hb1 : (bst kvs).1 with
    | none =>
      rw [hb1] at hvb
      cases hvb
      refine h _ B H ?_ (.refl _)
      rw [hb1]
      exact ((ev.forget 4 x).put 1 .non).put 2 (.int _)
    | some k =>
      rw [hb1] at hvb
      obtain ⟨q, rfl, hq⟩ := hvb
      have hqa : q ≠ a := fun e => by subst e; rw [hat] at hq; cases hq
      have hqH : H q = some (.tup (k.map kV)) := by rw [← hH1, upd_ne hqa] at hq; exact hq
      have x1 : Ext B H (upd B q (.tup (k.map kV))) H := by
        refine ⟨fun b o z => ?_, .refl _, fun b o z => ?_, fun b z1 z2 => ?_⟩
        · by_cases e : b = q
          · subst e; rw [ev.bh b o z] at hqH; rw [upd_same]; exact hqH.symm
          · rw [upd_ne e]; exact z
        · by_cases e : b = q
          · subst e; rw [upd_same] at z; rw [hqH]; exact z
          · rw [upd_ne e] at z; exact ev.bh b o z
        · by_cases e : b = q
          · subst e; exact .inr ⟨_, upd_same⟩
          · rw [upd_ne e]; exact .inl z1
      refine h _ _ H ?_ x1.b
      rw [hb1]
      exact (((ev.up x1).forget 4 x).put 1 (.tup upd_same (vals_keys k))).put 2 (.int _)
end
end PL
namespace PL
open PySem PySem.Spec PyProof.Rows L2
/-- nothing is said of a def -/
theorem dd_no {K : PySem.W.Frag} {P : Program} {w : World} {mg : Str → Option Value} {base : Heap} {x : Str} {st : Stmt} {ps : List Str} {k : Nat} (F : Df K mg x st ps) : Dd P w K mg base x k ps (fun _ => .no) := by
  obtain ⟨f, fd, F, hm, hbd⟩ := F
  refine ⟨f, fd, hm, F.kp, hbd, ⟨fun vs H Q E h => ?_, fun A outer s H args us vs Q E hr e0 hb hv hs => ?_⟩⟩
  · obtain ⟨B, ds, s, dv, h⟩ := h
    exact h.elim
  · obtain ⟨B, ds, s, dv, h⟩ := hs
    exact h.elim
end PL
namespace PL
open PySem PySem.Spec PyProof.Rows L2
theorem j_zipT {K : PySem.W.Frag} {a b : Addr} {Bx : Hp} {xs ys : List V} {ds es : List D} (r : Bx a = some (.tup xs)) (al : DqAll K Bx xs ds) (r' : Bx b = some (.tup ys)) (al' : DqAll K Bx ys es) : JOk K (RZ.ItzT K a b) Bx (zipD ds es) := by
  intro i B H s1 s2
  have hq : SqT K H a xs := .inl (.of ((s1.trans s2) _ _ r))
  have hq' : SqT K H b ys := .inl (.of ((s1.trans s2) _ _ r'))
  have hl : (zipD ds es).length = min ds.length es.length := by unfold zipD; rw [List.length_map, List.length_zip]
  refine ⟨fun d hd => ?_, fun hle => ⟨xs, ys, hq, hq', by rw [al.length, al'.length]; rw [hl] at hle; omega⟩⟩
  have hi := (List.getElem?_eq_some_iff.mp hd).1
  rw [hl] at hi
  have i1 : i < ds.length := by omega
  have i2 : i < es.length := by omega
  have e1 : ds[i]? = some ds[i] := List.getElem?_eq_getElem i1
  have e2 : es[i]? = some es[i] := List.getElem?_eq_getElem i2
  have e3 : d = .tuple [ds[i], es[i]] := by
    unfold zipD at hd
    have ez : (ds.zip es)[i]? = some (ds[i], es[i]) := List.getElem?_zip_eq_some.mpr ⟨e1, e2⟩
    rw [List.getElem?_map, ez] at hd
    exact (Option.some.inj hd).symm
  subst e3
  obtain ⟨v, h1, h2⟩ := al.get e1
  obtain ⟨w, g1, g2⟩ := al'.get e2
  refine ⟨⟨xs, ys, v, w, hq, hq', h1, g1⟩, fun x H' y => ?_⟩
  obtain ⟨T, v', w', rfl, hT, rfl, y1, y2⟩ := y
  have q1 := y1 xs hq
  rw [h1] at q1
  cases q1
  have q2 := y2 ys hq'
  rw [g1] at q2
  cases q2
  have x2 := Ext.new (o := .tup [v, w]) s2 hT
  exact ⟨_, x2, .tup upd_same (.cons ((h2.up s1).up x2.b) (.cons ((g2.up s1).up x2.b) .nil))⟩
def mZipA (ms : Rho → Rs (List D × List Nat)) : Rho → Rs (List D × List Nat) := fun ρ => (ms ρ).bind fun q => match q.1 with
  | [.list ds, .list es] => .ok (zipD ds es, q.2)
  | [.tuple ds, .tuple es] => .ok (zipD ds es, q.2)
  | _ => .no
theorem di_zipA {X : Cx} {E : XK} {e e2 : Expr} {p pos : Pos} {ms : Rho → Rs (List D × List Nat)} {elts : List Expr} {kk : Nat} {tpos : Pos} (hp : PI X (.Tuple elts kk tpos) (.Call (.Name "zip" p) [e, e2] [] pos) (RZ.iZipA X.K (tDA X.K X.mg E ms))) (ha : DA X E [e, e2] ms) : DI X E (.Tuple elts kk tpos) (.Call (.Name "zip" p) [e, e2] [] pos) (mZipA ms) := by
  refine ⟨pi_wk hp fun σ H R h => ?_, fun ρ d t q => ?_⟩
  · obtain ⟨Be, He, B, ρ, ev, h⟩ := h
    refine ⟨Be, He, B, ρ, ev, ?_⟩
    unfold mZipA at h
    cases r : ms ρ with
    | no => rw [r] at h; exact h
    | ex c => rw [r] at h; exact h
    | ok q =>
      obtain ⟨ds, t⟩ := q
      rw [r] at h
      dsimp only [Rs.bind] at h
      intro vs B1 H1 x1 dv
      split at h
      · cases dv with
        | cons d1 d2 =>
          cases d2 with
          | cons d3 d4 =>
            cases d4
            cases d1 with
            | lst rr al =>
              cases d3 with
              | lst rr2 al2 => exact ⟨_, _, _, _, rfl, .inl ⟨.inl (Same.rd (ev.up x1).ba_h rr), .inl (Same.rd (ev.up x1).ba_h rr2), h _ B1 H1 x1 (j_zip rr al rr2 al2)⟩⟩
      · cases dv with
        | cons d1 d2 =>
          cases d2 with
          | cons d3 d4 =>
            cases d4
            cases d1 with
            | tup rr al =>
              cases d3 with
              | tup rr2 al2 => exact ⟨_, _, _, _, rfl, .inr ⟨.inl (.of ((ev.up x1).ba_h _ _ rr)), .inl (.of ((ev.up x1).ba_h _ _ rr2)), h _ B1 H1 x1 (j_zipT rr al rr2 al2)⟩⟩
      · exact h.elim
  · unfold mZipA at q
    cases r : ms ρ with
    | no => rw [r] at q; cases q
    | ex c => rw [r] at q; cases q
    | ok x =>
      rw [r] at q
      dsimp only [Rs.bind] at q
      have := ha.tn ρ _ _ r
      split at q <;> first | (cases q; done) | (cases q; exact this)
end PL

set_option Elab.async false
set_option linter.all false
set_option maxRecDepth 100000
set_option maxHeartbeats 4000000
/-! enumerate of a tuple -/
namespace PLE
open PySem PySem.Spec PyProof.Rows L2
open AutoSeq1 (wpAny_loadPart')
abbrev tItO (a : Addr) : Obj := { cls := .type "tuple_iterator", data := .fields #[.ref a, .int 0 0] }
abbrev enO (i : Addr) : Obj := { cls := .type "enumerate", data := .fields #[.none, .bool false, .ref i, rawInt 0, .none, .none] }
theorem meets_en (a : Addr) (its : Array Value) (m : Nat) (dct : Option Addr) (sl : Array (Option Value)) :
    Meets (Builtin.«enumerate.__new__» ⟨[.type "enumerate", .ref a], []⟩) (fun _ R s => s.heap.get? a = some { cls := .type "tuple", dict := dct, data := .seq its m, slots := sl } ∧ R (.ok (.ret (.ref (s.heap.push (tItO a)).objs.size))) { s with heap := (s.heap.push (tItO a)).push (enO s.heap.objs.size) }) :=
  .of_wp fun prog w A R s hh => by
    obtain ⟨hp, g, d, tk, os⟩ := s
    obtain ⟨ha, hR⟩ := hh
    have hsub := sub_enumerate
    have hT : Heap.IsTuple (Shared.heap ⟨hp, g, d, tk, os⟩) a its := ⟨_, ha, rfl, m, rfl⟩
    wp_walk using wpAny_loadPart' ha
    refine wpAny_stack_any fun stk => wpAny_pure ?_
    split
    · rename_i c _ _ _ _ _
      cases (c == Value.type "enumerate") <;> (wp_walk using wpAny_loadPart' ha, wpAny_pyIter_tuple hT; exact ⟨_, rfl, hR⟩)
    · wp_walk using wpAny_loadPart' ha, wpAny_pyIter_tuple hT
      exact ⟨_, rfl, hR⟩
section
variable {prog : Program} {w : World} {A : Around} {E : Value → Shared → Prop} {s : Shared}
theorem call_en {a : Addr} {its : Array Value} {Q : Value → Shared → Prop} (hT : s.heap.IsTuple a its)
    (k : ∀ h2, IsEnum h2 (s.heap.objs.size + 1) s.heap.objs.size 0 .none → h2.IsTupleIter s.heap.objs.size a 0 → (∀ b o, s.heap.get? b = some o → h2.get? b = some o) → Q (.ref (s.heap.objs.size + 1)) { s with heap := h2 }) :
    wpAny (model prog w) A (call (.type "enumerate") [.ref a]) Q E s := by
  obtain ⟨⟨c, dct, dt, sl⟩, ha, hc, m, hd⟩ := hT
  have hc : c = .type "tuple" := hc
  have hd : dt = .seq its m := hd
  subst hc hd
  refine callType_new F.called_enumerate (by decide) (F.typeCall_enumerate_1 _) (F.newCall_enumerate_1 _) (fun obj => F.args_object_init_2 obj _) F.entry_enumerate_new (meets_en a its m dct sl) ⟨ha, ?_⟩
  have z1 : (s.heap.push (tItO a)).objs.size = s.heap.objs.size + 1 := Heap.size_push ..
  have n2 : ((s.heap.push (tItO a)).push (enO s.heap.objs.size)).get? (s.heap.objs.size + 1) = some (enO s.heap.objs.size) := by
    rw [← z1]; exact Heap.get?_push_size _ rfl
  show _ ∧ _
  rw [z1]
  exact ⟨⟨_, n2, rfl⟩, k _ n2 ⟨_, Heap.get?_push_of_some _ (Heap.get?_push_size _ rfl), rfl, rfl⟩ fun b o q => Heap.get?_push_of_some _ (Heap.get?_push_of_some _ q)⟩
end
/-- the tuple at a, its items in new pairs with their numbers -/
def IteT (K : PySem.W.Frag) (a : Addr) : It :=
  ⟨fun i H => ∃ (xs : List V) (x : V), SqT K H a xs ∧ xs[i]? = some x, fun i H v H' => ∃ T x, v = .ref T ∧ H T = none ∧ H' = upd H T (.tup [.int (i : Nat), x]) ∧ ∀ xs, SqT K H a xs → xs[i]? = some x, fun i H => ∃ xs : List V, SqT K H a xs ∧ xs.length ≤ i⟩
/-- behind the last item -/
theorem dr_end {prog : Program} {w : World} {A : Around} (hh : A.handled = none) (it a : Addr) (items : Array Value) (n : Nat) (hn : items.size ≤ n) : Draws prog w A it [it, a] n (fun _ _ => True) (fun j h => j = n ∧ h.IsTupleIter it a n ∧ h.IsTuple a items) where
  live := fun _ _ st => let ⟨o, ho, _⟩ := st.2.1; ⟨o, ho⟩
  frame := fun _ _ _ st hk => ⟨st.1, st.2.1.at fun o e => hk it (by simp) o e, st.2.2.at fun o e => hk a (by simp) o e⟩
  item := fun i s Q E hi st hQ => absurd st.1 (Nat.ne_of_lt hi)
  done := fun s Q E st hE => RZ.nextOf_tuple_end hh st.2.1 st.2.2 (Array.getElem?_eq_none hn) hE
theorem turn_en {P : Program} {w : World} {K : PySem.W.Frag} {elts : List Expr} {kk : Nat} {tpos : Pos} (a e it : Addr) (hae : a ≠ e) (hai : a ≠ it) :
    Turn P w K (.Tuple elts kk tpos) (IteT K a) [e, it] e (fun i h => (∃ old, IsEnum h e it ((i : Nat) : Int) old) ∧ h.IsTupleIter it a i ∧ e ≠ it) where
  mem := by simp
  obj := fun i h st b hb => by
    obtain ⟨⟨old, he⟩, ⟨o, ho, hc, hd⟩, _⟩ := st
    rcases (show b = e ∨ b = it by simpa using hb) with z | z <;> subst z
    · exact ⟨_, he, fun v q => nomatch q⟩
    · exact ⟨o, ho, fun v q => by rw [hd] at q; cases q⟩
  keep := fun i h h2 st k => ⟨st.1.imp fun old he => k e (by simp) _ he, st.2.1.at fun o q => k it (by simp) o q, st.2.2⟩
  item := by
    intro X hP hw hK hc i pins s σ H E I hf st hg
    subst hP hw hK
    obtain ⟨⟨old, he⟩, hit, hne⟩ := st
    obtain ⟨xs, x, hq, hx⟩ := hg
    obtain ⟨its, rv, p, hz⟩ := I.tuple hq
    obtain ⟨u, hu, ru⟩ := rv.get hx
    have tp : s.heap.IsTuple a its.toArray := p
    have hel : e < s.heap.objs.size := Heap.lt_size he
    have hil : it < s.heap.objs.size := by obtain ⟨_, q, _⟩ := hit; exact Heap.lt_size q
    have hi : i < its.toArray.size := by
      have := (List.getElem?_eq_some_iff.mp hu).1
      simpa using this
    refine wpAny_pyNext_enum_itemD (Draws.tuple (show X.A.in1.handled = none from I.ok.hd hc) it a hai its.toArray) he ⟨hit, tp⟩ hi hne (by simp only [List.mem_cons, List.not_mem_nil, or_false, not_or]; exact ⟨hne, fun q => hae q.symm⟩) fun u2 h2 tk hP2 ho st2 hT hsz hk => ?_
    have eu : u2 = u := by
      have hP2 : its.toArray[i]? = some u2 := hP2
      have : its[i]? = some u2 := by simpa using hP2
      rw [hu] at this; exact (Option.some.inj this).symm
    subst eu
    refine ⟨_, rfl, wpAny_letOwnedTupleGo_enum (s := { s with heap := h2, toks := tk + 1 }) ho fun h3 he3 sb => ?_⟩
    have hT3 : h3.get? s.heap.objs.size = some { cls := .type "tuple", data := .seq #[.int i tk, u2] } := (sb.2 _ (Nat.ne_of_gt hel)).trans hT
    have new : ObjOk X.prog X.w (upd H s.heap.objs.size (.tup [.int (i : Nat), x])) h3 s.heap.objs.size (.tup [.int (i : Nat), x]) :=
      ⟨by show 2 ≤ sizeLine; decide, [.int i tk, u2], .cons ⟨_, rfl⟩ (.cons ru .nil), ⟨_, hT3, rfl, _, rfl⟩⟩
    have I1 : Inv X pins σ (upd H s.heap.objs.size (.tup [.int (i : Nat), x])) { s with heap := h3, toks := tk + 1 } :=
      I.turnedNew (ch := [e, it]) (fun b ob hb q => (sb.2 b (fun z => hb (by simp [z]))).trans (hk b ob (fun z => hb (by simp [z])) (fun z => hb (by simp [z])) q)) hf (Nat.le_refl _) new
    refine ⟨.ref s.heap.objs.size, _, I1, rfl, ⟨_, x, rfl, I.hok.fresh (Nat.le_refl _), rfl, fun ys hy => by rw [I.tuple_inj hy hq]; exact hx⟩, ⟨⟨u2, ?_⟩, st2.1.at fun o q => (sb.2 it (Ne.symm hne)).trans q, hne⟩, fun b hb => ?_⟩
    · have e1 : ((i + 1 : Nat) : Int) = (i : Int) + 1 := by omega
      rw [e1]; exact he3
    · have hb2 : b < s.heap.objs.size := by
        rcases (show b = e ∨ b = it by simpa using hb) with z | z <;> (rw [z]; assumption)
      rw [upd_ne (Nat.ne_of_lt hb2)]
      exact (hf b hb).1
  done := by
    intro X hP hw hK hc i pins s σ H E I hf st hg
    subst hP hw hK
    obtain ⟨⟨old, he⟩, hit, hne⟩ := st
    obtain ⟨xs, hq, hx⟩ := hg
    obtain ⟨its, rv, p, hz⟩ := I.tuple hq
    have tp : s.heap.IsTuple a its.toArray := p
    obtain ⟨f0, f1, f2, f3, f4, f5⟩ := hf it (by simp)
    have hl := rv.length
    exact wpAny_pyNext_enum_endD (dr_end (show X.A.in1.handled = none from I.ok.hd hc) it a its.toArray i (by simp; omega)) he ⟨rfl, hit, tp⟩ fun h2 eb => ⟨rfl, I.turned (t' := s.toks) (fun b o hb q => eb b o hb q) f0 f1 f3 f4 f5⟩
  self := fun A i s Q E st k => let ⟨⟨_, he⟩, _⟩ := st; wpAny_pyIter_enum he k
def iEnT (K : PySem.W.Frag) (ta : TA) : TI := fun σ H R => ta σ H fun vs H1 => ∃ a xs, vs = [.ref a] ∧ SqT K H1 a xs ∧ R (IteT K a) H1
theorem pi_enT {X : Cx} {e : Expr} {ta : TA} {p pos tpos : Pos} {elts : List Expr} {kk : Nat} (hg : Gl X "enumerate") (hm : X.mg "enumerate" = none) (ha : PA X [e] ta) (hs : starEach [e] X.env = [(false, eval e X.env)] := by rfl) :
    PI X (.Tuple elts kk tpos) (.Call (.Name "enumerate" p) [e] [] pos) (iEnT X.K ta) := by
  refine ⟨fun pins s σ H R I h => ?_⟩
  refine Call_ (ld_blt I hg hm boot_enumerate (PyProof.Rows.callWith_type1 (thn (ha.run pos pins s σ H _ I h) fun us s1 ⟨vs, H1, I1, r1, q1⟩ => ?_) hs rfl))
  obtain ⟨a, xs, ex, hq, q⟩ := q1
  subst ex
  cases r1 with
  | cons r rr =>
    cases rr
    cases r
    obtain ⟨its, rv, p2, hz⟩ := I1.tuple hq
    have tp : s1.heap.IsTuple a its.toArray := p2
    obtain ⟨o, ho, _⟩ := id tp
    have hal : a < s1.heap.objs.size := Heap.lt_size ho
    refine call_en tp fun h2 he hit hk => wpAny_pyIter_enum he ?_
    have I2 : Inv X pins σ H1 { s1 with heap := h2 } := I1.kept (t' := s1.toks) hk
    refine ⟨s1.heap.objs.size + 1, [s1.heap.objs.size + 1, s1.heap.objs.size], _, _, H1, rfl, I2, turn_en a (s1.heap.objs.size + 1) s1.heap.objs.size (Nat.ne_of_lt (Nat.lt_succ_of_lt hal)) (Nat.ne_of_lt hal), ⟨⟨.none, he⟩, hit, Nat.succ_ne_self _⟩, fun b hb => ?_, q⟩
    have hle : s1.heap.objs.size ≤ b := by
      rcases (show b = s1.heap.objs.size + 1 ∨ b = s1.heap.objs.size by simpa using hb) with z | z <;> (rw [z]; omega)
    exact I1.fpOk hle (I1.hok.fresh hle)
end PLE
namespace PL
open PySem PySem.Spec PyProof.Rows L2
theorem j_enumT {K : PySem.W.Frag} {a : Addr} {Bx : Hp} {xs : List V} {ds : List D} (r : Bx a = some (.tup xs)) (al : DqAll K Bx xs ds) : JOk K (PLE.IteT K a) Bx (enumD ds) := by
  intro i B H s1 s2
  have hq : SqT K H a xs := .inl (.of ((s1.trans s2) _ _ r))
  have hl : (enumD ds).length = ds.length := by unfold enumD; rw [List.length_map, List.length_zipIdx]
  refine ⟨fun d hd => ?_, fun hle => ⟨xs, hq, by rw [al.length]; rw [hl] at hle; exact hle⟩⟩
  obtain ⟨d0, e0, e1⟩ : ∃ d0, ds[i]? = some d0 ∧ d = .tuple [.int (i : Nat), d0] := by
    unfold enumD at hd
    rw [List.getElem?_map, List.getElem?_zipIdx] at hd
    cases q : ds[i]? with
    | none => rw [q] at hd; cases hd
    | some d0 => rw [q] at hd; exact ⟨d0, rfl, by simpa using (Option.some.inj hd).symm⟩
  subst e1
  obtain ⟨v, h1, h2⟩ := al.get e0
  refine ⟨⟨xs, v, hq, h1⟩, fun x H' y => ?_⟩
  obtain ⟨T, y0, rfl, hT, rfl, y⟩ := y
  have := y xs hq
  rw [h1] at this
  cases this
  have x2 := Ext.new (o := .tup [.int (i : Nat), v]) s2 hT
  exact ⟨_, x2, .tup upd_same (.cons (.int _) (.cons ((h2.up s1).up x2.b) .nil))⟩
def mEnumA (ms : Rho → Rs (List D × List Nat)) : Rho → Rs (List D × List Nat) := fun ρ => (ms ρ).bind fun q => match q.1 with
  | [.list ds] => .ok (enumD ds, q.2)
  | [.tuple ds] => .ok (enumD ds, q.2)
  | _ => .no
theorem di_enumA {X : Cx} {E : XK} {e : Expr} {p pos : Pos} {ms : Rho → Rs (List D × List Nat)} {elts : List Expr} {kk : Nat} {tpos : Pos} (hg : Gl X "enumerate") (hm : X.mg "enumerate" = none) (ha : DA X E [e] ms) (hs : starEach [e] X.env = [(false, eval e X.env)] := by rfl) : DI X E (.Tuple elts kk tpos) (.Call (.Name "enumerate" p) [e] [] pos) (mEnumA ms) := by
  refine ⟨pi_wk (pi_either (pi_enum hg hm ha.pa hs) (PLE.pi_enT hg hm ha.pa hs)) fun σ H R h => ?_, fun ρ d t q => ?_⟩
  · obtain ⟨Be, He, B, ρ, ev, h⟩ := h
    unfold mEnumA at h
    cases r : ms ρ with
    | no => rw [r] at h; exact h.elim
    | ex c => rw [r] at h; exact .inl ⟨Be, He, B, ρ, ev, by rw [r]; exact h⟩
    | ok q =>
      obtain ⟨ds, t⟩ := q
      rw [r] at h
      dsimp only [Rs.bind] at h
      split at h
      · refine .inl ⟨Be, He, B, ρ, ev, ?_⟩
        rw [r]
        intro vs B1 H1 x1 dv
        cases dv with
        | cons d1 d2 =>
          cases d2
          cases d1 with
          | lst rr al => exact ⟨_, _, rfl, .inl (Same.rd (ev.up x1).ba_h rr), h _ B1 H1 x1 (j_enum rr al)⟩
      · refine .inr ⟨Be, He, B, ρ, ev, ?_⟩
        rw [r]
        intro vs B1 H1 x1 dv
        cases dv with
        | cons d1 d2 =>
          cases d2
          cases d1 with
          | tup rr al => exact ⟨_, _, rfl, .inl (.of ((ev.up x1).ba_h _ _ rr)), h _ B1 H1 x1 (j_enumT rr al)⟩
      · exact h.elim
  · unfold mEnumA at q
    cases r : ms ρ with
    | no => rw [r] at q; cases q
    | ex c => rw [r] at q; cases q
    | ok x =>
      rw [r] at q
      dsimp only [Rs.bind] at q
      have := ha.tn ρ _ _ r
      split at q <;> first | (cases q; done) | (cases q; exact this)
end PL

set_option Elab.async false
set_option linter.all false
set_option maxRecDepth 100000
set_option maxHeartbeats 1000000
/-! try: an own function's call / except C as e: a text of what e is. -/
namespace PL
open PySem PySem.Spec PyProof.Rows L2
/-! ### more facts for the head -/
def exB (K : PySem.W.Frag) (x : Str) : Bool :=
  decide (PySem.W.findIn K (.ref (He.ga K x)) "__getattribute__" = some (some (.builtin "BaseException.__getattribute__"))) && (decide (PySem.W.findIn K (.ref (He.ga K x)) "__getattr__" = some none) && (decide (PySem.W.subIn K (.ref (He.ga K x)) (.type "BaseException") = some true) &&
  (PySem.W.hasDictIn K (He.ga K x) && (decide (PySem.W.findIn K (.ref (He.ga K x)) "__class__" = some (some (.builtin "object.__class__"))) && (decide (PySem.W.specialIn K (.builtin "object.__class__") "__get__" = some (some (.builtin "getset_descriptor.__get__"))) &&
  (decide (PySem.W.takesIn K (.builtin "object.__class__") = some true) && decide (PySem.W.mroIn K (He.ga K x) (.type "object") = some true)))))))
theorem exB_ok {K : PySem.W.Frag} {x : Str} (h : exB K x = true) : ExcC K (He.ga K x) := by
  obtain ⟨h1, h⟩ := He.ba h
  obtain ⟨h2, h⟩ := He.ba h
  obtain ⟨h3, h⟩ := He.ba h
  obtain ⟨h4, h⟩ := He.ba h
  obtain ⟨h5, h⟩ := He.ba h
  obtain ⟨h6, h⟩ := He.ba h
  obtain ⟨h7, h8⟩ := He.ba h
  exact ⟨of_decide_eq_true h1, of_decide_eq_true h2, of_decide_eq_true h3, h4, of_decide_eq_true h5, of_decide_eq_true h6, of_decide_eq_true h7, of_decide_eq_true h8⟩
def kiB (K : PySem.W.Frag) (x y : Str) (b : Bool) : Bool := decide (PySem.W.kitOne K (.ref (He.ga K x)) (.ref (He.ga K y)) = some b)
def ktB (K : PySem.W.Frag) (x : Str) (T : String) (b : Bool) : Bool := decide (PySem.W.kitOne K (.ref (He.ga K x)) (.type T) = some b)
def emB (K : PySem.W.Frag) (x y : Str) (b : Bool) : Bool := decide (PySem.W.exmOne K (.ref (He.ga K x)) (.ref (He.ga K y)) = some b)
abbrev AlX : Type := Bool × He.Al
def obsX (ex : PySem.W.Frag → Bool) (fa : List He.Fa) (fn : List He.FnD) (K : PySem.W.Frag) : AlX := (ex K, He.obsE fa fn K)
def obsXG (n : Nat) (ex : PySem.W.Frag → Bool) (fa : List He.Fa) (fn : List He.FnD) (g : Addr → Option Obj) : AlX := obsX ex fa fn (He.frG g (He.asG g n))
def hookX (n : Nat) (ex : PySem.W.Frag → Bool) (fa : List He.Fa) (fn : List He.FnD) : PySem.W.Hook where
  α := AlX
  obs := fun s => obsXG n ex fa fn s.heap.get?
  val := fun _ => (true, He.valE fn)
  says := fun _ h => ∃ K : PySem.W.Frag, K.In h ∧ ex K = true ∧ He.SaysE fa fn K
  of := fun _ _ e => ⟨_, He.frG_in, congrArg (fun z : AlX => z.1) e, congrArg (fun z : AlX => z.2) e⟩
  keeps := fun _ _ _ ⟨K, hK, c⟩ k => ⟨K, PySem.W.Frag.In.keeps hK k, c⟩
theorem obsX_eq {n : Nat} {ex : PySem.W.Frag → Bool} {fa : List He.Fa} {fn : List He.FnD} {g : Addr → Option Obj} {s : Shared} (h : ∀ a, g a = s.heap.get? a) : obsXG n ex fa fn g = (hookX n ex fa fn).obs s := by
  have e : g = s.heap.get? := funext h
  rw [e] <;> rfl
/-! ### values that do not depend on the heap -/
def PEv (X : Cx) (e : Expr) (P : L2.St → Prop) (v : V) : Prop := PE X e (fun σ H Q => P σ ∧ ∀ H', Same H H' → Q v H')
section
variable {X : Cx} {a b e : Expr} {pos p : Pos} {P : L2.St → Prop} {v v1 v2 : V}
theorem pev_op {op : Operator} {r : R2} (ho : OpR X (binaryOp op) r) (hr : ∀ (H : Hp) (Q : VK), (∀ H', Same H H' → Q v H') → r v1 v2 H Q) (h1 : PEv X a P v1) (h2 : PEv X b P v2) : PEv X (.BinOp a op b pos) P v :=
  pe_wk (pe_op ho h1 h2) fun σ H Q ⟨p, q⟩ => ⟨p, fun H1 s1 => ⟨p, fun H2 s2 => hr H2 Q fun H' s => q H' ((s1.trans s2).trans s)⟩⟩
theorem op2_v {K : PySem.W.Frag} {r : R2} {F : D → D → Option D} (f : Op2Ok K r F) {d1 d2 d : D} (D1 : ∀ B, Dq K B v1 d1) (D2 : ∀ B, Dq K B v2 d2) (e : F d1 d2 = some d) (Dv : ∀ B u, Dq K B u d → u = v) (H : Hp) (Q : VK) (q : ∀ H', Same H H' → Q v H') : r v1 v2 H Q := by
  refine f H v1 v2 d1 d2 H Q (.refl _) (D1 _) (D2 _) ?_
  rw [e]
  intro u B' H' x dv
  rw [Dv _ _ dv]
  exact q H' x.h
theorem pev_mul {s z : Str} {n : Int} (e : mulD (.str s) (.int n) = some (.str z)) (h1 : PEv X a P (.str s)) (h2 : PEv X b P (.int n)) : PEv X (.BinOp a .Mult b pos) P (.str z) :=
  pev_op op_mulA (op2_v (K := X.K) f_mul (fun _ => .str _) (fun _ => .int _) e (fun _ _ d => by cases d; rfl)) h1 h2
theorem pev_add {s t z : Str} (e : addD (.str s) (.str t) = some (.str z)) (h1 : PEv X a P (.str s)) (h2 : PEv X b P (.str t)) : PEv X (.BinOp a .Add b pos) P (.str z) :=
  pev_op op_addA (op2_v (K := X.K) f_add (fun _ => .str _) (fun _ => .str _) e (fun _ _ d => by cases d; rfl)) h1 h2
theorem pev_str {x : Str} {j} : PEv X (.Constant (.str x) j pos) P (.str x) := pe_wk pe_str fun σ H Q ⟨_, q⟩ => q H (.refl _)
theorem pev_var {j : Nat} {x : Str} (hP : ∀ σ, P σ → σ[j]? = some (some v)) (hN : X.N[j]? = some x) (hv : Vis X.env.scope x) (hd : (x == ("__debug__" : Str)) = false := by decide) (hcd : (x == ("__classdict__" : Str)) = false := by decide) : PEv X (.Name x pos) P v :=
  pe_wk (pe_var hN hv hd hcd) fun σ H Q ⟨p, q⟩ => ⟨_, hP σ p, q H (.refl _)⟩
theorem pev_int {k : Bool} (hg : Gl X "int") (hm : X.mg "int" = none) (h : PEv X e P (.bl k)) (he : starEach [e] X.env = (false, eval e X.env) :: starEach [] X.env := by rfl) (hpl : (backTo pos (starEach [] X.env)).any (·.1) = false := by rfl) : PEv X (.Call (.Name "int" p) [e] [] pos) P (.int (if k then 1 else 0)) :=
  pe_wk (pe_callTy call_intA hg hm boot_int (pa_cons h pa_nil he) (by decide) (by decide) he hpl) fun σ H Q ⟨p, q⟩ => ⟨p, fun H1 s1 => .inl (.inr ⟨k, rfl, q H1 s1⟩)⟩
end
/-- isinstance(e, C) -/
theorem pev_is {X : Cx} {a D : Addr} {oe : Obj} {pn : List (Addr × Obj)} {n x : Str} {i : Nat} {c : V} {cv : Value} {b : Bool} {P : L2.St → Prop} {pos p p1 p2 : Pos} (C : ExcC X.K D) (hz : Zc (.ref D) none oe) (hf : ∃ vs, oe.data = .fields vs)
    (hP : ∀ σ, P σ → σ[i]? = some (some (.ref a))) (hgI : Gl X "isinstance") (hmI : X.mg "isinstance" = none) (hN : X.N[i]? = some n) (hv : Vis X.env.scope n) (hc : PE (X.suite a ((a, oe) :: pn)) (.Name x p2) (tC c)) (hcv : ∀ u, RelV c u → u = cv) (hk : PySem.W.kitOne X.K (.ref D) cv = some b)
    (hd : (n == ("__debug__" : Str)) = false := by decide) (hcd : (n == ("__classdict__" : Str)) = false := by decide)
    (h1 : starEach [.Name n p1, .Name x p2] X.env = (false, eval (.Name n p1) X.env) :: starEach [.Name x p2] X.env := by rfl) (h2 : starEach [.Name x p2] X.env = (false, eval (.Name x p2) X.env) :: starEach [] X.env := by rfl)
    (hpl : (backTo pos (starEach [.Name x p2] X.env)).any (·.1) = false := by rfl) : PEv (X.suite a ((a, oe) :: pn)) (.Call (.Name "isinstance" p) [.Name n p1, .Name x p2] [] pos) P (.bl b) :=
  pe_wk (pe_callB (X := X.suite a ((a, oe) :: pn)) (call_isE C hz hf) hgI hmI boot_isinstance (pa_cons (X := X.suite a ((a, oe) :: pn)) (pe_var (X := X.suite a ((a, oe) :: pn)) hN hv hd hcd) (pa_cons (X := X.suite a ((a, oe) :: pn)) hc pa_nil h2) h1) (by decide) (by decide) h1 hpl) fun σ H Q ⟨p, q⟩ =>
    ⟨_, hP σ p, c, cv, b, rfl, hcv, hk, q H (.refl _)⟩
/-! ### the try -/
def mTryW (T : Str → Option Str) (m : Rho → Rs TD) : Rho → Fl := fun ρ => match m ρ with
  | .ok _ => .nx ρ
  | .ex k => (match T k with
    | some z => .rt (.str z)
    | none => .no)
  | .no => .no
def tW (i : Nat) (a : Addr) (n : Nat) (z : Str) : TS := fun D σ H => (σ.length = n ∧ σ[i]? = some (some (.ref a))) ∧ ∀ H', Same H H' → D.rt (.str z) H'
def EW (X : Cx) (W : WX) : XK := fun cls d H => ∀ σ : L2.St, σ.length = X.N.length → W cls d σ H
theorem ew_pass {X : Cx} {W : WX} (tk : Takes X W) : Passes (L2.CX X.prog X.w) X (EW X W) := fun pins σ H s e s' I c => tk e s' (XE.of_call I (fun cls d H' h => h σ I.len) c)
theorem ds_tryW {X : Cx} {E : XK} {x n : Str} {c : Addr} {i : Nat} {e : Expr} {b₀ : Stmt} {suite : List Stmt} {pe' np pos pos' : Pos} {m : Rho → Rs TD} {T : Str → Option Str}
    (hs : X.stack = X.env :: X.outer) (hf : X.env.frame = some X.env.locals) (hN : X.N.Nodup) (hi : X.N[i]? = some n) (hln : X.env.kindOf n = some .local) (hc : Names X x (.ref c)) (tk : Takes X (fun cls d _ H => E cls d H))
    (hsw : swapsWith e none pe'.line X.env = pure false)
    (hb : ∀ (W : WX) (pn : List (Addr × Obj)) (xe : Value → Shared → Prop), Takes (X.tr pn xe) W → DE (X.tr pn xe) (EW (X.tr pn xe) W) e m)
    (hg : ∀ k z, T k = some z → ∃ C, X.mg k = some (.ref C) ∧ PySem.W.exmOne X.K (.ref C) (.ref c) = some true ∧ ∀ (a : Addr) (oe : Obj) (pn : List (Addr × Obj)), Zc (.ref C) none oe → (∃ vs, oe.data = .fields vs) → PSs (X.suite a ((a, oe) :: pn)) (b₀ :: suite) (tW i a X.N.length z)) :
    DS X E (.Try [.Expr e pe'] [.ExceptHandler (some (.Name x np)) (some n) (b₀ :: suite) pos'] [] [] pos) (mTryW T m) := by
  have hil : i < X.N.length := (List.getElem?_eq_some_iff.mp hi).1
  refine ps_wk (ps_try_as (Wout := fun cls d _ H => E cls d H) (tb := fun W => tDS X.K X.mg (EW X W) (mExpr m)) (ts := fun a cls d D σ H => ∃ k z C, T k = some z ∧ X.mg k = some (.ref C) ∧ cls = .ref C ∧ d = none ∧ tW i a X.N.length z D σ H) hs hf hN hi hln hc tk
    (fun W pn xe t _ => dss_one (ds_expr (X := X.tr pn xe) (hb W pn xe t) hsw)) (fun a oe cls d pn hz hv => ⟨fun pins s σ H D I h => ?_⟩)) fun D σ H h => ?_
  · obtain ⟨k, z, C, h1, h2, rfl, rfl, h3⟩ := h
    obtain ⟨C', g1, _, g3⟩ := hg k z h1
    have e : C' = C := by rw [h2] at g1; cases g1; rfl
    subst e
    exact (g3 a oe pn hz hv).run pins s σ H D I h3
  · obtain ⟨Be, He, B, ρ, ev, h⟩ := h
    refine ⟨Be, He, B, ρ, ev, ?_⟩
    unfold mTryW at h
    unfold mExpr
    cases r : m ρ with
    | no => rw [r] at h; exact h.elim
    | ok q => rw [r] at h; exact h
    | ex k =>
      rw [r] at h
      cases ht : T k with
      | none => simp only [ht] at h; exact h.elim
      | some z =>
        simp only [ht] at h
        obtain ⟨C, g1, g2, _⟩ := hg k z ht
        intro C' H' hm sm σ1 hl
        have e : C' = C := by rw [g1] at hm; cases hm; rfl
        subst e
        refine ⟨true, g2, fun _ a ha => ⟨k, z, C', ht, g1, rfl, rfl, ⟨by simp [hl], by simp [hl, hil]⟩, fun H'' s2 => ?_⟩, fun z => by cases z⟩
        exact h _ _ (sm.trans s2) ((ev.eb.trans sm).trans s2) (.str _)
end PL

set_option Elab.async false
set_option linter.all false
set_option maxRecDepth 100000
set_option maxHeartbeats 1000000
/-! what _law_word_of says of an exception -/
namespace PL
open PySem PySem.Spec PyProof.Rows L2
structure WC (K : PySem.W.Frag) (B Pl Wo Te No C : Addr) (b1 b2 b3 b4 : Bool) : Prop where
  x : ExcC K C
  m : PySem.W.exmOne K (.ref C) (.ref B) = some true
  k1 : PySem.W.kitOne K (.ref C) (.ref Pl) = some b1
  k2 : PySem.W.kitOne K (.ref C) (.ref Wo) = some b2
  k3 : PySem.W.kitOne K (.ref C) (.ref Te) = some b3
  k4 : PySem.W.kitOne K (.ref C) (.ref No) = some b4
  kv : PySem.W.kitOne K (.ref C) (.type "ValueError") = some true
def wcB (K : PySem.W.Frag) (x : Str) (b1 b2 b3 b4 : Bool) : Bool := exB K x && (emB K x "BookError" true && (kiB K x "NoPlace" b1 && (kiB K x "NoWord" b2 && (kiB K x "NoText" b3 && (kiB K x "NoBook" b4 && ktB K x "ValueError" true)))))
theorem wcB_ok {K : PySem.W.Frag} {x : Str} {b1 b2 b3 b4 : Bool} (h : wcB K x b1 b2 b3 b4 = true) : WC K (He.ga K "BookError") (He.ga K "NoPlace") (He.ga K "NoWord") (He.ga K "NoText") (He.ga K "NoBook") (He.ga K x) b1 b2 b3 b4 := by
  obtain ⟨h1, h⟩ := He.ba h
  obtain ⟨h2, h⟩ := He.ba h
  obtain ⟨h3, h⟩ := He.ba h
  obtain ⟨h4, h⟩ := He.ba h
  obtain ⟨h5, h⟩ := He.ba h
  obtain ⟨h6, h7⟩ := He.ba h
  exact ⟨exB_ok h1, of_decide_eq_true h2, of_decide_eq_true h3, of_decide_eq_true h4, of_decide_eq_true h5, of_decide_eq_true h6, of_decide_eq_true h7⟩
def exW (K : PySem.W.Frag) : Bool := wcB K "NoPlace" true false false false && (wcB K "NoWord" false true false false && (wcB K "NoText" false false true false && wcB K "NoBook" false false false true))
/-- the four classes -/
def WF (K : PySem.W.Frag) (mg : Str → Option Value) : Prop := ∃ B Pl Wo Te No, mg "BookError" = some (.ref B) ∧ mg "NoPlace" = some (.ref Pl) ∧ mg "NoWord" = some (.ref Wo) ∧ mg "NoText" = some (.ref Te) ∧ mg "NoBook" = some (.ref No) ∧
  WC K B Pl Wo Te No Pl true false false false ∧ WC K B Pl Wo Te No Wo false true false false ∧ WC K B Pl Wo Te No Te false false true false ∧ WC K B Pl Wo Te No No false false false true
theorem wf_mk {K : PySem.W.Frag} {mg : Str → Option Value} (h : exW K = true) (g0 : mg "BookError" = some (.ref (He.ga K "BookError"))) (g1 : mg "NoPlace" = some (.ref (He.ga K "NoPlace"))) (g2 : mg "NoWord" = some (.ref (He.ga K "NoWord"))) (g3 : mg "NoText" = some (.ref (He.ga K "NoText"))) (g4 : mg "NoBook" = some (.ref (He.ga K "NoBook"))) : WF K mg := by
  obtain ⟨h1, h⟩ := He.ba h
  obtain ⟨h2, h⟩ := He.ba h
  obtain ⟨h3, h4⟩ := He.ba h
  exact ⟨_, _, _, _, _, g0, g1, g2, g3, g4, wcB_ok h1, wcB_ok h2, wcB_ok h3, wcB_ok h4⟩
def rpB (s : Str) (b : Bool) : Str := if b = true then s else Str.empty
theorem mul_b (s : Str) (h : s.length ≤ 100) (b : Bool) : mulD (.str s) (.int (if b = true then 1 else 0)) = some (.str (rpB s b)) := by
  have hs : sizeLine = 16777216 := rfl
  cases b with
  | false =>
    have e : mulD (.str s) (.int 0) = if -(2 ^ 63) ≤ (0 : Int) ∧ (0 : Int) < 2 ^ 63 ∧ s.length * (0 : Int).toNat ≤ sizeLine then some (.str (strRep s (0 : Int).toNat)) else none := rfl
    have e2 : strRep s (0 : Int).toNat = Str.empty := rfl
    show mulD (.str s) (.int 0) = some (.str Str.empty)
    rw [e, if_pos ⟨by decide, by decide, by simp⟩, e2]
  | true =>
    have e : mulD (.str s) (.int 1) = if -(2 ^ 63) ≤ (1 : Int) ∧ (1 : Int) < 2 ^ 63 ∧ s.length * (1 : Int).toNat ≤ sizeLine then some (.str (strRep s (1 : Int).toNat)) else none := rfl
    have e2 : strRep s (1 : Int).toNat = s := by
      unfold strRep
      have : (1 : Int).toNat = 1 := rfl
      rw [this]
      simp [List.replicate]
    show mulD (.str s) (.int 1) = some (.str s)
    rw [e, if_pos ⟨by decide, by decide, by simp; omega⟩, e2]
def sayA (b1 b2 : Bool) : Str := rpB "place " b1 ++ rpB "word " b2
def sayB (b1 b2 b3 : Bool) : Str := sayA b1 b2 ++ rpB "text " b3
def sayC (b1 b2 b3 b4 : Bool) : Str := sayB b1 b2 b3 ++ rpB "book " b4
def sayW (b1 b2 b3 b4 : Bool) : Str := sayC b1 b2 b3 b4 ++ rpB "value" true
theorem add_s {x y : Str} (h : x.length + y.length ≤ sizeLine) : addD (.str x) (.str y) = some (.str (x ++ y)) := if_pos h
theorem say1 (b1 b2 : Bool) : addD (.str (rpB "place " b1)) (.str (rpB "word " b2)) = some (.str (sayA b1 b2)) := add_s (by cases b1 <;> cases b2 <;> decide +kernel)
theorem say2 (b1 b2 b3 : Bool) : addD (.str (sayA b1 b2)) (.str (rpB "text " b3)) = some (.str (sayB b1 b2 b3)) := add_s (by cases b1 <;> cases b2 <;> cases b3 <;> decide +kernel)
theorem say3 (b1 b2 b3 b4 : Bool) : addD (.str (sayB b1 b2 b3)) (.str (rpB "book " b4)) = some (.str (sayC b1 b2 b3 b4)) := add_s (by cases b1 <;> cases b2 <;> cases b3 <;> cases b4 <;> decide +kernel)
theorem say4 (b1 b2 b3 b4 : Bool) : addD (.str (sayC b1 b2 b3 b4)) (.str (rpB "value" true)) = some (.str (sayW b1 b2 b3 b4)) := add_s (by cases b1 <;> cases b2 <;> cases b3 <;> cases b4 <;> decide +kernel)
theorem sayP : sayW true false false false = "place value" := by decide +kernel
theorem sayO : sayW false true false false = "word value" := by decide +kernel
theorem sayT : sayW false false true false = "text value" := by decide +kernel
theorem sayN : sayW false false false true = "book value" := by decide +kernel
def tWord (k : Str) : Option Str := if k = "NoPlace" then some "place value" else if k = "NoWord" then some "word value" else if k = "NoText" then some "text value" else if k = "NoBook" then some "book value" else none
end PL

set_option Elab.async false
set_option linter.all false
set_option maxRecDepth 100000
set_option maxHeartbeats 1000000
/-! list(range(n)) -/
namespace PL
open PySem PySem.Spec PyProof.Rows L2
def listRgF : List D → Option D
  | [.int i] => if 0 ≤ i ∧ i ≤ 1000000 then some (.list (rgD 0 i.toNat)) else none
  | _ => none
section
variable {X : Cx} {E : XK} {e : Expr} {m : Rho → Rs TD} {p p2 pos pos2 : Pos}
theorem pe_one (he : DE X E e m) : PE X e (fun σ H Q => tDA X.K X.mg E (mCons m mNil) σ H fun vs H1 => ∃ v, vs = [v] ∧ Q v H1) := pe_wk he.pe fun σ H Q h => by
  obtain ⟨Be, He, B, ρ, ev, h⟩ := h
  refine ⟨Be, He, B, ρ, ev, ?_⟩
  unfold mCons mNil at h
  cases r : m ρ with
  | no => rw [r] at h; exact h.elim
  | ex c => rw [r] at h; exact h
  | ok q =>
    obtain ⟨d, t⟩ := q
    rw [r] at h
    intro v B' H' x dv
    obtain ⟨u, e1, e2⟩ := h [v] B' H' x (.cons (by
      show DV X.K σ B' H' (t ++ []) v d
      rw [List.append_nil]; exact dv) .nil)
    cases e1
    exact e2
theorem dq_rg {K : PySem.W.Frag} {B : Hp} (n : Nat) : DqAll K B (rgV 0 (n : Int)) (rgD 0 n) := by
  unfold rgV rgD
  have e : ((n : Int) - 0).toNat = n := by omega
  rw [e]
  generalize List.range n = L
  induction L with
  | nil => exact .nil
  | cons a L ih => exact .cons (.int _) ih
theorem de_listRg (hc : X.calm = true) (hm : X.mg "list" = none) (hm2 : X.mg "range" = none) (he : DE X E e m) (hg : Gl X "list" := by rfl) (hg2 : Gl X "range" := by rfl)
    (n1 : starEach [e] X.env = (false, eval e X.env) :: starEach [] X.env := by rfl) (n2 : starEach [.Call (.Name "range" p2) [e] [] pos2] X.env = (false, eval (.Call (.Name "range" p2) [e] [] pos2) X.env) :: starEach [] X.env := by rfl) :
    DE X E (.Call (.Name "list" p) [.Call (.Name "range" p2) [e] [] pos2] [] pos) (mF listRgF (mCons m mNil)) := by
  refine ⟨pe_wk (pe_listRg hc hg hm (prg_1 hg2 hm2 (pe_one he) n1) n2) fun σ H Q h => ?_, mF_tn (da_cons (X := X) (E := E) he da_nil n1).tn⟩
  have r := args_op (X := X) (E := E) (r := fun vs H1 Q => ∃ v, vs = [v] ∧ ∃ n, v = .int n ∧ RgOk 0 n ∧ ∀ q, H1 q = none → Q (.ref q) (upd H1 q (.lst (rgV 0 n)))) (da_cons (X := X) (E := E) he da_nil n1).tn (by
    intro B vs ds H Q s dv h
    unfold listRgF at h
    split at h
    · rename_i i
      split at h
      · rename_i c
        cases dv with
        | cons a r =>
          cases r
          cases a
          obtain ⟨n, rfl⟩ := Int.eq_ofNat_of_zero_le c.1
          exact ⟨_, rfl, _, rfl, RgOk.of_le (by omega) (by omega) (by omega) (by omega), new_list s h (dq_rg n)⟩
      · exact h.elim
    · exact h.elim) h
  exact r
end
end PL

set_option Elab.async false
set_option linter.all false
set_option maxRecDepth 100000
set_option maxHeartbeats 1000000
/-! the same, where an exception's context is known (None) -/
namespace PL
open PySem PySem.Spec PyProof.Rows L2
variable {K : PySem.W.Frag}
def DdN (P : Program) (w : World) (K : PySem.W.Frag) (mg : Str → Option Value) (base : Heap) (x : Str) (k : Nat) (ps : List Str) (F : List D → Rs D) : Prop :=
  ∃ f fd, mg x = some (.ref f) ∧ PySem.W.keepIn K (.ref f) = true ∧ Binds K fd ps [] ∧ FnOk P w K mg base (L2N.CX P w) k f fd ps (spD K mg F)
abbrev XfN (P : Program) (w : World) (K : PySem.W.Frag) (mg : Str → Option Value) (base : Heap) (N : List Str) (x : Str) (st : Stmt) (f : Addr) (cdv : Value) (A : Around) (outer : List Env) (s : Shared) (H : Hp) (E : XK) : Cx :=
  cxOf (L2N.CX P w) P w K mg base N x (defScope st) f cdv A outer s H E
section
variable {P : Program} {w : World} {mg : Str → Option Value} {base : Heap} {x : Str} {st : Stmt} {N ps : List Str} {kk n nn : Nat} {body : Rho → Fl}
theorem fn_okN {qual : Str} {f : Addr} {fd : FuncData} (F : Fun K x qual st f fd) (S : FnScope N ps (defScope st)) (h1 : ps.length = n) (h2 : N.length = nn)
    (hb : ∀ (cdv : Value) (A : Around) (outer : List Env) (s : Shared) (H : Hp) (E : XK), Room kk (A.deeper (envOfC qual (defScope st) s.heap.objs.size f cdv)) →
      DSs (cxOf (L2N.CX P w) P w K mg base N qual (defScope st) f cdv A outer s H E) E (defBody st) body) : FnOk P w K mg base (L2N.CX P w) (kk + 1) f fd ps (spD K mg (fnRun body nn n)) := by
  subst h1 h2
  have hN : ps.length ≤ N.length := by have := congrArg List.length S.pre; rw [List.length_take] at this; omega
  obtain ⟨oc, od, kV, doc, pm, an, cdv, ct, osl, rfl, lk, hcd⟩ := F.ex
  exact fn_of lk hcd S (fun vs H Q E h => spD_len h) fun A outer s H vs Q E hr h => ⟨_, hb cdv A outer s H E hr, body_run hN h⟩
theorem dd_atN {f : Addr} {fd : FuncData} (F : Fun K x x st f fd) (S : FnScope N ps (defScope st)) (h1 : ps.length = n) (h2 : N.length = nn)
    (hb : ∀ (f : Addr) (cdv : Value) (A : Around) (outer : List Env) (s : Shared) (H : Hp) (E : XK), Room kk (XfN P w K mg base N x st f cdv A outer s H E).A → L2N.Takes (XfN P w K mg base N x st f cdv A outer s H E) (fun cls d _ H => E cls d H) →
      PassesOwn (model P w) (XfN P w K mg base N x st f cdv A outer s H E).A (XfN P w K mg base N x st f cdv A outer s H E).env (XfN P w K mg base N x st f cdv A outer s H E).xe → Passes (L2N.CX P w) (XfN P w K mg base N x st f cdv A outer s H E) E →
      DSs (XfN P w K mg base N x st f cdv A outer s H E) E (defBody st) body) : FnOk P w K mg base (L2N.CX P w) (kk + 1) f fd ps (spD K mg (fnRun body nn n)) :=
  fn_okN F S h1 h2 fun cdv A outer s H E hr => by
    have tk : L2N.Takes (XfN P w K mg base N x st f cdv A outer s H E) (fun cls d _ H => E cls d H) := L2N.takes_of rfl rfl rfl rfl
    exact hb f cdv A outer s H E hr tk (passes_of rfl) (L2N.passes_call tk fun _ _ _ _ h => h)
theorem dd_okN (F : Df K mg x st ps) (S : FnScope N ps (defScope st)) (h1 : ps.length = n) (h2 : N.length = nn)
    (hb : ∀ (f : Addr) (cdv : Value) (A : Around) (outer : List Env) (s : Shared) (H : Hp) (E : XK), Room kk (XfN P w K mg base N x st f cdv A outer s H E).A → L2N.Takes (XfN P w K mg base N x st f cdv A outer s H E) (fun cls d _ H => E cls d H) →
      PassesOwn (model P w) (XfN P w K mg base N x st f cdv A outer s H E).A (XfN P w K mg base N x st f cdv A outer s H E).env (XfN P w K mg base N x st f cdv A outer s H E).xe → Passes (L2N.CX P w) (XfN P w K mg base N x st f cdv A outer s H E) E →
      DSs (XfN P w K mg base N x st f cdv A outer s H E) E (defBody st) body) : DdN P w K mg base x (kk + 1) ps (fnRun body nn n) := by
  obtain ⟨f, fd, F, hm, hbd⟩ := F
  exact ⟨f, fd, hm, F.kp, hbd, dd_atN F S h1 h2 hb⟩
end
section
variable {X : Cx} {E : XK} {e : Expr} {es : List Expr} {pos p : Pos} {ms : Rho → Rs (List D × List Nat)}
theorem de_fnN {kk kr : Nat} {ps : List Str} {F : List D → Rs D} {x : Str} (G : DdN X.prog X.w X.K X.mg X.base x kk ps F) (hr : Room kr X.A) (ha : DA X E (e :: es) ms) (hx : Passes (L2N.CX X.prog X.w) X E) (hle : kk ≤ kr := by decide) (hg : Gl X x := by rfl)
    (hdb : (x == ("__debug__" : Str)) = false := by decide) (he : starEach (e :: es) X.env = (false, eval e X.env) :: starEach es X.env := by rfl) (hpl : (backTo pos (starEach es X.env)).any (·.1) = false := by rfl) :
    DE X E (.Call (.Name x p) (e :: es) [] pos) (mCall F ms) := by
  obtain ⟨f, fd, h1, h2, h3, h4⟩ := G
  exact de_call h4 (hr.mono hle) hg h1 h2 h3 hx ha hdb he hpl
theorem de_fn0N {kk kr : Nat} {F : List D → Rs D} {x : Str} (G : DdN X.prog X.w X.K X.mg X.base x kk [] F) (hr : Room kr X.A) (hx : Passes (L2N.CX X.prog X.w) X E) (hle : kk ≤ kr := by decide) (hg : Gl X x := by rfl)
    (hdb : (x == ("__debug__" : Str)) = false := by decide) : DE X E (.Call (.Name x p) [] [] pos) (mCall F mNil) := by
  obtain ⟨f, fd, h1, h2, h3, h4⟩ := G
  exact de_call0 h4 (hr.mono hle) hg h1 h2 h3 hx hdb
theorem ds_rsN {x z : Str} {j : Nat} {p2 p3 : Pos} (T : ∃ C, ExcF X.K X.mg x C) (tk : L2N.Takes X (fun cls d _ H => E cls d H)) (hc : X.calm = true := by rfl) (hg : Gl X x := by rfl) (hdb : (x == ("__debug__" : Str)) = false := by decide) :
    DS X E (.Raise (some (.Call (.Name x p) [.Constant (.str z) j p2] [] pos)) none p3) (fun _ => .ex x) := by
  obtain ⟨C, T⟩ := T
  exact ps_wk (L2N.ps_raise hc tk (L2N.pmk_own PySem.F.excBase_ValueError T.q T.g T.k (raises_own T.s T.t) hg hdb)) fun D σ H h => by
    obtain ⟨Be, He, B, ρ, ev, h⟩ := h
    exact h C H T.g ev.he
end
theorem fn0N {P : Program} {w : World} {mg : Str → Option Value} {base : Heap} {k : Nat} {f : Addr} {fd : FuncData} {ps : List Str} {sp : Sp} (h : FnOk P w K mg base (L2N.CX P w) k f fd ps sp) : FnOk P w K mg base CX0 k f fd ps (fun vs H Q _ => sp vs H Q E0) :=
  ⟨fun vs H Q E q => h.len _ _ _ _ q, fun A outer s H args us vs Q E hr e0 hb hv hs => codeAny_mono (h.run A outer s H args us vs Q E0 hr e0 hb hv hs) fun r s' q => by
    cases r with
    | error e =>
      obtain ⟨_, _, _, _, _, _, _, _, _, _, _, _, z⟩ := q
      exact z
    | ok fl => cases fl <;> exact q⟩
end PL

set_option Elab.async false
set_option linter.all false
set_option maxRecDepth 100000
set_option maxHeartbeats 2000000
/-! the ends of lists and of enumerate where an exception is handled -/
namespace HotY
open PySem PySem.Spec PyProof.Rows HotX
section
variable {prog : Program} {w : World} {A : Around} {E : Value → Shared → Prop} {s : Shared}
theorem hot_ne {x1 it l : Addr} {i : Nat} {o o1 : Obj} {vs1 : Array Value} (h1 : s.heap.get? x1 = some o1) (d1 : o1.data = .fields vs1) (c1 : vs1[2]? = some .none) (ho : s.heap.get? it = some o) (hd : o.data = .fields #[.ref l, .int i 0]) : it ≠ x1 := fun e => by
  subst e
  rw [ho] at h1
  cases h1
  rw [hd] at d1
  cases d1
  simp at c1
end
section
variable {prog : Program} {w : World} {A : Around} {E : Value → Shared → Prop} {s : Shared}
theorem nextOf_list_end_hot {it l x1 : Addr} {i : Nat} {items} {Q : Value → Shared → Prop} (hot : HotAt A x1 s.heap)
    (hit : s.heap.IsListIter it l i) (hl : s.heap.IsList l items) (hx : items[i]? = none)
    (hE : ∀ h' e, Heap.ExtBut it s.heap h' → (∃ o, h'.get? e = some o ∧ o.cls = .type "StopIteration") → E (.ref e) { s with heap := h' }) :
    wpAny (model prog w) A (Builtin.SmallTypes.nextOf (.ref it)) Q E s := by
  obtain ⟨o, ho, hc, hd⟩ := id hit
  obtain ⟨ol, hol, _, nl, hdl⟩ := hl
  unfold Builtin.SmallTypes.nextOf
  refine wpAny_bind (wpAny_callSpecial?_slot (name := Str.ofString "__next__") hit.typeIs slot_listiter_next
    (wpAny_call_entry slot_listiter_next hit.typeIs entry_listiter_next ?_ (args_listiter_next _)))
  show wpAny _ _ (field (.ref it) 0 >>= _) _ _ s
  refine wpAny_bind (wpAny_field ho hd (x := .ref l) rfl ?_)
  show wpAny _ _ (if (Value.ref l == Value.none) = true then _ else _) _ _ s
  rw [if_neg (show ¬ ((Value.ref l == Value.none) = true) from Bool.false_ne_true)]
  show wpAny _ _ (field (.ref it) 1 >>= _) _ _ s
  refine wpAny_bind (wpAny_field ho hd (x := .int i 0) rfl ?_)
  show wpAny _ _ (seqItems? (.ref l) >>= _) _ _ s
  refine wpAny_bind (wpAny_seqItems hol hdl ?_)
  simp only [Int.toNat_natCast, hx]
  obtain ⟨hh, o1, vs1, h1, d1, c1⟩ := hot
  have hne := hot_ne h1 d1 c1 ho hd
  refine wpAny_bind (wpAny_rule (wpAny_bind (wpAny_setField ho hd (by simp) ?_)))
  show wpAny _ _ (newExc (.type "StopIteration") [] >>= _) _ _ _
  refine wpAny_bind ?_
  simp only [newExc, newTuple]
  refine wpAny_bind (wpAny_newObj_type ?_ (by size_fits))
  refine wpAny_bind (m := firstArgMember _ _) (wpAny_of_eq (a := Value.none) (by first | rfl | (simp only [firstArgMember]; rfl)) ?_)
  refine wpAny_newObj_type ?_ (by size_fits)
  have h2 := (Heap.get?_update_other s.heap (Obj.mapFields (·.setIfInBounds 0 Value.none)) hne).trans h1
  refine raiseNew_hot ⟨hh, o1, vs1, Heap.get?_push_of_some _ (Heap.get?_push_of_some _ h2), d1, c1⟩ (Nat.ne_of_lt (Heap.lt_size (Heap.get?_push_of_some _ h2))) (Heap.get?_push_size _ rfl) rfl (by first | (simp; done) | (simp; omega) | (simp only [Array.size_append]; simp; omega)) ?_
  refine hE _ _ (fun b o hb e => ?_) ⟨_, Heap.get?_update_self _ (Heap.get?_push_size _ rfl) rfl, rfl⟩
  have y := (Heap.get?_update_other s.heap (Obj.mapFields (·.setIfInBounds 0 Value.none)) (Ne.symm hb)).trans e
  rw [Heap.get?_update_other _ _ (Nat.ne_of_gt (Heap.lt_size (Heap.get?_push_of_some _ y)))]
  exact Heap.get?_push_of_some _ (Heap.get?_push_of_some _ y)
theorem pyNext_list_end_hot {it l x1 : Addr} {i : Nat} {items} {Q : Option Value → Shared → Prop} (hot : HotAt A x1 s.heap)
    (hit : s.heap.IsListIter it l i) (hl : s.heap.IsList l items) (hx : items[i]? = none)
    (hQ : ∀ h', Heap.ExtBut it s.heap h' → Q none { s with heap := h' }) : wpAny (model prog w) A (pyNext (.ref it)) Q E s := by
  obtain ⟨o, ho, hc, hd⟩ := id hit
  obtain ⟨ol, hol, _, nl, hdl⟩ := hl
  unfold pyNext
  refine wpAny_bind (wpAny_attempt (wpAny_callSpecial?_slot (name := Str.ofString "__next__") hit.typeIs slot_listiter_next
    (wpAny_call_entry slot_listiter_next hit.typeIs entry_listiter_next ?_ (args_listiter_next _))))
  show wpAny _ _ (field (.ref it) 0 >>= _) _ _ s
  refine wpAny_bind (wpAny_field ho hd (x := .ref l) rfl ?_)
  show wpAny _ _ (if (Value.ref l == Value.none) = true then _ else _) _ _ s
  rw [if_neg (show ¬ ((Value.ref l == Value.none) = true) from Bool.false_ne_true)]
  show wpAny _ _ (field (.ref it) 1 >>= _) _ _ s
  refine wpAny_bind (wpAny_field ho hd (x := .int i 0) rfl ?_)
  show wpAny _ _ (seqItems? (.ref l) >>= _) _ _ s
  refine wpAny_bind (wpAny_seqItems hol hdl ?_)
  simp only [Int.toNat_natCast, hx]
  obtain ⟨hh, o1, vs1, h1, d1, c1⟩ := hot
  have hne := hot_ne h1 d1 c1 ho hd
  refine wpAny_bind (wpAny_rule (wpAny_bind (wpAny_setField ho hd (by simp) ?_)))
  show wpAny _ _ (newExc (.type "StopIteration") [] >>= _) _ _ _
  refine wpAny_bind ?_
  simp only [newExc, newTuple]
  refine wpAny_bind (wpAny_newObj_type ?_ (by size_fits))
  refine wpAny_bind (m := firstArgMember _ _) (wpAny_of_eq (a := Value.none) (by first | rfl | (simp only [firstArgMember]; rfl)) ?_)
  refine wpAny_newObj_type ?_ (by size_fits)
  have h2 := (Heap.get?_update_other s.heap (Obj.mapFields (·.setIfInBounds 0 Value.none)) hne).trans h1
  refine raiseNew_hot ⟨hh, o1, vs1, Heap.get?_push_of_some _ (Heap.get?_push_of_some _ h2), d1, c1⟩ (Nat.ne_of_lt (Heap.lt_size (Heap.get?_push_of_some _ h2))) (Heap.get?_push_size _ rfl) rfl (by first | (simp; done) | (simp; omega) | (simp only [Array.size_append]; simp; omega)) ?_
  refine wpAny_bind (wpAny_isInstance (T := "StopIteration") (b := true) ⟨_, Heap.get?_update_self _ (Heap.get?_push_size _ rfl) rfl, rfl⟩ isSubtype_stop ?_)
  refine wpAny_pure (hQ _ fun b o hb e => ?_)
  have y := (Heap.get?_update_other s.heap (Obj.mapFields (·.setIfInBounds 0 Value.none)) (Ne.symm hb)).trans e
  rw [Heap.get?_update_other _ _ (Nat.ne_of_gt (Heap.lt_size (Heap.get?_push_of_some _ y)))]
  exact Heap.get?_push_of_some _ (Heap.get?_push_of_some _ y)
theorem pyNext_enum_end_hot {e it l x1 : Addr} {i : Nat} {items : Array Value} {old : Value} {Q : Option Value → Shared → Prop} (hot : HotAt A x1 s.heap)
    (he : IsEnum s.heap e it i old) (hit : s.heap.IsListIter it l i) (hl : s.heap.IsList l items) (hx : items[i]? = none)
    (hQ : ∀ h', Heap.ExtBut it s.heap h' → Q none { s with heap := h' }) : wpAny (model prog w) A (pyNext (.ref e)) Q E s := by
  have hT : s.TypeIs (.ref e) "enumerate" := ⟨_, he, rfl⟩
  unfold pyNext
  refine wpAny_bind (wpAny_attempt (wpAny_callSpecial?_slot (name := Str.ofString "__next__") hT F.slot_enumerate_next
    (wpAny_call_entry F.slot_enumerate_next hT F.entry_enumerate_next ?_ (F.args_enumerate_next_1 _))))
  show wpAny _ _ (field (.ref e) 2 >>= _) _ _ _
  refine wpAny_bind (wpAny_field he rfl (x := .ref it) rfl ?_)
  refine wpAny_bind (nextOf_list_end_hot (x1 := x1) hot hit hl hx fun h' x he' hx' => ?_)
  obtain ⟨o, ho, hc⟩ := hx'
  refine wpAny_bind (wpAny_isInstance (T := "StopIteration") (b := true) ⟨o, ho, hc⟩ isSubtype_stop ?_)
  exact wpAny_pure (hQ _ he')
end
end HotY

set_option Elab.async false
set_option linter.all false
set_option maxRecDepth 100000
set_option maxHeartbeats 2000000
/-! defs where an exception is handled -/
namespace L2H
open PySem PySem.Spec PyProof.Rows L2 HotX HotY
theorem RoomH.units {k : Nat} {A : Around} (hr : RoomH k A) : A.units + 64 < cLine := by have := hr.un; omega
theorem turn_listH {P : Program} {w : World} {K : PySem.W.Frag} {tg : Expr} (a it : Addr) : TurnH P w K tg (Itl K a) [it] it (fun i h => h.IsListIter it a i) where
  mem := by simp
  obj := fun i h st b hb => by
    have e : b = it := by simpa using hb
    subst e
    obtain ⟨o, e, c, d⟩ := st
    exact ⟨o, e, fun v z => by rw [d] at z; cases z⟩
  keep := fun i h h' st k => st.at fun o e => k it (by simp) o e
  item := by
    intro X hP hw hK hc i pins s σ H E I hf st hg
    subst hP hw hK
    obtain ⟨xs, x, hq, hx⟩ := hg
    obtain ⟨its, rv, p, hz⟩ := I.list hq
    obtain ⟨u, hu, ru⟩ := rv.get hx
    obtain ⟨f0, f1, f2, f3, f4, f5⟩ := hf it (by simp)
    refine wpAny_pyNext_list_item st p.isList (x := u) (by simpa using hu) fun h' st' sb => ?_
    have I1 : Inv X pins σ H { s with heap := h' } := I.turned (t' := s.toks) (fun b o hb e => (sb.2 b hb).trans e) f0 f1 f3 f4 f5
    obtain ⟨o, e, c, d⟩ := id st'
    exact ⟨u, rfl, go_of (s := { s with heap := h' }) e c d (by decide) ⟨x, H, I1, ru, ⟨rfl, fun ys hy => by rw [I.list_inj hy hq]; exact hx⟩, st', fun b hb => (hf b hb).1⟩⟩
  done := by
    intro X hP hw hK hc i pins s σ H E I hf st hg
    subst hP hw hK
    obtain ⟨xs, hq, hx⟩ := hg
    obtain ⟨its, rv, p, hz⟩ := I.list hq
    obtain ⟨f0, f1, f2, f3, f4, f5⟩ := hf it (by simp)
    have hl := rv.length
    obtain ⟨x1, hot⟩ := hc.at I
    exact pyNext_list_end_hot hot st p.isList (by simp; omega) fun h' eb => ⟨rfl, I.turned (t' := s.toks) (fun b o hb e => eb b o hb e) f0 f1 f3 f4 f5⟩
  self := fun _ _ _ _ _ st h => wpAny_pyIter_listiter st h
theorem turn_enumH {P : Program} {w : World} {K : PySem.W.Frag} {elts : List Expr} {kk : Nat} {tpos : Pos} (a e it : Addr) :
    TurnH P w K (.Tuple elts kk tpos) (Ite K a) [e, it] e (fun i h => (∃ old, IsEnum h e it ((i : Nat) : Int) old) ∧ h.IsListIter it a i ∧ e ≠ it) where
  mem := by simp
  obj := fun i h st b hb => by
    obtain ⟨⟨old, he⟩, ⟨o, ho, hc, hd⟩, _⟩ := st
    have e' : b = e ∨ b = it := by simpa using hb
    rcases e' with z | z
    · rw [z]; exact ⟨_, he, fun v q => nomatch q⟩
    · rw [z]; exact ⟨o, ho, fun v q => by rw [hd] at q; cases q⟩
  keep := fun i h h' st k => let ⟨⟨old, he⟩, hi, hne⟩ := st; ⟨⟨old, k e (by simp) _ he⟩, hi.at fun o q => k it (by simp) o q, hne⟩
  item := by
    intro X hP hw hK hc i pins s σ H E I hf st hg
    subst hP hw hK
    obtain ⟨⟨old, he⟩, hit, hne⟩ := st
    obtain ⟨xs, x, hq, hx⟩ := hg
    obtain ⟨its, rv, p, hz⟩ := I.list hq
    obtain ⟨u, hu, ru⟩ := rv.get hx
    have hel : e < s.heap.objs.size := Heap.lt_size he
    have hil : it < s.heap.objs.size := by obtain ⟨_, q, _⟩ := hit; exact Heap.lt_size q
    refine wpAny_pyNext_enum_item he hit p.isList (x := u) (by simpa using hu) hne fun h' ho hit' hT hsz hk => ?_
    refine ⟨_, rfl, wpAny_letOwnedTupleGo_enum (s := { s with heap := h', toks := s.toks + 1 }) ho fun h'' he' sb => ?_⟩
    have hT2 : h''.get? s.heap.objs.size = some { cls := .type "tuple", data := .seq #[.int i s.toks, u] } := (sb.2 _ (Nat.ne_of_gt hel)).trans hT
    have new : ObjOk X.prog X.w (upd H s.heap.objs.size (.tup [.int (i : Nat), x])) h'' s.heap.objs.size (.tup [.int (i : Nat), x]) :=
      ⟨by show 2 ≤ sizeLine; decide, [.int i s.toks, u], .cons ⟨_, rfl⟩ (.cons ru .nil), ⟨_, hT2, rfl, _, rfl⟩⟩
    have I1 : Inv X pins σ (upd H s.heap.objs.size (.tup [.int (i : Nat), x])) { s with heap := h'', toks := s.toks + 1 } :=
      I.turnedNew (ch := [e, it]) (fun b ob hb q => (sb.2 b (fun z => hb (by simp [z]))).trans (hk b ob (fun z => hb (by simp [z])) (fun z => hb (by simp [z])) q)) hf (Nat.le_refl _) new
    refine ⟨.ref s.heap.objs.size, _, I1, rfl, ⟨_, x, rfl, I.hok.fresh (Nat.le_refl _), rfl, fun ys hy => by rw [I.list_inj hy hq]; exact hx⟩, ⟨⟨u, ?_⟩, hit'.at fun o q => (sb.2 it (Ne.symm hne)).trans q, hne⟩, fun b hb => ?_⟩
    · have e1 : ((i + 1 : Nat) : Int) = (i : Int) + 1 := by omega
      rw [e1]; exact he'
    · have hb' : b < s.heap.objs.size := by
        have e' : b = e ∨ b = it := by simpa using hb
        rcases e' with z | z
        · rw [z]; exact hel
        · rw [z]; exact hil
      rw [upd_ne (Nat.ne_of_lt hb')]
      exact (hf b hb).1
  done := by
    intro X hP hw hK hc i pins s σ H E I hf st hg
    subst hP hw hK
    obtain ⟨⟨old, he⟩, hit, hne⟩ := st
    obtain ⟨xs, hq, hx⟩ := hg
    obtain ⟨its, rv, p, hz⟩ := I.list hq
    obtain ⟨f0, f1, f2, f3, f4, f5⟩ := hf it (by simp)
    have hl := rv.length
    obtain ⟨x1, hot⟩ := hc.at I
    exact pyNext_enum_end_hot hot he hit p.isList (by simp; omega) fun h' eb => ⟨rfl, I.turned (t' := s.toks) (fun b o hb q => eb b o hb q) f0 f1 f3 f4 f5⟩
  self := fun A i s Q E st h => let ⟨⟨_, he⟩, _⟩ := st; wpAny_pyIter_enum he h
theorem pi_listH {X : Cx} {tg l : Expr} {tl : TE} (hl : PE X l tl) : PIH X tg l (iList X.K tl) := by
  refine ⟨fun pins s σ H R I h => ?_⟩
  refine thn (hl.run pins s σ H _ I h) fun v s1 ⟨x, H1, I1, r1, q1⟩ => ?_
  obtain ⟨a, e, ⟨xs, hq⟩, q⟩ := q1
  subst e
  cases r1
  obtain ⟨its, rv, p, hz⟩ := I1.list hq
  refine wpAny_pyIter_list p.isList ?_
  refine ⟨s1.heap.objs.size, [s1.heap.objs.size], _, _, H1, rfl, I1.kept (t' := s1.toks) fun b o e => Heap.get?_push_of_some _ e, turn_listH a _, ⟨_, Heap.get?_push_size _ rfl, rfl, rfl⟩, fun b hb => ?_, q⟩
  have e : b = s1.heap.objs.size := by simpa using hb
  subst e
  exact I1.fpOk (Nat.le_refl _) (I1.hok.fresh (Nat.le_refl _))
theorem pi_enumH {X : Cx} {e : Expr} {ta : TA} {p pos tpos : Pos} {elts : List Expr} {kk : Nat} (hg : Gl X "enumerate") (hm : X.mg "enumerate" = none) (ha : PA X [e] ta) (hs : starEach [e] X.env = [(false, eval e X.env)] := by rfl) :
    PIH X (.Tuple elts kk tpos) (.Call (.Name "enumerate" p) [e] [] pos) (iEnum X.K ta) := by
  refine ⟨fun pins s σ H R I h => ?_⟩
  refine Call_ (ld_blt I hg hm boot_enumerate (PyProof.Rows.callWith_type1 (thn (ha.run pos pins s σ H _ I h) fun us s1 ⟨vs, H1, I1, r1, q1⟩ => ?_) hs rfl))
  obtain ⟨a, xs, ex, hq, q⟩ := q1
  subst ex
  cases r1 with
  | cons r rr =>
    cases rr
    cases r
    obtain ⟨its, rv, p', hz⟩ := I1.list hq
    refine call_enumerate_list p'.isList fun h' he hit hsz hk => wpAny_pyIter_enum he ?_
    have I2 : Inv X pins σ H1 { s1 with heap := h' } := I1.kept (t' := s1.toks) hk
    refine ⟨s1.heap.objs.size + 1, [s1.heap.objs.size + 1, s1.heap.objs.size], _, _, H1, rfl, I2, turn_enumH a (s1.heap.objs.size + 1) s1.heap.objs.size, ⟨⟨.none, he⟩, hit, Nat.succ_ne_self _⟩, fun b hb => ?_, q⟩
    have e' : b = s1.heap.objs.size + 1 ∨ b = s1.heap.objs.size := by simpa using hb
    have hle : s1.heap.objs.size ≤ b := by
      rcases e' with z | z
      · rw [z]; exact Nat.le_add_right _ _
      · rw [z]; exact Nat.le_refl _
    exact I1.fpOk hle (I1.hok.fresh hle)
end L2H
namespace PL
open PySem PySem.Spec PyProof.Rows L2 L2H
variable {K : PySem.W.Frag}
theorem pih_wk {X : Cx} {tg iter : Expr} {t t' : TI} (h : PIH X tg iter t) (w : ∀ σ H R, t' σ H R → t σ H R) : PIH X tg iter t' := ⟨fun pins s σ H R I q => h.run pins s σ H R I (w σ H R q)⟩
structure DIH (X : Cx) (E : XK) (tg iter : Expr) (m : Rho → Rs (List D × List Nat)) : Prop where
  pi : PIH X tg iter (tDI X.K X.mg E m)
  tn : TntA m
def mIterL (m : Rho → Rs TD) : Rho → Rs (List D × List Nat) := fun ρ => (m ρ).bind fun q => match q.1 with
  | .list ds => .ok (ds, q.2)
  | _ => .no
section
variable {X : Cx} {E : XK} {e a b c tg iter : Expr} {es : List Expr} {pos p : Pos} {m ma mb mc : Rho → Rs TD} {ms mi : Rho → Rs (List D × List Nat)} {st : Stmt} {rest : List Stmt} {k l : Rho → Fl}
theorem di_eH (he : DE X E e m) : DIH X E tg e (mIterL m) := by
  refine ⟨pih_wk (pi_listH (tg := tg) he.pe) fun σ H R h => ?_, fun ρ d t q => ?_⟩
  · obtain ⟨Be, He, B, ρ, ev, h⟩ := h
    unfold mIterL at h
    cases r : m ρ with
    | no => rw [r] at h; exact h.elim
    | ex c => rw [r] at h; exact ⟨Be, He, B, ρ, ev, by rw [r]; exact h⟩
    | ok q =>
      obtain ⟨d, t⟩ := q
      rw [r] at h
      have ot := he.tn ρ _ _ r
      cases d with
      | list ds =>
        refine ⟨Be, He, B, ρ, ev, ?_⟩
        rw [r]
        intro v B1 H1 x1 dv
        cases dv with
        | lst rr al => exact ⟨_, rfl, ⟨_, .inl (Same.rd (ev.up x1).ba_h rr)⟩, h _ B1 H1 x1 (j_list rr al)⟩
      | _ => exact h.elim
  · unfold mIterL at q
    cases r : m ρ with
    | no => rw [r] at q; cases q
    | ex c => rw [r] at q; cases q
    | ok x =>
      rw [r] at q
      dsimp only [Rs.bind] at q
      have := he.tn ρ _ _ r
      split at q <;> first | (cases q; done) | (cases q; exact this)
theorem di_enumH {elts : List Expr} {kk : Nat} {tpos : Pos} (hg : Gl X "enumerate") (hm : X.mg "enumerate" = none) (ha : DA X E [e] ms) (hs : starEach [e] X.env = [(false, eval e X.env)] := by rfl) : DIH X E (.Tuple elts kk tpos) (.Call (.Name "enumerate" p) [e] [] pos) (mEnum ms) := by
  refine ⟨pih_wk (pi_enumH hg hm ha.pa hs) fun σ H R h => ?_, (di_enum (X := X) (E := E) (elts := elts) (kk := kk) (tpos := tpos) (p := p) (pos := pos) hg hm ha hs).tn⟩
  obtain ⟨Be, He, B, ρ, ev, h⟩ := h
  refine ⟨Be, He, B, ρ, ev, ?_⟩
  unfold mEnum at h
  cases r : ms ρ with
  | no => rw [r] at h; exact h
  | ex c => rw [r] at h; exact h
  | ok q =>
    obtain ⟨ds, t⟩ := q
    rw [r] at h
    dsimp only [Rs.bind] at h
    intro vs B1 H1 x1 dv
    split at h
    · cases dv with
      | cons d1 d2 =>
        cases d2
        cases d1 with
        | lst rr al => exact ⟨_, _, rfl, .inl (Same.rd (ev.up x1).ba_h rr), h _ B1 H1 x1 (j_enum rr al)⟩
    · exact h.elim
theorem ds_forH {body : List Stmt} {g : D → Rho → Option Rho} {is : List Nat} (hp : PassesOwn (model X.prog X.w) X.A X.env X.xe) (hc : HotC X) (hi : DIH X E tg iter mi) (hg : DG X tg g is) (hb : DSs X E body k)
    (hs : ∀ x, foldedSetIterable iter X.env x = pure x := by intro _; rfl) : DS X E (.For tg iter body [] pos) (mFor mi g k) := ps_wk (ps_forH hp hc hi.pi hg hb hs) fun D σ H h => by
  obtain ⟨Be, He, B, ρ, ev, h⟩ := h
  refine ⟨Be, He, B, ρ, ev, ?_⟩
  unfold mFor at h
  cases r : mi ρ with
  | no => rw [r] at h; exact h
  | ex c => rw [r] at h; exact h
  | ok q =>
    obtain ⟨ds, t⟩ := q
    rw [r] at h
    dsimp only [Rs.fl] at h
    intro J B1 H1 x1 jo
    have ot := hi.tn ρ _ _ r
    have ev1 := (ev.up x1).freeze ot
    have s1 : Same B (Ba t σ B1 H1) := x1.b.trans ((ev.up x1).b_ba ot)
    have h0 : DnS X.K X.mg E Be He (Ba t σ B1 H1) (forL g k ds (frzT t ρ)) D := h.mono s1
    generalize Ba t σ B1 H1 = Bx at ev1 jo h0
    let W : Nat → Nat → L2.St → Hp → Prop := fun i n σ H => n = ds.length - i ∧ i ≤ ds.length ∧ ∃ B2 ρ2, Ev X.K Be He B2 H σ ρ2 ∧ Same Bx B2 ∧ DnS X.K X.mg E Be He B2 (forL g k (ds.drop i) ρ2) D
    refine ⟨W, ⟨ds.length, rfl, Nat.zero_le _, Bx, _, ev1, .refl _, h0⟩, ?_⟩
    rintro i n σ2 H2 ⟨rfl, hle, B2, ρ2, ev2, s2, h2⟩
    by_cases hlt : i < ds.length
    · right
      rw [List.drop_eq_getElem_cons hlt] at h2
      have e0 : ds[i]? = some ds[i] := List.getElem?_eq_getElem hlt
      obtain ⟨go, yld⟩ := (jo i B2 H2 s2 ev2.bh).1 _ e0
      refine ⟨go, fun σ' H' => ∃ B3 ρ3, Ev X.K Be He B3 H' σ' ρ3 ∧ Same Bx B3 ∧ DnS X.K X.mg E Be He B3 (forL g k (ds.drop (i + 1)) ρ3) D, fun σ' H' ⟨B3, ρ3, q1, q2, q3⟩ => ⟨ds.length - (i + 1), by omega, rfl, hlt, B3, ρ3, q1, q2, q3⟩, fun x H' y => ?_⟩
      obtain ⟨B', x', dq⟩ := yld x H' y
      have ev3 := ev2.up x'
      unfold forL at h2
      cases q : g ds[i] ρ2 with
      | none => rw [q] at h2; exact h2.elim
      | some ρ3 =>
        rw [q] at h2
        dsimp only [Op.fl] at h2
        refine ⟨Be, He, B', ρ2, _, ρ3, ev3, dq, q, fun σ4 ev4 _ _ => ⟨Be, He, B', ρ3, ev4, ?_⟩⟩
        cases q2 : k ρ3 with
        | nx ρ4 => rw [q2] at h2; exact fun σ5 B5 H5 ev5 s5 => ⟨B5, ρ4, ev5, (s2.trans x'.b).trans s5, h2.mono (x'.b.trans s5)⟩
        | ct ρ4 => rw [q2] at h2; exact fun σ5 B5 H5 ev5 s5 => ⟨B5, ρ4, ev5, (s2.trans x'.b).trans s5, h2.mono (x'.b.trans s5)⟩
        | bk ρ4 => rw [q2] at h2; exact DnS.mono (f := .nx ρ4) x'.b h2
        | rt d => rw [q2] at h2; exact h2
        | ex c => rw [q2] at h2; exact h2
        | no => rw [q2] at h2; exact h2
    · left
      have e : i = ds.length := by omega
      subst e
      rw [List.drop_length] at h2
      exact ⟨(jo _ B2 H2 s2 ev2.bh).2 (Nat.le_refl _), h2 σ2 B2 H2 ev2 (.refl _)⟩
theorem ds_rsH {x z : Str} {j : Nat} {p2 p3 : Pos} (T : ∃ C, ExcF X.K X.mg x C) (tk : Takes X (fun cls d _ H => E cls d H)) (hc : HotC X) (hg : Gl X x := by rfl) (hdb : (x == ("__debug__" : Str)) = false := by decide) :
    DS X E (.Raise (some (.Call (.Name x p) [.Constant (.str z) j p2] [] pos)) none p3) (fun _ => .ex x) := by
  obtain ⟨C, T⟩ := T
  exact ps_wk (L2H.ps_raiseH hc tk (L2N.pmk_own PySem.F.excBase_ValueError T.q T.g T.k (raises_own T.s T.t) hg hdb)) fun D σ H h => by
    obtain ⟨Be, He, B, ρ, ev, h⟩ := h
    exact h C H T.g ev.he
end
/-- the def at the name x computes F, where an exception is handled -/
def DdH (P : Program) (w : World) (K : PySem.W.Frag) (mg : Str → Option Value) (base : Heap) (x : Str) (k : Nat) (ps : List Str) (F : List D → Rs D) : Prop :=
  ∃ f fd, mg x = some (.ref f) ∧ PySem.W.keepIn K (.ref f) = true ∧ Binds K fd ps [] ∧ FnH P w K mg base (L2.CX P w) k f fd ps (spD K mg F)
abbrev XfH (P : Program) (w : World) (K : PySem.W.Frag) (mg : Str → Option Value) (base : Heap) (N : List Str) (x : Str) (st : Stmt) (f : Addr) (cdv : Value) (A : Around) (outer : List Env) (s : Shared) (H : Hp) (E : XK) (p : Addr × Obj) : Cx :=
  cxH (L2.CX P w) P w K mg base N x (defScope st) f cdv A outer s H E p
section
variable {P : Program} {w : World} {mg : Str → Option Value} {base : Heap} {x : Str} {st : Stmt} {N ps : List Str} {kk n nn : Nat} {body : Rho → Fl}
theorem dd_okH (F : Df K mg x st ps) (S : FnScope N ps (defScope st)) (h1 : ps.length = n) (h2 : N.length = nn)
    (hb : ∀ (f : Addr) (cdv : Value) (A : Around) (outer : List Env) (s : Shared) (H : Hp) (E : XK) (p : Addr × Obj), HotC (XfH P w K mg base N x st f cdv A outer s H E p) → RoomH kk (XfH P w K mg base N x st f cdv A outer s H E p).A → Takes (XfH P w K mg base N x st f cdv A outer s H E p) (fun cls d _ H => E cls d H) →
      PassesOwn (model P w) (XfH P w K mg base N x st f cdv A outer s H E p).A (XfH P w K mg base N x st f cdv A outer s H E p).env (XfH P w K mg base N x st f cdv A outer s H E p).xe → Passes (L2.CX P w) (XfH P w K mg base N x st f cdv A outer s H E p) E →
      DSs (XfH P w K mg base N x st f cdv A outer s H E p) E (defBody st) body) : DdH P w K mg base x (kk + 1) ps (fnRun body nn n) := by
  obtain ⟨f, fd, F, hm, hbd⟩ := F
  refine ⟨f, fd, hm, F.kp, hbd, ?_⟩
  subst h1 h2
  have hN : ps.length ≤ N.length := by have := congrArg List.length S.pre; rw [List.length_take] at this; omega
  obtain ⟨oc, od, kV, doc, pm, an, cdv, ct, osl, rfl, lk, hcd⟩ := F.ex
  refine fn_ofH lk hcd S (fun vs H Q E h => spD_len h) fun A outer s H vs Q E p hot hr h => ?_
  have tk : Takes (XfH P w K mg base N x st f cdv A outer s H E p) (fun cls d _ H => E cls d H) := takes_of rfl rfl rfl rfl
  have hc : HotC (XfH P w K mg base N x st f cdv A outer s H E p) := ⟨p, hot, List.mem_singleton.mpr rfl⟩
  exact ⟨_, hb f cdv A outer s H E p hc hr tk (passes_of rfl) (passes_call tk fun _ _ _ _ h => h), body_run hN h⟩
end
section
variable {X : Cx} {E : XK} {e : Expr} {es : List Expr} {pos p : Pos} {ms : Rho → Rs (List D × List Nat)}
theorem de_fnH {kk kr : Nat} {ps : List Str} {F : List D → Rs D} {x : Str} (G : DdH X.prog X.w X.K X.mg X.base x kk ps F) (hc : HotC X) (hr : RoomH kr X.A) (ha : DA X E (e :: es) ms) (hx : Passes (L2.CX X.prog X.w) X E) (hle : kk ≤ kr := by decide) (hg : Gl X x := by rfl)
    (hdb : (x == ("__debug__" : Str)) = false := by decide) (he : starEach (e :: es) X.env = (false, eval e X.env) :: starEach es X.env := by rfl) (hpl : (backTo pos (starEach es X.env)).any (·.1) = false := by rfl) :
    DE X E (.Call (.Name x p) (e :: es) [] pos) (mCall F ms) := by
  obtain ⟨f, fd, h1, h2, h3, h4⟩ := G
  refine ⟨pe_wk (L2H.pe_callH (E := fun _ => E) h4 (hr.mono hle) hc hg h1 h2 h3 (fun σ pins H s e s' I c => hx pins σ H s e s' I c) ha.pa hdb he hpl) fun σ H Q h => call_run ha.tn h, mCall_tn ha.tn⟩
end
end PL

set_option Elab.async false
set_option linter.all false
set_option maxRecDepth 100000
set_option maxHeartbeats 2000000
/-! try: call / except C1: try: call / except C2 as e: a text about e -/
namespace PL
open PySem PySem.Spec PyProof.Rows L2 L2H
def ET : XK := fun _ _ _ => True
section
variable {X : Cx} {e : Expr} {es : List Expr} {pos p pe' : Pos} {ms : Rho → Rs (List D × List Nat)}
theorem ps_callS {kk kr : Nat} {ps : List Str} {F : List D → Rs D} {x : Str} {W : WX} (G : DdN X.prog X.w X.K X.mg X.base x kk ps F) (hr : Room kr X.A) (tk : L2N.Takes X W) (ha : DA X ET (e :: es) ms) (hle : kk ≤ kr := by decide) (hg : Gl X x := by rfl)
    (hdb : (x == ("__debug__" : Str)) = false := by decide) (he : starEach (e :: es) X.env = (false, eval e X.env) :: starEach es X.env := by rfl) (hpl : (backTo pos (starEach es X.env)).any (·.1) = false := by rfl) (hsw : swapsWith (.Call (.Name x p) (e :: es) [] pos) none pe'.line X.env = pure false := by rfl) :
    PS X (.Expr (.Call (.Name x p) (e :: es) [] pos) pe') (fun D σ H => tDA X.K X.mg ET ms σ H fun vs H1 => spD X.K X.mg F vs H1 (fun _ H2 => D.nx σ H2) (WE W σ)) := by
  obtain ⟨f, fd, h1, h2, h3, h4⟩ := G
  exact ps_wk (ps_expr (pe_callS h4 (hr.mono hle) hg h1 h2 h3 (fun σ => L2N.passAt tk σ) ha.pa hdb he hpl) hsw) fun D σ H h => h
theorem ps_callSH {kk kr : Nat} {ps : List Str} {F : List D → Rs D} {x : Str} {W : WX} (G : DdH X.prog X.w X.K X.mg X.base x kk ps F) (hc : HotC X) (hr : RoomH kr X.A) (tk : Takes X W) (ha : DA X ET (e :: es) ms) (hle : kk ≤ kr := by decide) (hg : Gl X x := by rfl)
    (hdb : (x == ("__debug__" : Str)) = false := by decide) (he : starEach (e :: es) X.env = (false, eval e X.env) :: starEach es X.env := by rfl) (hpl : (backTo pos (starEach es X.env)).any (·.1) = false := by rfl) (hsw : swapsWith (.Call (.Name x p) (e :: es) [] pos) none pe'.line X.env = pure false := by rfl) :
    PS X (.Expr (.Call (.Name x p) (e :: es) [] pos) pe') (fun D σ H => tDA X.K X.mg ET ms σ H fun vs H1 => spD X.K X.mg F vs H1 (fun _ H2 => D.nx σ H2) (WE W σ)) := by
  obtain ⟨f, fd, h1, h2, h3, h4⟩ := G
  exact ps_wk (ps_expr (L2H.pe_callH h4 (hr.mono hle) hc hg h1 h2 h3 (fun σ => L2.passAt tk σ) ha.pa hdb he hpl) hsw) fun D σ H h => h
end
def mRefW (k : Str) (F1 : List D → Rs D) (ms1 : Rho → Rs (List D × List Nat)) (F2 : List D → Rs D) (ms2 : Rho → Rs (List D × List Nat)) : Rho → Fl := fun ρ => match ms1 ρ with
  | .ok q => (match F1 q.1 with
    | .ok _ => .nx ρ
    | .ex k1 => if k1 = k then (match ms2 ρ with
      | .ok q2 => (match F2 q2.1 with
        | .ex k2 => if k2 = k then .rt (.bool true) else .no
        | _ => .no)
      | _ => .no) else .no
    | .no => .no)
  | _ => .no
def tR (i : Nat) (a : Addr) (n : Nat) : TS := fun D σ H => (σ.length = n ∧ σ[i]? = some (some (.ref a))) ∧ ∀ H', Same H H' → D.rt (.bl true) H'
theorem ps_wkI {X : Cx} {e : Stmt} {t t' : TS} (h : PS X e t) (w : ∀ D σ H, σ.length = X.N.length → t' D σ H → t D σ H) : PS X e t' := ⟨fun pins s σ H Q I q => h.run pins s σ H Q I (w Q σ H I.len q)⟩
theorem Ev.same {K : PySem.W.Frag} {Be He B H H' : Hp} {σ : L2.St} {ρ : Rho} (ev : Ev K Be He B H σ ρ) (s : Same H H') : Ev K Be He B H' σ ρ := ev.up ⟨.refl _, s, ev.bh.trans s, fun _ h _ => .inl h⟩
theorem ds_refused {X : Cx} {E : XK} {x1 x2 n k : Str} {c1 c2 C : Addr} {i : Nat} {e1 e2 : Expr} {b₀ : Stmt} {suite : List Stmt} {p1 p2 np np2 pos pos' pos2 pos3 : Pos} {F1 F2 : List D → Rs D} {ms1 ms2 : Rho → Rs (List D × List Nat)}
    (hs : X.stack = X.env :: X.outer) (hf : X.env.frame = some X.env.locals) (hN : X.N.Nodup) (hi : X.N[i]? = some n) (hln : X.env.kindOf n = some .local) (hc1 : Names X x1 (.ref c1)) (hc2 : Names X x2 (.ref c2)) (tk : L2N.Takes X (fun cls d _ H => E cls d H))
    (t1 : TntA ms1) (t2 : TntA ms2)
    (hb1 : ∀ (W : WX) (pn : List (Addr × Obj)) (xe : Value → Shared → Prop), L2N.Takes (X.tr pn xe) W → PS (X.tr pn xe) (.Expr e1 p1) (fun D σ H => tDA X.K X.mg ET ms1 σ H fun vs H1 => spD X.K X.mg F1 vs H1 (fun _ H2 => D.nx σ H2) (WE W σ)))
    (hb2 : ∀ (a : Addr) (oe : Obj) (pn : List (Addr × Obj)) (W : WX) (pn2 : List (Addr × Obj)) (xe : Value → Shared → Prop), HotC ((X.suite a ((a, oe) :: pn)).tr pn2 xe) → L2.Takes ((X.suite a ((a, oe) :: pn)).tr pn2 xe) W → PS ((X.suite a ((a, oe) :: pn)).tr pn2 xe) (.Expr e2 p2) (fun D σ H => tDA X.K X.mg ET ms2 σ H fun vs H1 => spD X.K X.mg F2 vs H1 (fun _ H2 => D.nx σ H2) (WE W σ)))
    (gC : X.mg k = some (.ref C)) (m1 : PySem.W.exmOne X.K (.ref C) (.ref c1) = some true) (m2 : PySem.W.exmOne X.K (.ref C) (.ref c2) = some true)
    (hsu : ∀ (a : Addr) (oe : Obj) (pn : List (Addr × Obj)) (a2 : Addr) (oe2 : Obj) (pn2 : List (Addr × Obj)), Zc (.ref C) none oe2 → (∃ vs, oe2.data = .fields vs) → PSs ((X.suite a ((a, oe) :: pn)).suite a2 ((a2, oe2) :: pn2)) (b₀ :: suite) (tR i a2 X.N.length)) :
    DS X E (.Try [.Expr e1 p1] [.ExceptHandler (some (.Name x1 np)) none [.Try [.Expr e2 p2] [.ExceptHandler (some (.Name x2 np2)) (some n) (b₀ :: suite) pos'] [] [] pos2] pos3] [] [] pos) (mRefW k F1 ms1 F2 ms2) := by
  have hil : i < X.N.length := (List.getElem?_eq_some_iff.mp hi).1
  let ts1 : Addr → Value → Option Addr → TS := fun a cls d D σ H => cls = .ref C ∧ d = none ∧ σ.length = X.N.length ∧ ∃ Be He B ρ ds t, Ev X.K Be He B H σ ρ ∧ ms2 ρ = .ok (ds, t) ∧ F2 ds = .ex k ∧ ∀ H', Same He H' → D.rt (.bl true) H'
  have hsu1 : ∀ (a : Addr) (oe : Obj) (cls : Value) (d : Option Addr) (pn : List (Addr × Obj)), L2N.Zn cls d oe → (∃ vs, oe.data = .fields vs) → PSs (X.suite a ((a, oe) :: pn)) [.Try [.Expr e2 p2] [.ExceptHandler (some (.Name x2 np2)) (some n) (b₀ :: suite) pos'] [] [] pos2] (ts1 a cls d) := by
    intro a oe cls d pn hz hv
    obtain ⟨vs, hvs⟩ := hv
    refine pss_wk (pss_one (L2H.ps_try_asH (X := X.suite a ((a, oe) :: pn)) (Wout := fun _ _ _ _ => False) (tb := fun W D σ H => tDA X.K X.mg ET ms2 σ H fun vs H1 => spD X.K X.mg F2 vs H1 (fun _ H2 => D.nx σ H2) (WE W σ)) (ts := fun a2 cls2 d2 D σ H => cls2 = .ref C ∧ d2 = none ∧ tR i a2 X.N.length D σ H)
      hs hf hN hi hln hc2 (fun u s' x => by obtain ⟨_, _, _, _, _, _, _, _, _, _, _, _, _, _, _, _, w⟩ := x; exact w.elim) (fun W pn2 xe sub t _ => pss_one (hb2 a oe pn W pn2 xe ⟨(a, oe), ⟨rfl, vs, hvs, hz.2.2 vs hvs⟩, sub _ List.mem_cons_self⟩ t)) (fun a2 oe2 cls2 d2 pn2 hz2 hv2 => ⟨fun pins s σ H D I h => ?_⟩))) fun D σ H h => ?_
    · obtain ⟨rfl, rfl, h⟩ := h
      exact (hsu a oe pn a2 oe2 pn2 hz2 hv2).run pins s σ H D I h
    · obtain ⟨rfl, rfl, hl, Be, He, B, ρ, ds, t, ev, q1, q2, q3⟩ := h
      refine ⟨Be, He, B, ρ, ev, ?_⟩
      rw [q1]
      intro vs B1 H1 x1 dv
      refine ⟨Ba t σ B1 H1, ds, (ev.up x1).ba_h, dv, ?_⟩
      rw [q2]
      intro C' H' hm sm
      have e : C' = C := by rw [gC] at hm; cases hm; rfl
      subst e
      exact ⟨true, m2, fun _ a2 _ => ⟨rfl, rfl, ⟨by simp [hl], by simp [hl, hil]⟩, fun H'' s2 => q3 _ (((ev.he.trans x1.h).trans sm).trans s2)⟩, fun z => by cases z⟩
  refine ps_wkI (L2N.ps_try_many (Wout := fun cls d _ H => E cls d H) (l := [(.ref c1, ts1)]) (tb := fun W D σ H => tDA X.K X.mg ET ms1 σ H fun vs H1 => spD X.K X.mg F1 vs H1 (fun _ H2 => D.nx σ H2) (WE W σ)) hs hf tk (fun W pn xe t _ => pss_one (hb1 W pn xe t)) (.cons hc1 hsu1 .nil)) fun D σ H len h => ?_
  obtain ⟨Be, He, B, ρ, ev, h⟩ := h
  refine ⟨Be, He, B, ρ, ev, ?_⟩
  unfold mRefW at h
  cases r : ms1 ρ with
  | no => rw [r] at h; exact h.elim
  | ex c => rw [r] at h; exact h.elim
  | ok q =>
    obtain ⟨ds, t⟩ := q
    rw [r] at h
    dsimp only at h
    have ot := t1 ρ _ _ r
    intro vs B1 H1 x1 dv
    refine ⟨Ba t σ B1 H1, ds, (ev.up x1).ba_h, dv, ?_⟩
    cases r2 : F1 ds with
    | no => rw [r2] at h; exact h.elim
    | ok d =>
      rw [r2] at h
      refine fin_run (mg := X.mg) (E := ET) ev x1 ot ?_
      intro v B' H' x' _
      exact h σ B' H' (ev.up x') x'.b
    | ex k1 =>
      rw [r2] at h
      dsimp only at h
      by_cases e1 : k1 = k
      · rw [if_pos e1] at h
        subst e1
        cases r3 : ms2 ρ with
        | no => rw [r3] at h; exact h.elim
        | ex c => rw [r3] at h; exact h.elim
        | ok q2 =>
          obtain ⟨ds2, tt⟩ := q2
          rw [r3] at h
          dsimp only at h
          cases r4 : F2 ds2 with
          | no => rw [r4] at h; exact h.elim
          | ok d => rw [r4] at h; exact h.elim
          | ex k2 =>
            rw [r4] at h
            dsimp only at h
            by_cases e2 : k2 = k1
            · rw [if_pos e2] at h
              subst e2
              intro C' H' hm sm
              have e : C' = C := by rw [gC] at hm; cases hm; rfl
              subst e
              exact ⟨true, m1, fun _ a _ => ⟨rfl, rfl, len, Be, He, B, ρ, ds2, tt, ev.same (x1.h.trans sm), r3, r4, fun H'' s2 => h _ _ s2 (ev.eb.trans s2) (.bl _)⟩, fun z => by cases z⟩
            · rw [if_neg e2] at h; exact h.elim
      · rw [if_neg e1] at h; exact h.elim
end PL

set_option Elab.async false
set_option linter.all false
set_option maxRecDepth 100000
set_option maxHeartbeats 1000000
/-! tests of a caught exception -/
namespace PL
open PySem PySem.Spec PyProof.Rows L2 L2H
section
variable {X : Cx} {a b e : Expr} {rest : List Expr} {pos p : Pos} {P : L2.St → Prop} {v v1 v2 : V}
theorem pev_or (h1 : PEv X a P (.bl false)) (h2 : PEv X (.BoolOp .Or (b :: rest) pos) P v) : PEv X (.BoolOp .Or (a :: b :: rest) pos) P v :=
  pe_wk (pe_or h1 h2) fun σ H Q ⟨p, q⟩ => ⟨p, fun H1 s1 => ⟨false, rfl, by
    show (if false = true then _ else _)
    exact ⟨p, fun H2 s2 => q H2 (s1.trans s2)⟩⟩⟩
theorem pev_and (h1 : PEv X a P (.bl true)) (h2 : PEv X (.BoolOp .And (b :: rest) pos) P v) : PEv X (.BoolOp .And (a :: b :: rest) pos) P v :=
  pe_wk (pe_and h1 h2) fun σ H Q ⟨p, q⟩ => ⟨p, fun H1 s1 => ⟨true, rfl, by
    rw [if_pos rfl]
    exact ⟨p, fun H2 s2 => q H2 (s1.trans s2)⟩⟩⟩
theorem pev_one {op : BoolOp} (h : PEv X a P v) : PEv X (.BoolOp op [a] pos) P v := L2.pe_one h
theorem pev_not {c : Bool} (h : PEv X a P (.bl c)) : PEv X (.UnaryOp .Not a pos) P (.bl (!c)) :=
  pe_wk (pe_not h) fun σ H Q ⟨p, q⟩ => ⟨p, fun H1 s1 => ⟨c, rfl, q H1 s1⟩⟩
end
theorem passN {X : Cx} : Passes (L2N.CX X.prog X.w) X E0 := fun _ _ _ _ _ _ _ h => by
  obtain ⟨_, _, _, _, _, _, _, _, _, _, _, _, z⟩ := h
  exact False.elim z
def exR (K : PySem.W.Frag) : Bool := wcB K "NoBook" false false false true && emB K "NoBook" "NoBook" true
/-- the class NoBook -/
def WR (K : PySem.W.Frag) (mg : Str → Option Value) : Prop := ∃ B Pl Wo Te No, mg "BookError" = some (.ref B) ∧ mg "NoPlace" = some (.ref Pl) ∧ mg "NoWord" = some (.ref Wo) ∧ mg "NoText" = some (.ref Te) ∧ mg "NoBook" = some (.ref No) ∧
  WC K B Pl Wo Te No No false false false true ∧ PySem.W.exmOne K (.ref No) (.ref No) = some true
theorem wr_mk {K : PySem.W.Frag} {mg : Str → Option Value} (h : exR K = true) (g0 : mg "BookError" = some (.ref (He.ga K "BookError"))) (g1 : mg "NoPlace" = some (.ref (He.ga K "NoPlace"))) (g2 : mg "NoWord" = some (.ref (He.ga K "NoWord"))) (g3 : mg "NoText" = some (.ref (He.ga K "NoText"))) (g4 : mg "NoBook" = some (.ref (He.ga K "NoBook"))) : WR K mg := by
  obtain ⟨h1, h2⟩ := He.ba h
  exact ⟨_, _, _, _, _, g0, g1, g2, g3, g4, wcB_ok h1, of_decide_eq_true h2⟩
end PL

set_option Elab.async false
set_option linter.all false
set_option maxRecDepth 100000
set_option maxHeartbeats 2000000
/-! a tuple taken apart where an exception is handled; {} -/
namespace HotY
open PySem PySem.Spec PyProof.Rows HotX
section
variable {prog : Program} {w : World} {A : Around} {E : Value → Shared → Prop} {s : Shared}
theorem next_tuple_end_hot {it t x1 : Addr} {i : Nat} {items} {Q : Option Value → Shared → Prop} (hot : HotAt A x1 s.heap)
    (hit : IsTupIter s.heap it t i) (ht : IsTup s.heap t items) (hx : items[i]? = none)
    (hQ : ∀ h', Heap.ExtBut it s.heap h' → Q none { s with heap := h' }) : wpAny (model prog w) A (pyNext (.ref it)) Q E s := by
  obtain ⟨o, ho, hc, hd⟩ := id hit
  obtain ⟨ol, hol, _, nl, hdl⟩ := ht
  unfold pyNext
  refine wpAny_bind (wpAny_attempt (wpAny_callSpecial?_slot (name := Str.ofString "__next__") hit.typeIs slot_tupleiter_next
    (wpAny_call_entry slot_tupleiter_next hit.typeIs entry_tupleiter_next ?_ (args_tupleiter_next _))))
  show wpAny _ _ (field (.ref it) 0 >>= _) _ _ s
  refine wpAny_bind (wpAny_field ho hd (x := .ref t) rfl ?_)
  show wpAny _ _ (if (Value.ref t == Value.none) = true then _ else _) _ _ s
  rw [if_neg (show ¬ ((Value.ref t == Value.none) = true) from Bool.false_ne_true)]
  show wpAny _ _ (field (.ref it) 1 >>= _) _ _ s
  refine wpAny_bind (wpAny_field ho hd (x := .int i 0) rfl ?_)
  show wpAny _ _ (seqItems? (.ref t) >>= _) _ _ s
  refine wpAny_bind (wpAny_seqItems hol hdl ?_)
  simp only [Int.toNat_natCast, hx]
  obtain ⟨hh, o1, vs1, h1, d1, c1⟩ := hot
  have hne := hot_ne h1 d1 c1 ho hd
  refine wpAny_bind (wpAny_rule (wpAny_bind (wpAny_setField ho hd (by simp) ?_)))
  show wpAny _ _ (newExc (.type "StopIteration") [] >>= _) _ _ _
  refine wpAny_bind ?_
  simp only [newExc, newTuple]
  refine wpAny_bind (wpAny_newObj_type ?_ (by size_fits))
  refine wpAny_bind (m := firstArgMember _ _) (wpAny_of_eq (a := Value.none) (by first | rfl | (simp only [firstArgMember]; rfl)) ?_)
  refine wpAny_newObj_type ?_ (by size_fits)
  have h2 := (Heap.get?_update_other s.heap (Obj.mapFields (·.setIfInBounds 0 Value.none)) hne).trans h1
  refine raiseNew_hot ⟨hh, o1, vs1, Heap.get?_push_of_some _ (Heap.get?_push_of_some _ h2), d1, c1⟩ (Nat.ne_of_lt (Heap.lt_size (Heap.get?_push_of_some _ h2))) (Heap.get?_push_size _ rfl) rfl (by first | (simp; done) | (simp; omega) | (simp only [Array.size_append]; simp; omega)) ?_
  refine wpAny_bind (wpAny_isInstance (T := "StopIteration") (b := true) ⟨_, Heap.get?_update_self _ (Heap.get?_push_size _ rfl) rfl, rfl⟩ isSubtype_stop ?_)
  refine wpAny_pure (hQ _ fun b o hb e => ?_)
  have y := (Heap.get?_update_other s.heap (Obj.mapFields (·.setIfInBounds 0 Value.none)) (Ne.symm hb)).trans e
  rw [Heap.get?_update_other _ _ (Nat.ne_of_gt (Heap.lt_size (Heap.get?_push_of_some _ y)))]
  exact Heap.get?_push_of_some _ (Heap.get?_push_of_some _ y)
theorem unpackItems_hot {t x1 : Addr} {items : Array Value} {Q : List Value → Shared → Prop} (hot : HotAt A x1 s.heap) (ht : IsTup s.heap t items)
    (hQ : ∀ h', Heap.ExtBut s.heap.objs.size s.heap h' → Q items.toList { s with heap := h' }) : wpAny (model prog w) A (unpackItems (.ref t) items.size none) Q E s := by
  have hlt : t ≠ s.heap.objs.size := by obtain ⟨o, ho, _⟩ := ht; exact Nat.ne_of_lt (Heap.lt_size ho)
  obtain ⟨hh, o1, vs1, g1, d1, c1⟩ := hot
  have hxs : x1 ≠ s.heap.objs.size := Nat.ne_of_lt (Heap.lt_size g1)
  unfold unpackItems
  refine wpAny_bind ?_
  · unfold notIterableAtAll
    refine wpAny_bind (wpAny_specialOf ht.typeIs slot_tuple_iter.lookup ?_)
    refine wpAny_pure ?_
    simp only [Bool.false_eq_true, if_false]
    refine wpAny_bind (wpAny_holding (iter_tuple ht ?_))
    refine wpAny_bind (wpAny_holding (draw_tuple hlt items.size 0 _ _ ⟨_, Heap.get?_push_size _ rfl, rfl, rfl⟩ (ht.push _) (by omega) fun h₁ hit₁ hs₁ => ?_))
    have hall : List.take items.size (List.drop 0 items.toList) = items.toList := by
      rw [List.drop_zero]; exact List.take_of_length_le (by simp)
    rw [hall]
    rw [if_neg (by simp)]
    have ht₁ : IsTup h₁ t items := (ht.push _).extBut hs₁.extBut hlt
    have hot1 : HotAt A x1 h₁ := ⟨hh, o1, vs1, hs₁.extBut x1 o1 hxs (Heap.get?_push_of_some _ g1), d1, c1⟩
    refine wpAny_bind (wpAny_holding (next_tuple_end_hot hot1 hit₁ ht₁ (by simp) fun h₂ he₂ => ?_))
    simp only [Option.isSome_none, Bool.false_eq_true, if_false]
    refine wpAny_pure (hQ h₂ fun b o hb e => he₂ b o hb (hs₁.extBut b o hb (Heap.get?_push_of_some _ e)))
theorem assign_tuple_hot {env : Env} {elts : List Expr} {k1} {pos : Pos} {t x1 : Addr} {items : Array Value} {Q : Unit → Shared → Prop} (hot : HotAt A x1 s.heap) (ht : IsTup s.heap t items)
    (hn : (assignEach elts env).length = items.size) (hstar : (assignEach elts env).findIdx? (·.1) = none)
    (h : ∀ h', Heap.ExtBut s.heap.objs.size s.heap h' → wpAny (model prog w) A (assignInOrder ((assignEach elts env).map (·.2)) items.toList) Q E { s with heap := h' }) :
    wpAny (model prog w) A (assign (.Tuple elts k1 pos) env (.ref t)) Q E s := by
  rw [assign_Tuple]
  refine wpAny_bind (wpAny_standAt ?_)
  unfold unpack
  rw [hn, hstar]
  exact wpAny_bind (wpAny_holding (unpackItems_hot hot ht h))
end
end HotY
namespace PL
open PySem PySem.Spec PyProof.Rows L2 L2H HotY
theorem pg_tupH {X : Cx} {es : List Expr} {k : Nat} {t : TGs} {n : Nat} {pos : Pos} (hc : HotC X) (h : PGs X es t)
    (hn : (assignEach es X.env).length = n := by rfl) (hst : (assignEach es X.env).findIdx? (·.1) = none := by rfl) : PG X (.Tuple es k pos) (gTup X.K n t) := by
  refine ⟨fun pins s σ H v u Q I r hw => ?_⟩
  obtain ⟨a, xs, e1, hq, hl, hw⟩ := hw
  subst e1
  cases r
  obtain ⟨its, rv, ht, hz⟩ := I.tuple hq
  obtain ⟨x1, hot⟩ := hc.at I
  refine assign_tuple_hot hot ht (by simp [hn, ← hl, rv.length]) hst fun h' hx => ?_
  have I1 : Inv X pins σ H { s with heap := h' } := I.kept (t' := s.toks) fun b o e => hx b o (Nat.ne_of_lt (Heap.lt_size e)) e
  exact h.run pins _ σ H xs _ Q I1 (by simpa using rv) hw
theorem dg_tH {X : Cx} {es : List Expr} {pos : Pos} {n kk : Nat} {r : List D → Rho → Option Rho} {is : List Nat} (hc : HotC X) (h : DGs X es r is) (hn : (assignEach es X.env).length = n := by rfl) (hst : (assignEach es X.env).findIdx? (·.1) = none := by rfl) : DG X (.Tuple es kk pos) (gT n r) is :=
  pg_wk (pg_tupH hc h hn hst) fun v σ H Q h => by
    obtain ⟨Be, He, B, ρ, d, ρ', ev, dv, e1, h⟩ := h
    unfold gT at e1
    split at e1
    · rename_i ds
      split at e1
      · rename_i c
        cases dv with
        | tup r al => exact ⟨_, _, rfl, .inl (Same.rd ev.bh (.of r)), by rw [al.length]; exact c, Be, He, B, ρ, ds, ρ', ev, al, e1, h⟩
      · cases e1
    · cases e1
def empF : List D → Option D
  | [] => some (.dict [])
  | _ => none
def mEmp : Rho → Rs TD := mF empF mNil
theorem f_emp {K : PySem.W.Frag} : OpOk K (fun _ H Q => ∀ p, H p = none → Q (.ref p) (upd H p (.dK []))) empF := by
  intro B vs ds H Q s dv h p hp
  unfold empF at h
  split at h
  · exact h _ _ _ (.new s hp) (.emp upd_same)
  · exact h.elim
theorem de_emp {X : Cx} {E : XK} {pos : Pos} : DE X E (.Dict [] [] pos) mEmp := by
  have tn : TntA mNil := (da_nil (X := X) (E := E)).tn
  refine ⟨pe_wk pe_dnewK fun σ H Q h => ?_, mF_tn tn⟩
  obtain ⟨Be, He, B, ρ, ev, g⟩ := args_op (X := X) (E := E) (ms := mNil) tn f_emp h
  exact g [] B H (.refl ev.bh) .nil
end PL

set_option Elab.async false
set_option linter.all false
set_option maxRecDepth 100000
set_option maxHeartbeats 2000000
/-! a comprehension over a list where an exception is handled -/
namespace L2H
open PySem PySem.Spec PyProof.Rows L2 HotX HotY
/-- the handled exception stands in the block as it stood ahead of it -/
theorem hot_blk {X : Cx} {pins pn : List (Addr × Obj)} {σ τ : L2.St} {H H' : Hp} {s s' : Shared} {scope : Scope} {env : Env} {it : Addr} (hc : HotC X) (I : Inv X pins σ H s) (hf : FpOk X pins H it) (J : Inv (X.blk s H scope env [it]) pn τ H' s') : ∃ x1, HotAt (X.blk s H scope env [it]).A x1 s'.heap := by
  obtain ⟨p, ⟨hh, v1, e1, c1⟩, hp⟩ := hc
  have mem := List.mem_append_left pins hp
  obtain ⟨q1, q2, q3, q4, _⟩ := I.pin p mem
  have out : p.1 ∉ frs X.stack := fun z => match List.mem_cons.mp (I.stkSub p.1 z) with
    | .inl e => q3 e
    | .inr e => q4 e
  have apart : p.1 ∉ [it] := fun z => hf.2.2.2.2.2 p mem (List.mem_singleton.mp z)
  exact ⟨p.1, hh, p.2, v1, J.base.keep p.1 p.2 q1 q2 out apart, e1, c1⟩
section
variable {X : Cx} {elt tg l : Expr} {ifs : List Expr} {scope : Scope} {own : List (Str × Nat)} {pos : Pos} {tl : TE} {g : TG} {tt : TT} {te : TE}
theorem pe_lcB (hc : HotC X) (hN : X.N.Nodup) (hl : PE X l tl) (ok : BlkOk X.N X.env.scope scope own)
    (hg : ∀ (s : Shared) (H : Hp) (C : Addr) (cl : List (Str × Addr)) (fp : List Addr), PG (X.blk s H scope (compEnvC scope cl C X.env) fp) tg g) (ht : ∀ (s : Shared) (H : Hp) (C : Addr) (cl : List (Str × Addr)) (fp : List Addr), PTs (X.blk s H scope (compEnvC scope cl C X.env) fp) ifs tt)
    (he : ∀ (s : Shared) (H : Hp) (C : Addr) (cl : List (Str × Addr)) (fp : List Addr), PE (X.blk s H scope (compEnvC scope cl C X.env) fp) elt te) (hs : ∀ x, foldedSetIterable l X.env x = pure x := by intro _; rfl) :
    PE X (.ListComp elt [⟨tg, l, ifs, 0⟩] scope pos) (tLc (iList X.K tl) g tt te (own.map (·.2))) := by
  constructor
  intro pins s σ H Q I h
  rw [eval_ListComp]
  have cells : ∀ y ∈ scope.names, y.2 = .free → ∃ c, X.env.cells.lookup y.1 = some c := fun y hy e => I.ok.has _ (ok.free y hy e)
  refine wpAny_comprehension_free (use := none) rfl hs (closure_ok cells) ok.kind (fun y hy e => (ok.uniq y hy).trans (by rw [e])) (thn (hl.run pins s σ H _ I h) fun v s1 q => ?_)
  obtain ⟨x, H1, I1, rx, a, ea, ⟨xs, hq⟩, q⟩ := q
  subst ea
  cases rx
  obtain ⟨its, rv, p, hz⟩ := I1.list hq
  refine wpAny_pyIter_list p.isList (wpAny_newObj_type (newEnv_comp ?_) (by show 0 ≤ sizeLine; decide))
  generalize eit : s1.heap.objs.size = it
  have I2 : Inv X pins σ H1 { s1 with heap := s1.heap.push { cls := .type "list_iterator", data := .fields #[.ref a, .int 0 0] } } := I1.kept (t' := s1.toks) fun _ _ z => Heap.get?_push_of_some _ z
  have walk2 : (s1.heap.push { cls := .type "list_iterator", data := .fields #[.ref a, .int 0 0] }).IsListIter it a 0 := by
    rw [← eit]
    exact ⟨_, Heap.get?_push_size _ rfl, rfl, rfl⟩
  have own1 : FpOk X pins H1 it := by
    rw [← eit]
    exact I1.fpOk (Nat.le_refl _) (I1.hok.fresh (Nat.le_refl _))
  generalize es2 : ({ s1 with heap := s1.heap.push { cls := .type "list_iterator", data := .fields #[.ref a, .int 0 0] } } : Shared) = s2 at I2 ⊢
  have eh2 : s1.heap.push { cls := .type "list_iterator", data := .fields #[.ref a, .int 0 0] } = s2.heap := by rw [← es2]
  rw [eh2] at walk2
  have itlt : it < s2.heap.objs.size := by
    obtain ⟨o, z, _⟩ := walk2
    exact Heap.lt_size z
  generalize eD : s2.heap.objs.size = D at itlt
  have freeD : H1 D = none := I2.hok.fresh (Nat.le_of_eq eD)
  obtain ⟨W, ⟨m0, w0⟩, turn⟩ := q D freeD
  generalize es3 : ({ s2 with heap := s2.heap.push { cls := .type "list", data := .seq ([] : List Value).toArray } } : Shared) = s3
  have eh3 : s3.heap = s2.heap.push { cls := .type "list", data := .seq ([] : List Value).toArray } := by rw [← es3]
  have I3 : Inv X pins σ (upd H1 D (.lst [])) s3 := by
    rw [← es3]
    exact I2.laid (t' := s2.toks) (fun _ _ z => Heap.get?_push_of_some _ z) (Nat.le_of_eq eD) ⟨Nat.zero_le _, [], 0, .nil, by rw [← eD]; exact Heap.get?_push_size _ rfl⟩
  have walk3 : s3.heap.IsListIter it a 0 := by
    rw [eh3]
    exact walk2.at fun o z => Heap.get?_push_of_some _ z
  generalize eH3 : upd H1 D (.lst []) = H3 at I3 w0
  have free3 : H3 it = none := by
    rw [← eH3, upd_ne (Nat.ne_of_lt itlt)]
    exact own1.1
  have own3 : FpOk X pins H3 it := ⟨free3, own1.2⟩
  have lt3 : it < s3.heap.objs.size := by
    rw [eh3, Heap.size_push, eD]
    exact Nat.lt_succ_of_lt itlt
  have J0 := block_start (fp := [it]) I3 ok hN fun b hb => by rw [List.mem_singleton.mp hb]; exact ⟨own3, lt3⟩
  let CL := cellsFrom (s3.heap.objs.size + 1) scope.names (cloFrom X.env.cells scope.names [])
  have Gt := hg s3 H3 s3.heap.objs.size CL [it]
  have Tt := ht s3 H3 s3.heap.objs.size CL [it]
  have Et := he s3 H3 s3.heap.objs.size CL [it]
  show codeAny _ _ (.compStart (.ListComp elt [⟨tg, l, ifs, 0⟩] scope pos) 0 (.ref it) (.ref D) (compEnvC scope CL s3.heap.objs.size X.env)) (compPost (model X.prog X.w) X.A X.xe none (EP X pins σ Q) (.ref D) s3.heap.objs.size) { s3 with heap := pushCells (s3.heap.push { cls := .type "dict", data := .dict #[] }) scope.names }
  change Inv (X.blk s3 H3 scope (compEnvC scope CL s3.heap.objs.size X.env) [it]) _ _ _ _ at J0
  have eL : (compEnvC scope CL s3.heap.objs.size X.env).locals = s3.heap.objs.size := rfl
  generalize compEnvC scope CL s3.heap.objs.size X.env = ce at *
  have walk4 : (pushCells (s3.heap.push { cls := .type "dict", data := .dict #[] }) scope.names).IsListIter it a 0 := walk3.at fun o z => pushCells_keeps _ _ _ _ (Heap.get?_push_of_some _ z)
  have mine : ∀ {τ : L2.St} {H' : Hp} {s' : Shared}, Inv (X.blk s3 H3 scope ce [it]) [] τ H' s' → H' it = none → FpOk (X.blk s3 H3 scope ce [it]) [] H' it := fun {τ H' s'} J z => by
    have m : it ∈ [it] := List.mem_singleton.mpr rfl
    exact ⟨z, (J.ok.exf it m).1, J.ok.exfs it m, .inl m, (J.ok.exf it m).2, fun p hp => by cases hp⟩
  have loop : ∀ (n : Nat) (s' : Shared), (∃ i H', Inv (X.blk s3 H3 scope ce [it]) [] (wipe σ (own.map (·.2))) H' s' ∧ s'.heap.IsListIter it a i ∧ H' it = none ∧ W i n H') →
      codeAny (model X.prog X.w) X.A (.compLoop (.ListComp elt [⟨tg, l, ifs, 0⟩] scope pos) 0 (.ref it) (.ref D) ce) (compPost (model X.prog X.w) X.A X.xe none (EP X pins σ Q) (.ref D) s3.heap.objs.size) s' := fun n s' hinv => by
    refine compLoop_any (fun n s' => ∃ i H', Inv (X.blk s3 H3 scope ce [it]) [] (wipe σ (own.map (·.2))) H' s' ∧ s'.heap.IsListIter it a i ∧ H' it = none ∧ W i n H') ?_ n hinv
    rintro n s5 ⟨i, H5, I5, walk5, n5, w5⟩
    obtain ⟨f0, f1, f2, f3, f4, f5⟩ := mine I5 n5
    rcases turn i n H5 w5 with ⟨⟨ys, hy, le⟩, qq⟩ | ⟨⟨ys, y, hy, ay⟩, Nx, hNx, step⟩
    · obtain ⟨its', rv', p', _⟩ := I5.list hy
      have len' := rv'.length
      obtain ⟨x1, hot⟩ := hot_blk hc I3 own3 I5
      have last : wpAny (model X.prog X.w) X.A (pyNext (.ref it)) (fun r s6 => r = none ∧ Inv (X.blk s3 H3 scope ce [it]) [] (wipe σ (own.map (·.2))) H5 s6) (fun _ _ => False) s5 :=
        pyNext_list_end_hot hot walk5 p'.isList (by simp; omega) fun h' eb => ⟨rfl, I5.turned (t' := s5.toks) (fun b o hb z => eb b o hb z) f0 f1 f3 f4 f5⟩
      refine thnF last fun r s6 ⟨er, I6⟩ => ?_
      subst er
      have I7 : Inv X pins σ H5 s6 := I3.call' (ch := [it]) I6.os I6.base I6.hok I6.bare fun b hb => by
        rw [List.mem_singleton.mp hb]
        exact ⟨own3.2.2.2.1, own3.2.1, own3.2.2.2.2.1, own3.2.2.2.2.2⟩
      have nC : H5 s3.heap.objs.size = none := by
        have z : H5 ce.locals = none := I6.free
        rwa [eL] at z
      obtain ⟨m, hn, _⟩ := I6.loc
      have hn : s6.heap.Ns ce.locals m := hn
      rw [eL] at hn
      obtain ⟨g0, g1, g2, g3, g4, g5⟩ := I3.fpOk (Nat.le_refl s3.heap.objs.size) nC
      exact ⟨m, hn, fun h'' sb => ⟨.ref D, H5, I7.turned (t' := s6.toks) (fun b o hb z => (sb.2 b hb).trans z) g0 g1 g3 g4 g5, rfl, qq⟩⟩
    · obtain ⟨its', rv', p', _⟩ := I5.list hy
      obtain ⟨u, hu, ru⟩ := rv'.get ay
      have next : wpAny (model X.prog X.w) X.A (pyNext (.ref it)) (fun r s6 => ∃ u', r = some u' ∧ wpAny (model X.prog X.w) X.A (letOwnedTupleGo tg (.ref it) u') (fun _ s7 => Inv (X.blk s3 H3 scope ce [it]) [] (wipe σ (own.map (·.2))) H5 s7 ∧ RelV y u' ∧ s7.heap.IsListIter it a (i + 1)) (fun _ _ => False) s6) (fun _ _ => False) s5 := by
        refine wpAny_pyNext_list_item walk5 p'.isList (x := u) (by simpa using hu) fun h' walk6 sb => ?_
        have I6 : Inv (X.blk s3 H3 scope ce [it]) [] (wipe σ (own.map (·.2))) H5 { s5 with heap := h' } := I5.turned (t' := s5.toks) (fun b o hb z => (sb.2 b hb).trans z) f0 f1 f3 f4 f5
        obtain ⟨o, z1, z2, z3⟩ := id walk6
        exact ⟨u, rfl, go_of (s := { s5 with heap := h' }) z1 z2 z3 (by decide) ⟨I6, ru, walk6⟩⟩
      refine thnF next fun r s6 ⟨u', er, h6⟩ => ?_
      subst er
      refine thnF h6 fun _ s7 ⟨I7, r7, walk7⟩ => ?_
      obtain ⟨o7, g7, c7, d7⟩ := id walk7
      have J7 := I7.pinned (fp := [it]) (fun b hb => by rw [List.mem_singleton.mp hb]; exact mine I7 n5) fun b hb => by
        rw [List.mem_singleton.mp hb]
        exact ⟨o7, g7, fun v z => by rw [d7] at z; cases z⟩
      refine thnF (Gt.run _ s7 _ H5 y u' _ J7 r7 (step y H5 ⟨rfl, fun zs hz' => by rw [I5.list_inj hz' hy]; exact ay⟩)) fun _ s8 ⟨σ8, H8, I8, hw8, q8⟩ => ?_
      refine thnF (Tt.run _ s8 σ8 H8 _ I8 q8) fun b s9 ⟨H9, I9, q9⟩ => ?_
      have again : ∀ {s' : Shared} {H' : Hp}, Inv (X.blk s3 H3 scope ce [it]) ([] ++ pinsAt [it] s7.heap) σ8 H' s' → Nx H' → ∃ m, m < n ∧ ∃ i H', Inv (X.blk s3 H3 scope ce [it]) [] (wipe σ (own.map (·.2))) H' s' ∧ s'.heap.IsListIter it a i ∧ H' it = none ∧ W i m H' := fun {s' H'} J nx => by
        obtain ⟨m', lt, w'⟩ := hNx H' nx
        have kept := J.pin (it, o7) (List.mem_append_right _ (List.mem_append_right _ (mem_pinsAt (List.mem_singleton.mpr rfl) g7)))
        have same : (wipe σ (own.map (·.2))).length = σ8.length := by rw [← hw8, wipe_length]
        refine ⟨m', lt, i + 1, H', (J.unpinned (pins := [])).weak same (fun j v z => ?_), ⟨o7, kept.1, c7, d7⟩, kept.2.1, w'⟩
        rw [← hw8] at z
        exact (wipe_some z).1
      cases b with
      | false => exact again I9 (by simpa using q9)
      | true =>
        rw [if_pos rfl] at q9
        exact thnF (Et.run _ s9 σ8 H9 _ I9 q9) fun z s10 ⟨yv, H10, I10, r10, acc, hD10, hz10, nx⟩ => app_ok (X := X.blk s3 H3 scope ce [it]) I10 hD10 hz10 r10 fun s11 I11 => again I11 nx
  exact codeAny_compStart_list (loop m0 _ ⟨0, H3, J0, walk4, free3, w0⟩) (wpAny_pyIter_listiter walk4 (loop m0 _ ⟨0, H3, J0, walk4, free3, w0⟩))
end
end L2H

set_option Elab.async false
set_option linter.all false
set_option maxRecDepth 100000
set_option maxHeartbeats 2000000
/-! comprehensions where an exception is handled, over the layer -/
namespace L2H
open PySem PySem.Spec PyProof.Rows L2
theorem RoomH.u65 {k : Nat} {A : Around} (hr : RoomH k A) : A.units + 65 < cLine := by have := hr.un; omega
end L2H
namespace PL
open PySem PySem.Spec PyProof.Rows L2 L2H
section
variable {X : Cx} {E : XK} {e elt tg l : Expr} {pos : Pos} {m me : Rho → Rs TD} {tt : Rho → Rs Bool}
theorem di_eB (he : DE X E e m) : DE X E e m := he
theorem il_wk {σ : L2.St} {H : Hp} {R : It → Hp → Prop} (h : tDI X.K X.mg E (mIterL m) σ H R) : iList X.K (tD X.K X.mg E m) σ H R := by
  obtain ⟨Be, He, B, ρ, ev, h⟩ := h
  unfold mIterL at h
  cases r : m ρ with
  | no => rw [r] at h; exact h.elim
  | ex c => rw [r] at h; exact ⟨Be, He, B, ρ, ev, by rw [r]; exact h⟩
  | ok q =>
    obtain ⟨d, t⟩ := q
    rw [r] at h
    cases d with
    | list ds =>
      refine ⟨Be, He, B, ρ, ev, ?_⟩
      rw [r]
      intro v B1 H1 x1 dv
      cases dv with
      | lst rr al => exact ⟨_, rfl, ⟨_, .inl (Same.rd (ev.up x1).ba_h rr)⟩, h _ B1 H1 x1 (j_list rr al)⟩
    | _ => exact h.elim
theorem de_lcH {ifs : List Expr} {scope : Scope} {own : List (Str × Nat)} {g : D → Rho → Option Rho} {is : List Nat} (hc : HotC X) (hN : X.N.Nodup) (hi : DE X E l m) (ok : BlkOk X.N X.env.scope scope own)
    (hg : ∀ (s : Shared) (H : Hp) (C : Addr) (cl : List (Str × Addr)) (fp : List Addr), DG (X.blk s H scope (compEnvC scope cl C X.env) fp) tg g is) (ht : ∀ (s : Shared) (H : Hp) (C : Addr) (cl : List (Str × Addr)) (fp : List Addr), DTs (X.blk s H scope (compEnvC scope cl C X.env) fp) E0 ifs tt)
    (he : ∀ (s : Shared) (H : Hp) (C : Addr) (cl : List (Str × Addr)) (fp : List Addr), DE (X.blk s H scope (compEnvC scope cl C X.env) fp) E0 elt me) (hsub : ∀ i, i ∈ is → i ∈ own.map (·.2) := by decide) (hs : ∀ x, foldedSetIterable l X.env x = pure x := by intro _; rfl) :
    DE X E (.ListComp elt [⟨tg, l, ifs, 0⟩] scope pos) (mComp (mIterL m) g tt me (own.map (·.2))) :=
  have tn := (di_eH (tg := tg) hi).tn
  ⟨pe_wk (pe_lcB (g := tDG X.K g is) (tt := tDT X.K X.mg E0 tt) (te := tD X.K X.mg E0 me) hc hN hi.pe ok (fun s H C cl fp => hg s H C cl fp) (fun s H C cl fp => ht s H C cl fp) (fun s H C cl fp => (he s H C cl fp).pe) hs) fun σ H Q h => il_wk (comp_run tn (he X.s_0 X.H_0 (0 : Nat) [] []).tn hsub h), mComp_tn tn⟩
end
end PL

set_option Elab.async false
set_option linter.all false
set_option maxRecDepth 100000
set_option maxHeartbeats 2000000
/-! the class NoBook, where the other classes are not at hand -/
namespace PL
open PySem PySem.Spec PyProof.Rows L2 L2H
theorem pev_id {X : Cx} {a : Expr} {P : L2.St → Prop} {v : V} (h : PEv X a P v) : PEv X a P v := h
structure W8 (K : PySem.W.Frag) (B No : Addr) : Prop where
  x : ExcC K No
  m : PySem.W.exmOne K (.ref No) (.ref B) = some true
  n : PySem.W.exmOne K (.ref No) (.ref No) = some true
  kv : PySem.W.kitOne K (.ref No) (.type "ValueError") = some true
def exR8 (K : PySem.W.Frag) : Bool := exB K "NoBook" && (emB K "NoBook" "BookError" true && (emB K "NoBook" "NoBook" true && ktB K "NoBook" "ValueError" true))
def WR8 (K : PySem.W.Frag) (mg : Str → Option Value) : Prop := ∃ B No, mg "BookError" = some (.ref B) ∧ mg "NoBook" = some (.ref No) ∧ W8 K B No
theorem wr8_mk {K : PySem.W.Frag} {mg : Str → Option Value} (h : exR8 K = true) (g0 : mg "BookError" = some (.ref (He.ga K "BookError"))) (g4 : mg "NoBook" = some (.ref (He.ga K "NoBook"))) : WR8 K mg := by
  obtain ⟨h1, h⟩ := He.ba h
  obtain ⟨h2, h⟩ := He.ba h
  obtain ⟨h3, h4⟩ := He.ba h
  exact ⟨_, _, g0, g4, exB_ok h1, of_decide_eq_true h2, of_decide_eq_true h3, of_decide_eq_true h4⟩
end PL

set_option Elab.async false
set_option linter.all false
set_option maxRecDepth 100000
set_option maxHeartbeats 1000000
/-! functions that return a new list, which the caller takes as a list of its own -/
namespace PL
open PySem PySem.Spec PyProof.Rows L2
variable {K : PySem.W.Frag}
def DnSO (K : PySem.W.Frag) (mg : Str → Option Value) (E : XK) (Be He : Hp) (r : Rs (List D)) (D : Ends) : Prop := match r with
  | .ok ds => ∀ l ws B' H', Ext Be He B' H' → B' l = none → He l = none → H' l = some (.lst ws) → DqAll K B' ws ds → D.rt (.ref l) H'
  | .ex c => XW mg E c He
  | .no => False
def tDSO (K : PySem.W.Frag) (mg : Str → Option Value) (E : XK) (m : Rho → Rs (List D)) : TS := fun D σ H => ∃ Be He B ρ, Ev K Be He B H σ ρ ∧ DnSO K mg E Be He (m ρ) D
def DSsO (X : Cx) (E : XK) (st : List Stmt) (m : Rho → Rs (List D)) : Prop := PSs X st (tDSO X.K X.mg E m)
def Fl.thenO (f : Fl) (l : Rho → Rs (List D)) : Rs (List D) := match f with
  | .nx ρ' => l ρ'
  | .ex c => .ex c
  | _ => .no
def mSeqO (k : Rho → Fl) (l : Rho → Rs (List D)) : Rho → Rs (List D) := fun ρ => (k ρ).thenO l
def mRetA (ma mb : Rho → Rs TD) : Rho → Rs (List D) := fun ρ => (ma ρ).bind fun q => (mb ρ).bind fun r => match q.1, r.1 with
  | .list a, .list b => if a.length + b.length ≤ sizeLine then .ok (a ++ b) else .no
  | _, _ => .no
section
variable {X : Cx} {E : XK} {a b e : Expr} {es : List Expr} {pos p : Pos} {ma mb : Rho → Rs TD} {ms : Rho → Rs (List D × List Nat)} {st : Stmt} {rest : List Stmt} {k : Rho → Fl} {l : Rho → Rs (List D)}
theorem dsso_cons (h1 : DS X E st k) (h2 : DSsO X E rest l) : DSsO X E (st :: rest) (mSeqO k l) := pss_wk (pss_cons h1 h2) fun D σ H h => by
  obtain ⟨Be, He, B, ρ, ev, h⟩ := h
  refine ⟨Be, He, B, ρ, ev, ?_⟩
  unfold mSeqO Fl.thenO at h
  cases q : k ρ with
  | nx ρ' => rw [q] at h; exact fun σ' B' H' ev' _ => ⟨Be, He, B', ρ', ev', h⟩
  | ex c => rw [q] at h; exact h
  | rt d => rw [q] at h; exact h.elim
  | bk d => rw [q] at h; exact h.elim
  | ct d => rw [q] at h; exact h.elim
  | no => rw [q] at h; exact h.elim
theorem dsso_ret (ha : DE X E a ma) (hb : DE X E b mb) : DSsO X E [.Return (some (.BinOp a .Add b p)) pos] (mRetA ma mb) := pss_wk (pss_one (ps_ret (pe_op op_catR ha.pe hb.pe))) fun D σ H h => by
  obtain ⟨Be, He, B, ρ, ev, h⟩ := h
  refine ⟨Be, He, B, ρ, ev, ?_⟩
  unfold mRetA at h
  cases r1 : ma ρ with
  | no => rw [r1] at h; exact h
  | ex c => rw [r1] at h; exact h
  | ok q1 =>
    obtain ⟨d, t⟩ := q1
    rw [r1] at h
    intro v1 B1 H1 x1 dv1
    have ev1 := ev.up x1
    refine ⟨Be, He, B1, ρ, ev1, ?_⟩
    cases r2 : mb ρ with
    | no => rw [r2] at h; exact h
    | ex c => rw [r2] at h; exact h
    | ok q2 =>
      obtain ⟨e, u⟩ := q2
      rw [r2] at h
      intro v2 B2 H2 x2 dv2
      have ev2 := ev1.up x2
      have ot := ha.tn ρ _ _ r1
      have ou := hb.tn ρ _ _ r2
      dsimp only [Rs.bind] at h
      split at h
      · rename_i ds es
        split at h
        · rename_i c
          cases dv1 with
          | lst s1 a1 =>
            cases dv2 with
            | lst s2 a2 =>
              refine ⟨_, _, _, _, rfl, rfl, Same.rd (ev1.ba_h.trans x2.h) s1, Same.rd ev2.ba_h s2, by rw [a1.length, a2.length]; exact c, fun p hp => ?_⟩
              have m := mx_ext (ev2.be.trans ev2.bh) ev2.he
              have s3 : ∀ o : HO, Same H2 (upd H2 p o) := fun o a w q => by rw [upd_ne (ne_of_none q hp)]; exact q
              have mp : Mx Be He H2 p = none := by
                cases q : Mx Be He H2 p with
                | none => rfl
                | some o => have := Mx.same p o q; rw [hp] at this; cases this
              exact h p _ (Mx Be He H2) _ ⟨m.b, m.h.trans (s3 _), m.s.trans (s3 _), m.f⟩ mp (ev2.he.free hp) upd_same
                ((a1.up ((ev1.ba_up x2 ot fun a w => w).trans (ev2.ba_mx ot))).append (a2.up (ev2.ba_mx ou)))
        · exact h.elim
      · exact h.elim
end
def DnRO (K : PySem.W.Frag) (mg : Str → Option Value) (E : XK) (B H : Hp) (r : Rs (List D)) (Q : VK) : Prop := match r with
  | .ok ds => ∀ l ws B' H', Ext B H B' H' → B' l = none → H l = none → H' l = some (.lst ws) → DqAll K B' ws ds → Q (.ref l) H'
  | .ex c => XW mg E c H
  | .no => False
def spO (K : PySem.W.Frag) (mg : Str → Option Value) (F : List D → Rs (List D)) : Sp := fun vs H Q E => ∃ B ds, Same B H ∧ DqAll K B vs ds ∧ DnRO K mg E B H (F ds) Q
def fnRunO (body : Rho → Rs (List D)) (N n : Nat) : List D → Rs (List D) := fun ds => if ds.length = n then body (ini N n ds) else .no
theorem body_runO {mg : Str → Option Value} {E : XK} {body : Rho → Rs (List D)} {N : List Str} {n : Nat} (hN : n ≤ N.length) {vs : List V} {H : Hp} {Q : VK} (h : spO K mg (fnRunO body N.length n) vs H Q E) : tDSO K mg E body { nx := fun _ H' => Q .non H', rt := Q } (L2.start N vs) H := by
  obtain ⟨B, ds, s, dv, h⟩ := h
  unfold fnRunO at h
  by_cases c : ds.length = n
  · rw [if_pos c] at h
    refine ⟨B, H, B, ini N.length n ds, ev_start s dv c hN, ?_⟩
    cases r : body (ini N.length n ds) with
    | ok es => rw [r] at h; exact h
    | ex c => rw [r] at h; exact h
    | no => rw [r] at h; exact h
  · rw [if_neg c] at h; exact h.elim
theorem spO_len {mg : Str → Option Value} {body : Rho → Rs (List D)} {N n : Nat} {vs : List V} {H : Hp} {Q : VK} {E : XK} (h : spO K mg (fnRunO body N n) vs H Q E) : vs.length = n := by
  obtain ⟨B, ds, s, dv, h⟩ := h
  unfold fnRunO at h
  by_cases c : ds.length = n
  · exact dv.length.trans c
  · rw [if_neg c] at h; exact h.elim
def DdNO (P : Program) (w : World) (K : PySem.W.Frag) (mg : Str → Option Value) (base : Heap) (x : Str) (k : Nat) (ps : List Str) (F : List D → Rs (List D)) : Prop :=
  ∃ f fd, mg x = some (.ref f) ∧ PySem.W.keepIn K (.ref f) = true ∧ Binds K fd ps [] ∧ FnOk P w K mg base (L2N.CX P w) k f fd ps (spO K mg F)
section
variable {P : Program} {w : World} {mg : Str → Option Value} {base : Heap} {x : Str} {st : Stmt} {N ps : List Str} {kk n nn : Nat} {body : Rho → Rs (List D)}
theorem fn_okNO {qual : Str} {f : Addr} {fd : FuncData} (F : Fun K x qual st f fd) (S : FnScope N ps (defScope st)) (h1 : ps.length = n) (h2 : N.length = nn)
    (hb : ∀ (cdv : Value) (A : Around) (outer : List Env) (s : Shared) (H : Hp) (E : XK), Room kk (A.deeper (envOfC qual (defScope st) s.heap.objs.size f cdv)) →
      DSsO (cxOf (L2N.CX P w) P w K mg base N qual (defScope st) f cdv A outer s H E) E (defBody st) body) : FnOk P w K mg base (L2N.CX P w) (kk + 1) f fd ps (spO K mg (fnRunO body nn n)) := by
  subst h1 h2
  have hN : ps.length ≤ N.length := by have := congrArg List.length S.pre; rw [List.length_take] at this; omega
  obtain ⟨oc, od, kV, doc, pm, an, cdv, ct, osl, rfl, lk, hcd⟩ := F.ex
  exact fn_of lk hcd S (fun vs H Q E h => spO_len h) fun A outer s H vs Q E hr h => ⟨_, hb cdv A outer s H E hr, body_runO hN h⟩
theorem dd_okNO (F : Df K mg x st ps) (S : FnScope N ps (defScope st)) (h1 : ps.length = n) (h2 : N.length = nn)
    (hb : ∀ (f : Addr) (cdv : Value) (A : Around) (outer : List Env) (s : Shared) (H : Hp) (E : XK), Room kk (XfN P w K mg base N x st f cdv A outer s H E).A → L2N.Takes (XfN P w K mg base N x st f cdv A outer s H E) (fun cls d _ H => E cls d H) →
      PassesOwn (model P w) (XfN P w K mg base N x st f cdv A outer s H E).A (XfN P w K mg base N x st f cdv A outer s H E).env (XfN P w K mg base N x st f cdv A outer s H E).xe → Passes (L2N.CX P w) (XfN P w K mg base N x st f cdv A outer s H E) E →
      DSsO (XfN P w K mg base N x st f cdv A outer s H E) E (defBody st) body) : DdNO P w K mg base x (kk + 1) ps (fnRunO body nn n) := by
  obtain ⟨f, fd, F, hm, hbd⟩ := F
  exact ⟨f, fd, hm, F.kp, hbd, fn_okNO F S h1 h2 fun cdv A outer s H E hr => by
    have tk : L2N.Takes (XfN P w K mg base N x st f cdv A outer s H E) (fun cls d _ H => E cls d H) := L2N.takes_of rfl rfl rfl rfl
    exact hb f cdv A outer s H E hr tk (passes_of rfl) (L2N.passes_call tk fun _ _ _ _ h => h)⟩
end
def mCallO (F : List D → Rs (List D)) (ms : Rho → Rs (List D × List Nat)) : Rho → Rs (List D) := fun ρ => (ms ρ).bind fun q => if q.2 = [] then F q.1 else .no
section
variable {X : Cx} {E : XK} {e : Expr} {es : List Expr} {pos p : Pos} {ms : Rho → Rs (List D × List Nat)}
theorem do_fnN {kk kr : Nat} {ps : List Str} {F : List D → Rs (List D)} {x : Str} (G : DdNO X.prog X.w X.K X.mg X.base x kk ps F) (hr : Room kr X.A) (ha : DA X E (e :: es) ms) (hx : Passes (L2N.CX X.prog X.w) X E) (hle : kk ≤ kr := by decide) (hg : Gl X x := by rfl)
    (hdb : (x == ("__debug__" : Str)) = false := by decide) (he : starEach (e :: es) X.env = (false, eval e X.env) :: starEach es X.env := by rfl) (hpl : (backTo pos (starEach es X.env)).any (·.1) = false := by rfl) :
    DO X E (.Call (.Name x p) (e :: es) [] pos) (mCallO F ms) := by
  obtain ⟨f, fd, h1, h2, h3, h4⟩ := G
  exact pe_wk (pe_call h4 (hr.mono hle) hg h1 h2 h3 .nil hx ha.pa hdb he hpl) fun σ H Q h => by
    show tDA X.K X.mg E ms σ H fun vs H1 => spO X.K X.mg F (vs ++ []) H1 Q E
    simp only [List.append_nil]
    obtain ⟨Be, He, B, ρ, ev, h⟩ := h
    refine ⟨Be, He, B, ρ, ev, ?_⟩
    unfold mCallO at h
    cases r : ms ρ with
    | no => rw [r] at h; exact h
    | ex c => rw [r] at h; exact h
    | ok q =>
      obtain ⟨ds, t⟩ := q
      rw [r] at h
      dsimp only [Rs.bind] at h
      intro vs B1 H1 x1 dv
      split at h
      · rename_i c
        subst c
        have ev1 := ev.up x1
        have dv : DqAll X.K B1 vs ds := dv
        refine ⟨B1, ds, ev1.bh, dv, ?_⟩
        cases r2 : F ds with
        | no => rw [r2] at h; exact h
        | ex c => rw [r2] at h; exact fun C H' e s => h C H' e (ev1.he.trans s)
        | ok es => rw [r2] at h; exact fun l ws B' H' x b1 b2 b3 b4 => h l ws B' H' (x1.trans x) b1 (x1.h.free b2) b3 b4
      · exact h.elim
end
end PL

set_option Elab.async false
set_option linter.all false
set_option maxRecDepth 100000
set_option maxHeartbeats 1000000
/-! Plain work with what a function computes: no program in sight. -/
namespace PL
open PySem PySem.Spec PyProof.Rows L2

/-! ### what is applied is unfolded -/
def repR (ds : List D) (d : D) : Rs (List D) := match d with
  | .int k => if -(2 ^ 63) ≤ k ∧ k < 2 ^ 63 ∧ ds.length * k.toNat ≤ sizeLine then .ok (List.replicate k.toNat ds).flatten else .no
  | _ => .no
def rgR (ds : List D) : Rs (List D × List Nat) := match ds with
  | [.int j] => if -(2 ^ 62) ≤ j ∧ j < 2 ^ 62 then .ok (rgD 0 j.toNat, []) else .no
  | [.int i, .int j] => if -(2 ^ 62) ≤ i ∧ i < 2 ^ 62 ∧ -(2 ^ 62) ≤ j ∧ j < 2 ^ 62 then .ok (rgD i (j - i).toNat, []) else .no
  | _ => .no
section
variable {ρ : Rho} {m ma mb mc : Rho → Rs TD} {ms : Rho → Rs (List D × List Nat)}
@[simp] theorem v_mV {i : Nat} : mV i ρ = (match ρ[i]? with | some (.im d) => .ok (d, []) | some (.ow ds) => .ok (.list ds, [i]) | _ => .no) := nr rfl
@[simp] theorem v_mC {d : D} : mC d ρ = .ok (d, []) := nr rfl
@[simp] theorem v_mNil : mNil ρ = .ok ([], []) := nr rfl
@[simp] theorem v_mCons : mCons m ms ρ = (m ρ).bind fun q => (ms ρ).bind fun r => .ok (q.1 :: r.1, q.2 ++ r.2) := nr rfl
@[simp] theorem v_mF {F} : mF F ms ρ = (ms ρ).bind fun q => fin q.2 (F q.1) := nr rfl
@[simp] theorem v_fin {t : List Nat} {d : D} : fin t (some d) = .ok (d, keepT d t) := nr rfl
@[simp] theorem v_mB {F} : mB F ma mb ρ = (ma ρ).bind fun q => (mb ρ).bind fun r => fin (q.2 ++ r.2) (F q.1 r.1) := nr rfl
@[simp] theorem v_mTv : mTv m ρ = (m ρ).bind fun q => (match q.1 with | .bool b => .ok b | _ => .no) := nr rfl
@[simp] theorem v_mTnot {t} : mTnot t ρ = (t ρ).bind fun c => .ok (!c) := nr rfl
@[simp] theorem v_mTand {t u} : mTand t u ρ = (t ρ).bind fun c => if c = true then u ρ else .ok false := nr rfl
@[simp] theorem v_mTor {t u} : mTor t u ρ = (t ρ).bind fun c => if c = true then .ok true else u ρ := nr rfl
@[simp] theorem v_mAnd : mAnd ma mb ρ = (ma ρ).bind fun q => (match q.1 with | .bool true => mb ρ | .bool false => .ok (.bool false, []) | _ => .no) := nr rfl
@[simp] theorem v_mOr : mOr ma mb ρ = (ma ρ).bind fun q => (match q.1 with | .bool false => mb ρ | .bool true => .ok (.bool true, []) | _ => .no) := nr rfl
@[simp] theorem v_mNot : mNot ma ρ = (ma ρ).bind fun q => (match q.1 with | .bool k => .ok (.bool (!k), []) | _ => .no) := nr rfl
@[simp] theorem v_mIfE {t} : mIfE t ma mb ρ = (t ρ).bind fun c => if c = true then ma ρ else mb ρ := nr rfl
theorem v_mCh {F G} {mc : Rho → Rs TD} : mCh F G ma mb mc ρ = (ma ρ).bind fun q => (mb ρ).bind fun r => (match F q.1 r.1 with
  | some (.bool true) => (mc ρ).bind fun s => (match G r.1 s.1 with
    | some (.bool k) => .ok (.bool k, [])
    | _ => .no)
  | some (.bool false) => .ok (.bool false, [])
  | _ => .no) := nr rfl
@[simp] theorem v_mIsi {f} : mIsi f m ρ = (m ρ).bind fun q => .ok (.bool (f q.1), []) := nr rfl
@[simp] theorem v_mPn : mPn ρ = .ok none := nr rfl
@[simp] theorem v_mPs : mPs m ρ = (m ρ).bind fun q => (match q.1 with | .int i => .ok (some i) | _ => .no) := nr rfl
@[simp] theorem v_mSl {ml mh} : mSl m ml mh ρ = (m ρ).bind fun q => (ml ρ).bind fun l => (mh ρ).bind fun u => fin q.2 (slD l u q.1) := nr rfl
@[simp] theorem v_mIxO {j : Nat} : mIxO j m ρ = (match ρ[j]? with
  | some (.ow ds) => (m ρ).bind fun q => (match q.1 with
    | .int k => (match atI ds k with
      | some d => .ok (d, [])
      | none => .no)
    | _ => .no)
  | _ => mB ixD (mV j) m ρ) := nr rfl
@[simp] theorem v_mJ : mJ ma m ρ = (ma ρ).bind fun q => (match q.1 with | .str a => (m ρ).bind fun r => fin [] (joinD (.str a) r.1) | _ => .no) := nr rfl
@[simp] theorem v_mOl : mOl ms ρ = (ms ρ).bind fun q => if q.2 = [] ∧ q.1.length ≤ 1000 then .ok q.1 else .no := nr rfl
@[simp] theorem v_mOr2 {mo} : mOr2 mo m ρ = (mo ρ).bind fun ds => (m ρ).bind fun q => repR ds q.1 := nr rfl
@[simp] theorem v_mOc : mOc m ρ = (m ρ).bind fun q => if q.2 = [] then (match q.1 with
  | .list ds => .ok ds
  | .tuple ds => .ok ds
  | _ => .no) else .no := nr rfl
theorem v_mOrev : mOrev m ρ = (m ρ).bind fun q => if q.2 = [] then (match q.1 with
  | .list ds => .ok ds.reverse
  | _ => .no) else .no := nr rfl
@[simp] theorem v_mBest : mBest ρ = (match ρ[1]?, ρ[2]?, ρ[3]? with
  | some (Sl.im .none), some (Sl.im (.int 1)), some (Sl.im d) => (match dctOf d with
    | some kvs => if (kvs.map (·.1)).Nodup ∧ 4 < ρ.length then .nx (((ρ.set 4 .un).set 1 (.im (bstD (bst kvs).1))).set 2 (.im (.int (bst kvs).2))) else .no
    | none => .no)
  | _, _, _ => .no) := nr rfl
@[simp] theorem v_nlF0 : nlFree [] = true := nr rfl
@[simp] theorem v_nlF1 {s : Sl} {ρ : Rho} : nlFree (s :: ρ) = (!s.isNl && nlFree ρ) := nr rfl
@[simp] theorem v_isNl1 {d : D} : (Sl.im d).isNl = false := nr rfl
@[simp] theorem v_isNl2 : Sl.un.isNl = false := nr rfl
@[simp] theorem v_isNl3 {d : List D} : (Sl.ow d).isNl = false := nr rfl
@[simp] theorem v_mSetN {i : Nat} : mSetN i ρ = if nlFree ρ = true then .nx (ρ.set i (.nl [[]])) else .no := nr rfl
@[simp] theorem v_mAppN {i : Nat} : mAppN i ρ = (match ρ[i]? with
  | some (.nl dss) => if dss.length < sizeLine then .nx (ρ.set i (.nl (dss ++ [[]]))) else .no
  | _ => .no) := nr rfl
@[simp] theorem v_mAppL {i : Nat} : mAppL i m ρ = (match ρ[i]? with
  | some (.nl dss) => (match dss[dss.length - 1]? with
    | some ds => (m ρ).fl fun q => if q.2 = [] ∧ ds.length < sizeLine then .nx (ρ.set i (.nl (dss.dropLast ++ [ds ++ [q.1]]))) else .no
    | none => .no)
  | _ => .no) := nr rfl
@[simp] theorem v_mRetN {i : Nat} : mRetN i ρ = (match ρ[i]? with
  | some (.nl dss) => .rt (.list (dss.map .list))
  | _ => .no) := nr rfl
@[simp] theorem v_mOrevO {j : Nat} : mOrevO j ρ = (match ρ[j]? with
  | some (.ow ds) => .ok ds.reverse
  | some (.im (.list ds)) => .ok ds.reverse
  | _ => .no) := nr rfl
@[simp] theorem v_mDget2 {j : Nat} : mDget2 j ma mb ρ = (match ρ[j]? with
  | some (.dk kvs) => (ma ρ).bind fun q => (mb ρ).bind fun r => (match keyOf q.1, r.1 with
    | some k, .int c => .ok (.int ((vI kvs k).getD c), [])
    | _, _ => .no)
  | _ => .no) := nr rfl
@[simp] theorem v_mDget {j : Nat} : mDget j m ρ = (match ρ[j]? with
  | some (.dk kvs) => (m ρ).bind fun q => (match (keyOf q.1).bind (vI kvs) with
    | some v => .ok (.int v, [])
    | none => .no)
  | _ => .no) := nr rfl
@[simp] theorem v_mDin {neg : Bool} {j : Nat} : mDin neg j m ρ = (match ρ[j]? with
  | some (.dk kvs) => (m ρ).bind fun q => (match keyOf q.1 with
    | some k => .ok (.bool (neg != (vI kvs k).isSome), [])
    | none => .no)
  | _ => .no) := nr rfl
@[simp] theorem v_mSetD {i : Nat} : mSetD i ρ = .nx (ρ.set i (.dk [])) := nr rfl
@[simp] theorem v_mDput {j : Nat} : mDput j m ma ρ = (match ρ[j]? with
  | some (.dk kvs) => (m ρ).fl fun q => (match q.1 with
    | .int v => (ma ρ).fl fun r => (match keyOf r.1 with
      | some k => if kvs.length < sizeLine then .nx (ρ.set j (.dk (pI kvs k v))) else .no
      | none => .no)
    | _ => .no)
  | _ => .no) := nr rfl
@[simp] theorem v_mRetD {i : Nat} : mRetD i ρ = (match ρ[i]? with
  | some (.dk kvs) => .rt (dctD kvs)
  | _ => .no) := nr rfl
@[simp] theorem v_mPar {is : List Nat} : mPar ms is ρ = (ms ρ).fl fun q => if q.2 = [] then (match is, q.1 with
  | [i, j], [d, e] => .nx ((ρ.set i (.im d)).set j (.im e))
  | [i, j, l], [d, e, f] => .nx (((ρ.set i (.im d)).set j (.im e)).set l (.im f))
  | _, _ => .no) else .no := nr rfl
@[simp] theorem v_mO {mo} : mO mo ρ = (mo ρ).bind fun ds => .ok (.list ds, []) := nr rfl
@[simp] theorem v_mCall {F} : mCall F ms ρ = (ms ρ).bind fun q => (F q.1).bind fun d => .ok (d, keepT d q.2) := nr rfl
@[simp] theorem v_mIter : mIter m ρ = (m ρ).bind fun q => (match q.1 with
  | .list ds => .ok (ds, q.2)
  | .tuple ds => .ok (ds, q.2)
  | .str z => .ok (charsD z, q.2)
  | _ => .no) := nr rfl
@[simp] theorem v_mRg : mRg ms ρ = (ms ρ).bind fun q => rgR q.1 := nr rfl
@[simp] theorem v_mEnum : mEnum ms ρ = (ms ρ).bind fun q => (match q.1 with | [.list ds] => .ok (enumD ds, q.2) | _ => .no) := nr rfl
@[simp] theorem v_mZip : mZip ms ρ = (ms ρ).bind fun q => (match q.1 with | [.list ds, .list es] => .ok (zipD ds es, q.2) | _ => .no) := nr rfl
@[simp] theorem v_mEnumA : mEnumA ms ρ = (ms ρ).bind fun q => (match q.1 with | [.list ds] => .ok (enumD ds, q.2) | [.tuple ds] => .ok (enumD ds, q.2) | _ => .no) := nr rfl
@[simp] theorem v_mZipA : mZipA ms ρ = (ms ρ).bind fun q => (match q.1 with | [.list ds, .list es] => .ok (zipD ds es, q.2) | [.tuple ds, .tuple es] => .ok (zipD ds es, q.2) | _ => .no) := nr rfl
@[simp] theorem v_gN {i : Nat} {d : D} : gN i d ρ = some (ρ.set i (.im d)) := nr rfl
@[simp] theorem v_gT {n : Nat} {g} {ds : List D} : gT n g (.tuple ds) ρ = if ds.length = n then g ds ρ else none := nr rfl
@[simp] theorem v_gs0 : gs0 [] ρ = some ρ := nr rfl
@[simp] theorem v_gsC {g r} {d : D} {ds : List D} : gsC g r (d :: ds) ρ = (g d ρ).bind (r ds) := nr rfl
@[simp] theorem v_opfl {α : Type} {a : α} {f : α → Fl} : Op.fl (some a) f = f a := nr rfl
@[simp] theorem v_rsfl {α : Type} {a : α} {f : α → Fl} : Rs.fl (.ok a) f = f a := nr rfl
@[simp] theorem v_rsfx {α : Type} {c : Str} {f : α → Fl} : Rs.fl (.ex c) f = .ex c := nr rfl
@[simp] theorem v_th {k : Rho → Fl} : (Fl.nx ρ).then k = k ρ := nr rfl
@[simp] theorem v_thr {d : D} {k : Rho → Fl} : (Fl.rt d).then k = .rt d := nr rfl
@[simp] theorem v_thx {c : Str} {k : Rho → Fl} : (Fl.ex c).then k = .ex c := nr rfl
@[simp] theorem v_thb {k : Rho → Fl} : (Fl.bk ρ).then k = .bk ρ := nr rfl
@[simp] theorem v_thc {k : Rho → Fl} : (Fl.ct ρ).then k = .ct ρ := nr rfl
@[simp] theorem v_mNext : mNext ρ = .nx ρ := nr rfl
@[simp] theorem v_mSeq {a b : Rho → Fl} : mSeq a b ρ = (a ρ).then b := nr rfl
@[simp] theorem v_mRet : mRet m ρ = (m ρ).fl fun q => .rt q.1 := nr rfl
@[simp] theorem v_mExpr : mExpr m ρ = (m ρ).fl fun _ => .nx ρ := nr rfl
@[simp] theorem v_mIf {t} {k l : Rho → Fl} : mIf t k l ρ = (t ρ).fl fun c => if c = true then k ρ else l ρ := nr rfl
@[simp] theorem v_mAsg {g} : mAsg m g ρ = (m ρ).fl fun q => Op.fl (g q.1 (frzT q.2 ρ)) fun ρ' => .nx ρ' := nr rfl
@[simp] theorem v_mSetO {i : Nat} {mo} : mSetO i mo ρ = (mo ρ).fl fun ds => .nx (ρ.set i (.ow ds)) := nr rfl
@[simp] theorem v_mApp {i : Nat} : mApp i m ρ = (match ρ[i]? with
  | some (.ow ds) => (m ρ).fl fun q => if q.2 = [] ∧ ds.length < sizeLine then .nx (ρ.set i (.ow (ds ++ [q.1]))) else .no
  | _ => .no) := nr rfl
@[simp] theorem v_mExt {i : Nat} {mo} : mExt i mo ρ = (match ρ[i]? with
  | some (.ow ds) => (mo ρ).fl fun q => if ds.length + q.length ≤ sizeLine then .nx (ρ.set i (.ow (ds ++ q))) else .no
  | _ => .no) := nr rfl
@[simp] theorem v_mPop {i : Nat} {g} : mPop i g ρ = (match ρ[i]? with
  | some (.ow ds) => (match ds[ds.length - 1]? with
    | some d => Op.fl (g d (ρ.set i (.ow ds.dropLast))) fun ρ' => .nx ρ'
    | none => .no)
  | _ => .no) := nr rfl
@[simp] theorem v_mSetIx {j : Nat} : mSetIx j m ma ρ = (match ρ[j]? with
  | some (.ow ds) => (m ρ).fl fun q => if q.2 = [] then (ma ρ).fl fun r => (match r.1 with
    | .int k => (match ixN ds.length k with
      | some n => .nx (ρ.set j (.ow (ds.set n q.1)))
      | none => .no)
    | _ => .no) else .no
  | _ => .no) := nr rfl
@[simp] theorem v_mFor {mi g b} : mFor mi g b ρ = (mi ρ).fl fun q => forL g b q.1 (frzT q.2 ρ) := nr rfl
@[simp] theorem v_mWhile {t b f} : mWhile t b f ρ = whileL t b (f ρ) ρ := nr rfl
@[simp] theorem v_mComp {mi g tt me vs} : mComp mi g tt me vs ρ = (mi ρ).bind fun q => fin q.2 ((compL g tt me (wipeR (frzT q.2 ρ) vs) q.1).o.bind compF) := nr rfl
@[simp] theorem v_wipe0 : wipeR ρ [] = ρ := nr rfl
@[simp] theorem v_wipe1 {v : Nat} {vs : List Nat} : wipeR ρ (v :: vs) = (wipeR ρ vs).set v .un := nr rfl
@[simp] theorem v_frz0 : frzT [] ρ = ρ := nr rfl
@[simp] theorem v_frz1 {i : Nat} {r : List Nat} : frzT (i :: r) ρ = (match (frzT r ρ)[i]? with | some (.ow ds) => (frzT r ρ).set i (.im (.list ds)) | _ => frzT r ρ) := nr rfl
@[simp] theorem v_tOne : tOne ρ = .ok true := nr rfl
@[simp] theorem v_fnrt {d : D} : (Fl.rt d).fn = .ok d := nr rfl
@[simp] theorem v_fnnx : (Fl.nx ρ).fn = .ok .none := nr rfl
@[simp] theorem v_fnex {c : Str} : (Fl.ex c).fn = .ex c := nr rfl
@[simp] theorem v_rso {α : Type} {a : α} : (Rs.ok a).o = some a := nr rfl
end
@[simp] theorem fl_I {i : Int} : flatD (.int i) = true := by simp [flatD]
@[simp] theorem fl_B {i : Bool} : flatD (.bool i) = true := by simp [flatD]
@[simp] theorem fl_S {i : Str} : flatD (.str i) = true := by simp [flatD]
@[simp] theorem fl_N : flatD .none = true := by simp [flatD]
@[simp] theorem fl_L {i : List D} : flatD (.list i) = false := by simp [flatD]
@[simp] theorem fl_T {i : List D} : flatD (.tuple i) = flatAll i := by simp [flatD]
@[simp] theorem fl_nil : flatAll [] = true := by simp [flatAll]
@[simp] theorem fl_cons {d : D} {ds : List D} : flatAll (d :: ds) = (flatD d && flatAll ds) := by simp [flatAll]
@[simp] theorem v_keep0 {d : D} : keepT d [] = [] := by unfold keepT; split <;> rfl
theorem keep_fl {d : D} {t : List Nat} (h : flatD d = true) : keepT d t = [] := if_pos h
theorem keep_nf {d : D} {t : List Nat} (h : flatD d = false) : keepT d t = t := if_neg (by rw [h]; decide)
@[simp] theorem v_keepI {i : Int} {t : List Nat} : keepT (.int i) t = [] := keep_fl fl_I
@[simp] theorem v_keepB {i : Bool} {t : List Nat} : keepT (.bool i) t = [] := keep_fl fl_B
@[simp] theorem v_keepS {i : Str} {t : List Nat} : keepT (.str i) t = [] := keep_fl fl_S
@[simp] theorem v_keepN {t : List Nat} : keepT .none t = [] := keep_fl fl_N
@[simp] theorem v_keepL {i : List D} {t : List Nat} : keepT (.list i) t = t := keep_nf fl_L
@[simp] theorem v_keepT {i : List D} {t : List Nat} : keepT (.tuple i) t = if flatAll i = true then [] else t := by unfold keepT; rw [fl_T]
@[simp] theorem v_nilap {t : List Nat} : ([] ++ t) = t := nr rfl

/-! ### how a run of statements ends -/
def IsFn (r : Rs D) (f : Fl) : Prop := f.fn = r
def NX (I : Rho → Prop) (f : Fl) : Prop := match f with
  | .nx ρ => I ρ
  | .ct ρ => I ρ
  | _ => False
/-- the body of a loop: goes on, breaks, ends the function -/
def BD (I B : Rho → Prop) (P : Fl → Prop) (f : Fl) : Prop := match f with
  | .nx ρ => I ρ
  | .ct ρ => I ρ
  | .bk ρ => B ρ
  | f => P f
@[simp] theorem NX_nx {I : Rho → Prop} {ρ : Rho} : NX I (.nx ρ) = I ρ := nr rfl
@[simp] theorem NX_ct {I : Rho → Prop} {ρ : Rho} : NX I (.ct ρ) = I ρ := nr rfl
@[simp] theorem BD_nx {I B : Rho → Prop} {P} {ρ : Rho} : BD I B P (.nx ρ) = I ρ := nr rfl
@[simp] theorem BD_ct {I B : Rho → Prop} {P} {ρ : Rho} : BD I B P (.ct ρ) = I ρ := nr rfl
@[simp] theorem BD_bk {I B : Rho → Prop} {P} {ρ : Rho} : BD I B P (.bk ρ) = B ρ := nr rfl
@[simp] theorem BD_rt {I B : Rho → Prop} {P : Fl → Prop} {d : D} : BD I B P (.rt d) = P (.rt d) := nr rfl
@[simp] theorem BD_ex {I B : Rho → Prop} {P : Fl → Prop} {d : Str} : BD I B P (.ex d) = P (.ex d) := nr rfl
@[simp] theorem IsFn_rt {r : Rs D} {d : D} : IsFn r (.rt d) = (.ok d = r) := nr rfl
@[simp] theorem IsFn_ex {r : Rs D} {d : Str} : IsFn r (.ex d) = (.ex d = r) := nr rfl
@[simp] theorem IsFn_nx {r : Rs D} {ρ : Rho} : IsFn r (.nx ρ) = (.ok .none = r) := nr rfl
theorem fn_of {b : Rho → Fl} {N n : Nat} {ds : List D} {r : Rs D} (h : ds.length = n) (k : IsFn r (b (ini N n ds))) : fnRun b N n ds = r := by
  unfold fnRun; rw [if_pos h]; exact k
@[simp] theorem v_ini0 {N n : Nat} {ds : List D} : ini N n ds = ds.map .im ++ List.replicate (N - n) .un := nr rfl

/-! ### loops -/
theorem then_next (f : Fl) : f.then mNext = f := by cases f <;> rfl
section
variable {α : Type} {enc : α → D} {g : D → Rho → Option Rho} {body k : Rho → Fl} {P : Fl → Prop} {ρ : Rho}
theorem forL_aux (xs : List α) (inv : List α → Rho → Prop) (st : ∀ done x rest ρ, xs = done ++ x :: rest → inv done ρ → ∃ ρ1, g (enc x) ρ = some ρ1 ∧ NX (inv (done ++ [x])) (body ρ1)) :
    ∀ (rest done : List α) (ρ : Rho), xs = done ++ rest → inv done ρ → ∃ ρ', forL g body (rest.map enc) ρ = .nx ρ' ∧ inv xs ρ' := by
  intro rest
  induction rest with
  | nil => intro done ρ e h; rw [List.append_nil] at e; subst e; exact ⟨ρ, rfl, h⟩
  | cons x rest ih =>
    intro done ρ e h
    obtain ⟨ρ1, h1, h2⟩ := st done x rest ρ e h
    rw [List.map_cons, forL, h1]
    simp only [v_opfl]
    have e' : xs = (done ++ [x]) ++ rest := by rw [e]; simp
    cases q : body ρ1 with
    | nx ρ2 => rw [q] at h2; exact ih _ ρ2 e' h2
    | ct ρ2 => rw [q] at h2; exact ih _ ρ2 e' h2
    | bk ρ2 => rw [q] at h2; exact h2.elim
    | rt d => rw [q] at h2; exact h2.elim
    | ex c => rw [q] at h2; exact h2.elim
    | no => rw [q] at h2; exact h2.elim
/-- a loop that goes through -/
theorem forL_P (xs : List α) (enc : α → D) (inv : List α → Rho → Prop) (h0 : inv [] ρ)
    (st : ∀ done x rest ρ, xs = done ++ x :: rest → inv done ρ → ∃ ρ1, g (enc x) ρ = some ρ1 ∧ NX (inv (done ++ [x])) (body ρ1))
    (fi : ∀ ρ', inv xs ρ' → P (k ρ')) : P ((forL g body (xs.map enc) ρ).then k) := by
  obtain ⟨ρ', h1, h2⟩ := forL_aux (enc := enc) xs inv st xs [] ρ rfl h0
  rw [h1]
  exact fi ρ' h2
theorem forL_Q (xs : List α) (enc : α → D) (inv : List α → Rho → Prop) (h0 : inv [] ρ)
    (st : ∀ done x rest ρ, xs = done ++ x :: rest → inv done ρ → ∃ ρ1, g (enc x) ρ = some ρ1 ∧ NX (inv (done ++ [x])) (body ρ1))
    (fi : ∀ ρ', inv xs ρ' → P (.nx ρ')) : P (forL g body (xs.map enc) ρ) := by
  obtain ⟨ρ', h1, h2⟩ := forL_aux (enc := enc) xs inv st xs [] ρ rfl h0
  rw [h1]
  exact fi ρ' h2
/-- the loop goes on -/
def Nxt {σ : Type} (inv : σ → Rho → Prop) (μ : σ → Nat) (s : σ) (ρ : Rho) : Prop := ∃ s', μ s' < μ s ∧ inv s' ρ
theorem whileL_P {σ : Type} {t : Rho → Rs Bool} (inv : σ → Rho → Prop) (μ : σ → Nat)
    (st : ∀ s ρ, inv s ρ → ∃ b, t ρ = .ok b ∧ (b = true → BD (Nxt inv μ s) (fun ρ' => P (k ρ')) (fun f => P (f.then k)) (body ρ)) ∧ (b = false → P (k ρ))) :
    ∀ (n : Nat) (s : σ) (ρ : Rho), inv s ρ → μ s < n → P ((whileL t body n ρ).then k) := by
  intro n
  induction n with
  | zero => intro s ρ _ h; omega
  | succ n ih =>
    intro s ρ h hn
    obtain ⟨b, h1, h2, h3⟩ := st s ρ h
    rw [whileL, h1]
    simp only [v_rsfl]
    cases b with
    | false => simpa using h3 rfl
    | true =>
      simp only [if_true]
      have h2 := h2 rfl
      cases q : body ρ with
      | nx ρ2 => rw [q] at h2; obtain ⟨s', hs, hi⟩ := h2; exact ih s' ρ2 hi (by omega)
      | ct ρ2 => rw [q] at h2; obtain ⟨s', hs, hi⟩ := h2; exact ih s' ρ2 hi (by omega)
      | bk ρ2 => rw [q] at h2; exact h2
      | rt d => rw [q] at h2; exact h2
      | ex c => rw [q] at h2; exact h2
      | no => rw [q] at h2; exact h2
end
theorem whileL_Q {body : Rho → Fl} {P : Fl → Prop} {σ : Type} {t : Rho → Rs Bool} (inv : σ → Rho → Prop) (μ : σ → Nat)
    (st : ∀ s ρ, inv s ρ → ∃ b, t ρ = .ok b ∧ (b = true → BD (Nxt inv μ s) (fun ρ' => P (.nx ρ')) P (body ρ)) ∧ (b = false → P (.nx ρ)))
    (n : Nat) (s : σ) (ρ : Rho) (h : inv s ρ) (hn : μ s < n) : P (whileL t body n ρ) := by
  rw [← then_next (whileL t body n ρ)]
  refine whileL_P inv μ (fun s ρ h => ?_) n s ρ h hn
  obtain ⟨b, h1, h2, h3⟩ := st s ρ h
  refine ⟨b, h1, fun e => ?_, fun e => by simpa using h3 e⟩
  have h2 := h2 e
  cases q : body ρ with
  | nx ρ2 => rw [q] at h2; exact h2
  | ct ρ2 => rw [q] at h2; exact h2
  | bk ρ2 => rw [q] at h2; simpa using h2
  | rt d => rw [q] at h2; simpa [then_next] using h2
  | ex c => rw [q] at h2; simpa [then_next] using h2
  | no => rw [q] at h2; simpa [BD, then_next] using h2
/-! comprehensions -/
theorem compL_eq {α : Type} {enc : α → D} {g : D → Rho → Option Rho} {tt : Rho → Rs Bool} {me : Rho → Rs TD} {ρ0 : Rho} (c : α → Bool) (f : α → D) : ∀ (xs : List α)
    (_ : ∀ x ∈ xs, ∃ ρ1, g (enc x) ρ0 = some ρ1 ∧ tt ρ1 = .ok (c x) ∧ (c x = true → me ρ1 = .ok (f x, []))), compL g tt me ρ0 (xs.map enc) = .ok ((xs.filter c).map f)
  | [], _ => rfl
  | x :: xs, h => by
    obtain ⟨ρ1, h1, h2, h3⟩ := h x List.mem_cons_self
    have ih := compL_eq c f xs fun y hy => h y (List.mem_cons_of_mem _ hy)
    rw [List.map_cons, compL, h1]
    simp only [h2, Rs.bind_ok]
    cases q : c x with
    | true => simp [h3 q, ih, q]
    | false => simp [ih, q]
theorem compL_all {α : Type} {enc : α → D} {g : D → Rho → Option Rho} {me : Rho → Rs TD} {ρ0 : Rho} (f : α → D) (xs : List α)
    (h : ∀ x ∈ xs, ∃ ρ1, g (enc x) ρ0 = some ρ1 ∧ me ρ1 = .ok (f x, [])) : compL g tOne me ρ0 (xs.map enc) = .ok (xs.map f) := by
  rw [compL_eq (fun _ => true) f xs fun x hx => by obtain ⟨ρ1, h1, h2⟩ := h x hx; exact ⟨ρ1, h1, rfl, fun _ => h2⟩]
  rw [List.filter_eq_self.mpr fun _ _ => rfl]
@[simp] theorem compF_of {rs : List D} (h : rs.length ≤ sizeLine) : compF rs = some (.list rs) := if_pos h

/-! ### data -/
theorem ixN_ok {n k : Nat} (h : k < n) : ixN n (k : Int) = some k := by
  unfold ixN
  rw [if_pos (by omega), if_pos (by omega)]
  simp
@[simp] theorem atI_nat {α : Type} {xs : List α} {k : Nat} (h : k < xs.length) : atI xs (k : Int) = some xs[k] := by
  unfold atI; rw [ixN_ok h]; simp [h]
theorem atI_ok {α : Type} {xs : List α} {k : Nat} {a : α} (h : xs[k]? = some a) : atI xs (k : Int) = some a := by
  obtain ⟨h1, h2⟩ := List.getElem?_eq_some_iff.mp h
  rw [atI_nat h1, h2]
@[simp] theorem atI_0 {α : Type} {a : α} {xs : List α} : atI (a :: xs) 0 = some a := atI_ok (k := 0) rfl
@[simp] theorem atI_1 {α : Type} {a b : α} {xs : List α} : atI (a :: b :: xs) 1 = some b := atI_ok (k := 1) rfl
@[simp] theorem atI_2 {α : Type} {a b c : α} {xs : List α} : atI (a :: b :: c :: xs) 2 = some c := atI_ok (k := 2) rfl
@[simp] theorem atI_3 {α : Type} {a b c d : α} {xs : List α} : atI (a :: b :: c :: d :: xs) 3 = some d := atI_ok (k := 3) rfl
@[simp] theorem atI_4 {α : Type} {a b c d e : α} {xs : List α} : atI (a :: b :: c :: d :: e :: xs) 4 = some e := atI_ok (k := 4) rfl

theorem small_lt {n : Nat} (h : n ≤ 10000000) : n < sizeLine := by show n < 16777216; omega
theorem small_le {n : Nat} (h : n ≤ 10000000) : n ≤ sizeLine := by show n ≤ 16777216; omega
theorem repR_ok {ds : List D} {n : Nat} (h : ds.length * n ≤ 10000000) (h2 : n ≤ 10000000) : repR ds (.int n) = .ok (List.replicate n ds).flatten := by
  have e : (-(2 ^ 63) ≤ (n : Int) ∧ (n : Int) < 2 ^ 63 ∧ ds.length * (n : Int).toNat ≤ sizeLine) := ⟨by omega, by omega, small_le (by rw [Int.toNat_natCast]; exact h)⟩
  unfold repR
  dsimp only
  rw [if_pos e, Int.toNat_natCast]
theorem repR_int {i : Int} {ds : List D} (h : ds.length * i.toNat ≤ 10000000) (h1 : -(2 ^ 62) ≤ i) (h2 : i < 2 ^ 62) : repR ds (.int i) = .ok (List.replicate i.toNat ds).flatten := by
  have e : (-(2 ^ 63) ≤ i ∧ i < 2 ^ 63 ∧ ds.length * i.toNat ≤ sizeLine) := ⟨by omega, by omega, small_le h⟩
  unfold repR
  dsimp only
  rw [if_pos e]
theorem rgR_1 {n : Nat} (h : n ≤ 10000000) : rgR [.int n] = .ok ((List.range n).map fun j => .int (j : Nat), []) := by
  have e : -(2 ^ 62) ≤ (n : Int) ∧ (n : Int) < 2 ^ 62 := ⟨by omega, by omega⟩
  unfold rgR
  dsimp only
  rw [if_pos e, Int.toNat_natCast]
  simp only [rgD, Int.zero_add]
theorem rgR_int {i : Int} (h1 : -(2 ^ 62) ≤ i) (h2 : i < 2 ^ 62) : rgR [.int i] = .ok ((List.range i.toNat).map fun j => .int (j : Nat), []) := by
  have e : -(2 ^ 62) ≤ i ∧ i < 2 ^ 62 := ⟨h1, h2⟩
  unfold rgR
  dsimp only
  rw [if_pos e]
  simp only [rgD, Int.zero_add]
theorem rgR_2 {a n : Nat} (h : n ≤ 10000000) (h2 : a ≤ 10000000) : rgR [.int a, .int n] = .ok ((List.range (n - a)).map fun j => .int ((a + j : Nat) : Int), []) := by
  have e : -(2 ^ 62) ≤ (a : Int) ∧ (a : Int) < 2 ^ 62 ∧ -(2 ^ 62) ≤ (n : Int) ∧ (n : Int) < 2 ^ 62 := ⟨by omega, by omega, by omega, by omega⟩
  have e2 : ((n : Int) - (a : Int)).toNat = n - a := by omega
  unfold rgR
  dsimp only
  rw [if_pos e, e2]
  simp only [rgD]
  congr 2
end PL

set_option Elab.async false
set_option linter.all false
set_option maxRecDepth 100000
set_option maxHeartbeats 1000000
/-! Symbols, rules, books. -/
namespace PL
open PySem PySem.Spec PyProof.Rows L2
inductive Sy where
  | s (c : Nat)
  | n (k : Nat)
  deriving DecidableEq
def ch (c : Nat) : D := .str ⟨#[c]⟩
def Sy.d : Sy → D
  | .s c => ch c
  | .n k => .int k
@[simp] theorem d_s {c : Nat} : (Sy.s c).d = ch c := nr rfl
@[simp] theorem d_n {c : Nat} : (Sy.n c).d = .int c := nr rfl
def rlD (r : Sy × Sy) : D := .tuple [r.1.d, r.2.d]
def bkD (rs : List (Sy × Sy)) (row : List Sy) : D := .tuple [.list (rs.map rlD), .list (row.map Sy.d)]
def Sy.ok (m : Nat) : Sy → Prop
  | .s c => c < 1114112
  | .n k => k < m
@[simp] theorem ok_s {m c : Nat} : (Sy.s c).ok m = (c < 1114112) := nr rfl
@[simp] theorem ok_n {m c : Nat} : (Sy.n c).ok m = (c < m) := nr rfl
theorem Sy.ok.mono {m m' : Nat} (h : m ≤ m') : ∀ {s : Sy}, s.ok m → s.ok m'
  | .s _, h' => h'
  | .n _, h' => Nat.lt_of_lt_of_le h' h
def RsOk (rs : List (Sy × Sy)) : Prop := ∀ (i : Nat) (r : Sy × Sy), rs[i]? = some r → r.1.ok i ∧ r.2.ok i
def RoOk (m : Nat) (row : List Sy) : Prop := ∀ s, s ∈ row → s.ok m
structure BkOk (rs : List (Sy × Sy)) (row : List Sy) : Prop where
  hr : RsOk rs
  ho : RoOk rs.length row
  n1 : rs.length ≤ 600
  n2 : row.length ≤ 2000
theorem RsOk.nil : RsOk [] := fun i r h => by simp at h
theorem RsOk.snoc {rs : List (Sy × Sy)} (h : RsOk rs) {a b : Sy} (ha : a.ok rs.length) (hb : b.ok rs.length) : RsOk (rs ++ [(a, b)]) := fun i r e => by
  rcases Nat.lt_trichotomy i rs.length with q | q | q
  · rw [List.getElem?_append_left q] at e; exact h i r e
  · subst q; simp at e; subst e; exact ⟨ha, hb⟩
  · rw [List.getElem?_append_right (by omega)] at e
    have : i - rs.length ≠ 0 := by omega
    cases q2 : i - rs.length with
    | zero => omega
    | succ k => rw [q2] at e; simp at e
theorem RsOk.at {rs done rest : List (Sy × Sy)} {x : Sy × Sy} (h : RsOk rs) (e : rs = done ++ x :: rest) : x.1.ok done.length ∧ x.2.ok done.length :=
  h done.length x (by rw [e]; simp)
theorem RsOk.pre {rs done rest : List (Sy × Sy)} (h : RsOk rs) (e : rs = done ++ rest) : RsOk done := fun i r q => by
  refine h i r ?_
  obtain ⟨h1, h2⟩ := List.getElem?_eq_some_iff.mp q
  rw [e, List.getElem?_append_left h1]; exact q

/-! ### what is worked out rule by rule -/
section
variable {α : Type} (leaf : Nat → α) (z : α) (node : α → α → α)
def val (acc : List α) : Sy → α
  | .s c => leaf c
  | .n k => (acc[k]?).getD z
def evs (rs : List (Sy × Sy)) : List α := rs.foldl (fun acc r => acc ++ [node (val leaf z acc r.1) (val leaf z acc r.2)]) []
@[simp] theorem val_s {acc : List α} {c : Nat} : val leaf z acc (.s c) = leaf c := nr rfl
theorem val_n {acc : List α} {k : Nat} (h : k < acc.length) : val leaf z acc (.n k) = acc[k] := by simp [val, h]
theorem evs_snoc (rs : List (Sy × Sy)) (r : Sy × Sy) : evs leaf z node (rs ++ [r]) = evs leaf z node rs ++ [node (val leaf z (evs leaf z node rs) r.1) (val leaf z (evs leaf z node rs) r.2)] := by
  unfold evs; rw [List.foldl_append]; rfl
@[simp] theorem evs_nil : evs leaf z node [] = [] := nr rfl
theorem evs_len : ∀ (rs : List (Sy × Sy)), (evs leaf z node rs).length = rs.length := fun rs => by
  have : ∀ (rs : List (Sy × Sy)) (acc : List α), (rs.foldl (fun acc r => acc ++ [node (val leaf z acc r.1) (val leaf z acc r.2)]) acc).length = acc.length + rs.length := by
    intro rs
    induction rs with
    | nil => intro acc; rfl
    | cons r rs ih => intro acc; rw [List.foldl_cons, ih]; simp; omega
  unfold evs; rw [this]; simp
theorem val_app {acc acc' : List α} : ∀ {s : Sy}, s.ok acc.length → val leaf z (acc ++ acc') s = val leaf z acc s
  | .s _, _ => rfl
  | .n k, h => by
    have h : k < acc.length := h
    simp [val, List.getElem?_append_left h]
theorem evs_pre (rs : List (Sy × Sy)) : ∀ (rs' : List (Sy × Sy)), ∃ t, evs leaf z node (rs ++ rs') = evs leaf z node rs ++ t := fun rs' => by
  have : ∀ (rs' : List (Sy × Sy)) (acc : List α), ∃ t, rs'.foldl (fun acc r => acc ++ [node (val leaf z acc r.1) (val leaf z acc r.2)]) acc = acc ++ t := by
    intro rs'
    induction rs' with
    | nil => intro acc; exact ⟨[], by simp⟩
    | cons r rs' ih => intro acc; obtain ⟨t, ht⟩ := ih (acc ++ [node (val leaf z acc r.1) (val leaf z acc r.2)]); exact ⟨[node (val leaf z acc r.1) (val leaf z acc r.2)] ++ t, by rw [List.foldl_cons, ht]; simp⟩
  unfold evs
  rw [List.foldl_append]
  exact this _ _
/-- a symbol's value does not change as rules come -/
theorem val_evs {rs rs' : List (Sy × Sy)} {s : Sy} (h : s.ok rs.length) : val leaf z (evs leaf z node (rs ++ rs')) s = val leaf z (evs leaf z node rs) s := by
  obtain ⟨t, ht⟩ := evs_pre leaf z node rs rs'
  rw [ht]
  exact val_app leaf z (by rw [evs_len]; exact h)
theorem evs_at {rs : List (Sy × Sy)} (h : RsOk rs) {k : Nat} {r : Sy × Sy} (hk : rs[k]? = some r) : (evs leaf z node rs)[k]? = some (node (val leaf z (evs leaf z node rs) r.1) (val leaf z (evs leaf z node rs) r.2)) := by
  obtain ⟨h1, h2⟩ := List.getElem?_eq_some_iff.mp hk
  have e : rs = (rs.take k ++ [r]) ++ rs.drop (k + 1) := by
    have := List.take_append_drop k rs
    rw [List.drop_eq_getElem_cons h1, h2] at this
    simpa using this.symm
  have l : (rs.take k).length = k := by simp; omega
  have o := h k r hk
  have v1 : ∀ s : Sy, s.ok k → val leaf z (evs leaf z node rs) s = val leaf z (evs leaf z node (rs.take k)) s := fun s hs => by
    conv => lhs; rw [e, List.append_assoc]
    exact val_evs leaf z node (by rw [l]; exact hs)
  rw [v1 _ o.1, v1 _ o.2]
  obtain ⟨t, ht⟩ := evs_pre leaf z node (rs.take k ++ [r]) (rs.drop (k + 1))
  rw [← e, evs_snoc] at ht
  rw [ht, List.getElem?_append_left (by simp [evs_len, l]), List.getElem?_append_right (by simp [evs_len, l])]
  simp [evs_len, l]
theorem val_at {rs : List (Sy × Sy)} (h : RsOk rs) {k : Nat} {r : Sy × Sy} (hk : rs[k]? = some r) : val leaf z (evs leaf z node rs) (.n k) = node (val leaf z (evs leaf z node rs) r.1) (val leaf z (evs leaf z node rs) r.2) := by
  show ((evs leaf z node rs)[k]?).getD z = _
  rw [evs_at leaf z node h hk]; rfl
end

/-! ### what a symbol says of itself -/
@[simp] theorem isStr_ch {c : Nat} : isStr (ch c) = true := nr rfl
@[simp] theorem isStr_int {i : Int} : isStr (.int i) = false := nr rfl
@[simp] theorem isStr_s {z : Str} : isStr (.str z) = true := nr rfl
@[simp] theorem isInt_ch {c : Nat} : isInt (ch c) = false := nr rfl
@[simp] theorem isInt_int {i : Int} : isInt (.int i) = true := nr rfl
@[simp] theorem isBool_int {i : Int} : isBool (.int i) = false := nr rfl
@[simp] theorem isTup_t {ds : List D} : isTup (.tuple ds) = true := nr rfl
@[simp] theorem isList_l {ds : List D} : isList (.list ds) = true := nr rfl
@[simp] theorem isTup_rl {r : Sy × Sy} : isTup (rlD r) = true := nr rfl
def Sy.isS : Sy → Bool
  | .s _ => true
  | .n _ => false
@[simp] theorem isStr_d {s : Sy} : isStr s.d = s.isS := by cases s <;> rfl
@[simp] theorem isInt_d {s : Sy} : isInt s.d = !s.isS := by cases s <;> rfl
@[simp] theorem isBool_d {s : Sy} : isBool s.d = false := by cases s <;> rfl
@[simp] theorem fl_ch {c : Nat} : flatD (ch c) = true := fl_S
@[simp] theorem fl_d {s : Sy} : flatD s.d = true := by cases s <;> simp
@[simp] theorem keep_d {s : Sy} {t : List Nat} : keepT s.d t = [] := keep_fl fl_d
@[simp] theorem len_list {ds : List D} : lenF [.list ds] = some (.int ds.length) := nr rfl
@[simp] theorem len_tup {ds : List D} : lenF [.tuple ds] = some (.int ds.length) := nr rfl
@[simp] theorem len_ch {c : Nat} : lenF [ch c] = some (.int 1) := nr rfl
@[simp] theorem ix_list {ds : List D} {i : Int} : ixD (.list ds) (.int i) = atI ds i := nr rfl
@[simp] theorem ix_tup {ds : List D} {i : Int} : ixD (.tuple ds) (.int i) = atI ds i := nr rfl
@[simp] theorem ix_rl0 {r : Sy × Sy} : ixD (rlD r) (.int 0) = some r.1.d := nr rfl
@[simp] theorem ix_rl1 {r : Sy × Sy} : ixD (rlD r) (.int 1) = some r.2.d := nr rfl
@[simp] theorem ix_bk0 {rs : List (Sy × Sy)} {row : List Sy} : ixD (bkD rs row) (.int 0) = some (.list (rs.map rlD)) := nr rfl
@[simp] theorem ix_bk1 {rs : List (Sy × Sy)} {row : List Sy} : ixD (bkD rs row) (.int 1) = some (.list (row.map Sy.d)) := nr rfl
@[simp] theorem add_int {i j : Int} : addD (.int i) (.int j) = some (.int (i + j)) := nr rfl
@[simp] theorem sub_int {i j : Int} : subD (.int i) (.int j) = some (.int (i - j)) := nr rfl
@[simp] theorem lt_int {i j : Int} : ltD (.int i) (.int j) = some (.bool (decide (i < j))) := nr rfl
@[simp] theorem le_int {i j : Int} : leD (.int i) (.int j) = some (.bool (decide (i ≤ j))) := nr rfl
@[simp] theorem gt_int {i j : Int} : gtD (.int i) (.int j) = some (.bool (decide (j < i))) := nr rfl
@[simp] theorem ge_int {i j : Int} : geD (.int i) (.int j) = some (.bool (decide (j ≤ i))) := nr rfl
@[simp] theorem max_int {i j : Int} : max2F [.int i, .int j] = some (.int (max i j)) := nr rfl
@[simp] theorem min_int {i j : Int} : min2F [.int i, .int j] = some (.int (min i j)) := nr rfl
theorem shaped_int {i : Int} : SeqAt.shaped (.int i) = true := by simp [SeqAt.shaped, PyData.canLay0, PyData.depth]
@[simp] theorem eq_int {i j : Int} : eqD (.int i) (.int j) = some (.bool (decide (i = j))) := by
  simp [eqD, shaped_int, PyData.eqv]; rfl
@[simp] theorem ne_int {i j : Int} : neD (.int i) (.int j) = some (.bool (!decide (i = j))) := by
  simp [neD, shaped_int, PyData.eqv]; rfl
@[simp] theorem tup_of {ds : List D} (h : ds.length ≤ 1000) : tupF ds = some (.tuple ds) := if_pos h
@[simp] theorem lst_of {ds : List D} (h : ds.length ≤ 1000) : lstF ds = some (.list ds) := if_pos h
theorem enumD_map {α : Type} (f : α → D) (xs : List α) : enumD (xs.map f) = xs.zipIdx.map fun p => .tuple [.int (p.2 : Nat), f p.1] := by
  unfold enumD
  rw [List.zipIdx_map, List.map_map]
  rfl
theorem zipIdx_at {α : Type} {xs : List α} {done rest : List (α × Nat)} {x : α × Nat} (e : xs.zipIdx = done ++ x :: rest) : x.2 = done.length ∧ xs[done.length]? = some x.1 := by
  have h : xs.zipIdx[done.length]? = some x := by rw [e]; simp
  rw [List.getElem?_zipIdx] at h
  cases q : xs[done.length]? with
  | none => rw [q] at h; cases h
  | some y => rw [q] at h; simp at h; rw [← h]; simp
theorem asInts_mapF {α : Type} (f : α → Int) : ∀ xs : List α, asInts (xs.map fun x => .int (f x)) = some (xs.map f)
  | [] => rfl
  | x :: xs => by rw [List.map_cons, asInts, asInts_mapF f xs]; rfl
@[simp] theorem asInts_mapI (xs : List Int) : asInts (xs.map PyData.int) = some xs := by
  have := asInts_mapF (fun i : Int => i) xs
  simpa using this
theorem sum_map {α : Type} (f : α → Int) (xs : List α) : sumF [.list (xs.map fun x => .int (f x))] = some (.int (xs.map f).sum) := by
  show (asInts (xs.map fun x => .int (f x))).map (fun ns => PyData.int ns.sum) = _
  rw [asInts_mapF]; rfl
def maxl (ns : List Int) : Int := maxdI 0 ns
theorem maxd_map {α : Type} (f : α → Int) (xs : List α) : maxdF 0 [.list (xs.map fun x => .int (f x))] = some (.int (maxl (xs.map f))) := by
  show (asInts (xs.map fun x => .int (f x))).map (fun ns => PyData.int (maxdI 0 ns)) = _
  rw [asInts_mapF]
  rfl
theorem mem_mid {α : Type} {xs done rest : List α} {x : α} (e : xs = done ++ x :: rest) : x ∈ xs := by rw [e]; simp

/-! ### the script -/
def intsD (ns : List Int) : D := .list (ns.map .int)
@[simp] theorem len_scr {ns : List Int} : lenF [scrD ns] = some (.int ns.length) := by simp [scrD, lenF]
@[simp] theorem ix_scr {ns : List Int} {i : Int} : ixD (scrD ns) (.int i) = (atI ns i).map .int := scr_at ns i
theorem cutL_map {α β : Type} (f : α → β) (xs : List α) (lo hi : Option Int) : cutL (xs.map f) lo hi = (cutL xs lo hi).map f := by
  unfold cutL; simp [List.map_take, List.map_drop]
@[simp] theorem sl_scr {ns : List Int} {lo hi : Option Int} : slD lo hi (scrD ns) = some (intsD (cutL ns lo hi)) := by
  unfold scrD slD
  simp only [List.map_map, intsD, ← cutL_map]
  rfl
@[simp] theorem sl_list {ds : List D} {lo hi : Option Int} : slD lo hi (.list ds) = some (.list (cutL ds lo hi)) := nr rfl
@[simp] theorem fl_ints {ns : List Int} : flatD (intsD ns) = false := fl_L
@[simp] theorem keep_ints {ns : List Int} {t : List Nat} : keepT (intsD ns) t = t := keep_nf fl_ints
@[simp] theorem isList_ints {ns : List Int} : isList (intsD ns) = true := nr rfl
@[simp] theorem len_ints {ns : List Int} : lenF [intsD ns] = some (.int ns.length) := by simp [intsD]
@[simp] theorem ix_ints {ns : List Int} {i : Int} : ixD (intsD ns) (.int i) = (atI ns i).map .int := by
  unfold intsD ixD atI
  simp only [List.length_map]
  cases ixN ns.length i with
  | none => rfl
  | some j => simp
theorem cutL_nn {α : Type} (xs : List α) (a b : Nat) : cutL xs (some (a : Int)) (some (b : Int)) = (xs.drop a).take (b - a) := by
  unfold cutL
  rw [HT.sIx_nat, HT.sIx_nat]
  apply List.ext_getElem?
  intro i
  simp only [List.getElem?_take, List.getElem?_drop]
  by_cases h : a ≤ xs.length
  · rw [Nat.min_eq_left h]
    by_cases h2 : i < min b xs.length - a
    · rw [if_pos h2, if_pos (by omega)]
    · rw [if_neg h2]
      split
      · rw [List.getElem?_eq_none (l := xs) (i := a + i) (by omega)]
      · rfl
  · rw [Nat.min_eq_right (show xs.length ≤ a by omega)]
    rw [List.getElem?_eq_none (l := xs) (i := xs.length + i) (by omega), List.getElem?_eq_none (l := xs) (i := a + i) (by omega)]
    simp
theorem cutL_n {α : Type} (xs : List α) (a : Nat) : cutL xs (some (a : Int)) none = xs.drop a := by
  unfold cutL
  rw [HT.sIx_nat, HT.sIx_none]
  by_cases h : a ≤ xs.length
  · rw [Nat.min_eq_left h]
    apply List.take_of_length_le; simp
  · rw [Nat.min_eq_right (by omega)]
    rw [List.drop_eq_nil_of_le (show xs.length ≤ a by omega)]
    simp
theorem cutL_0n {α : Type} (xs : List α) (b : Nat) : cutL xs none (some (b : Int)) = xs.take b := by
  unfold cutL
  rw [HT.sIx_nat, HT.sIx_none]
  simp only [List.drop_zero, Nat.sub_zero]
  by_cases h : b ≤ xs.length
  · rw [Nat.min_eq_left h]
  · rw [Nat.min_eq_right (by omega), List.take_of_length_le (Nat.le_refl _), List.take_of_length_le (by omega)]
/-! sums -/
theorem fdiv_int {i j : Int} (h : 0 < j ∧ j < 1073741824) : fdivD (.int i) (.int j) = some (.int (i / j)) := if_pos h
theorem mod_int {i j : Int} (h : 0 < j) : modD (.int i) (.int j) = some (.int (i % j)) := if_pos h
theorem mul_int {i j : Int} (h : -(2 ^ 64) < i ∧ i < 2 ^ 64) : mulD (.int i) (.int j) = some (.int (i * j)) := if_pos (.inl h)
theorem mul_int' {i j : Int} (h : -(2 ^ 64) < j ∧ j < 2 ^ 64) : mulD (.int i) (.int j) = some (.int (i * j)) := if_pos (.inr h)

/-! ### the signs -/
def sgs : Str := (" !\"#$&'()*+,-./0123456789:;<=>?@ABCDEFGHIJKLMNOPQRSTUVWXYZ[\\]^_`" : Str) ++ ("abcdefghijklmnopqrstuvwxyz{|}~\n" : Str)
theorem sgs_len : sgs.cps.toList.length = 95 := by decide +kernel
def sgn (c : Int) : Nat := sgs.cps.toList.getD (c % 95).toNat 0
theorem sgn_mem (c : Int) : sgn c ∈ sgs.cps.toList := by
  have h : (c % 95).toNat < sgs.cps.toList.length := by rw [sgs_len]; omega
  unfold sgn
  rw [List.getD_eq_getElem?_getD, List.getElem?_eq_getElem h]
  exact List.getElem_mem h
theorem sgs_small : ∀ c, c ∈ sgs.cps.toList → c ≤ 126 := by decide +kernel
theorem sgn_small (c : Int) : sgn c < 1114112 := by have := sgs_small _ (sgn_mem c); omega
def syBy (cell first : Int) (many : Nat) : Sy :=
  if many = 0 ∨ cell % 3 = 0 then .s (sgn (first + cell / 3 % 3 * (1 + first / 95 % 94))) else if cell % 3 = 1 then .n (many - 1) else .n (cell / 3 % many).toNat
theorem syBy_ok (cell first : Int) (many : Nat) : (syBy cell first many).ok many := by
  unfold syBy
  split
  · exact sgn_small _
  · rename_i h
    split
    · simp; omega
    · simp
      have := Int.emod_nonneg (cell / 3) (b := (many : Int)) (by omega)
      have := Int.emod_lt_of_pos (cell / 3) (b := (many : Int)) (by omega)
      omega
def bkStep (first : Int) (b : List (Sy × Sy) × List Sy) (c : Int) : List (Sy × Sy) × List Sy :=
  if c % 3 < 2 then (b.1 ++ [(syBy (c / 3) first b.1.length, syBy (c / 47) first b.1.length)], b.2) else (b.1, b.2 ++ [syBy (c / 3) first b.1.length])
def bkBy (cells : List Int) (first : Int) : List (Sy × Sy) × List Sy := cells.foldl (bkStep first) ([], [])
theorem bkBy_snoc (cells : List Int) (c first : Int) : bkBy (cells ++ [c]) first = bkStep first (bkBy cells first) c := by unfold bkBy; rw [List.foldl_append]; rfl
theorem bkBy_ok (first : Int) (cells : List Int) : RsOk (bkBy cells first).1 ∧ RoOk (bkBy cells first).1.length (bkBy cells first).2 ∧ (bkBy cells first).1.length + (bkBy cells first).2.length = cells.length := by
  have h : ∀ (cells : List Int) (b : List (Sy × Sy) × List Sy), RsOk b.1 → RoOk b.1.length b.2 → RsOk (cells.foldl (bkStep first) b).1 ∧ RoOk (cells.foldl (bkStep first) b).1.length (cells.foldl (bkStep first) b).2 ∧ (cells.foldl (bkStep first) b).1.length + (cells.foldl (bkStep first) b).2.length = b.1.length + b.2.length + cells.length := by
    intro cells
    induction cells with
    | nil => intro b h1 h2; exact ⟨h1, h2, rfl⟩
    | cons c cells ih =>
      intro b h1 h2
      rw [List.foldl_cons]
      have k : RsOk (bkStep first b c).1 ∧ RoOk (bkStep first b c).1.length (bkStep first b c).2 ∧ (bkStep first b c).1.length + (bkStep first b c).2.length = b.1.length + b.2.length + 1 := by
        unfold bkStep
        split
        · refine ⟨h1.snoc (syBy_ok ..) (syBy_ok ..), fun s hs => (h2 s hs).mono (by simp), by simp; omega⟩
        · refine ⟨h1, fun s hs => ?_, by simp; omega⟩
          rcases List.mem_append.mp hs with q | q
          · exact h2 s q
          · simp at q; subst q; exact syBy_ok ..
      obtain ⟨i1, i2, i3⟩ := ih _ k.1 k.2.1
      refine ⟨i1, i2, by rw [i3, k.2.2]; simp; omega⟩
  have := h cells ([], []) RsOk.nil (fun s hs => by simp at hs)
  simpa [bkBy] using this
theorem bkBy_bk (first : Int) (cells : List Int) (h : cells.length ≤ 600) : BkOk (bkBy cells first).1 (bkBy cells first).2 := by
  obtain ⟨h1, h2, h3⟩ := bkBy_ok first cells
  exact ⟨h1, h2, by omega, by omega⟩
/-! ### alike -/
theorem lay_d {m : Nat} : ∀ {s : Sy}, s.ok m → s.d.canLay0 = true
  | .s c, h => by
    have h : c < 1114112 := h
    simp [ch, PyData.canLay0, PyData.strOk, h]
  | .n k, _ => by simp [PyData.canLay0]
theorem dep_d (s : Sy) : s.d.depth ≤ 0 := by cases s <;> simp [ch, PyData.depth]
theorem layAll {α : Type} (f : α → D) : ∀ xs : List α, (∀ a, a ∈ xs → (f a).canLay0 = true) → PyData.canLayAll0 (xs.map f) = true
  | [], _ => by simp [PyData.canLayAll0]
  | x :: xs, h => by simp [PyData.canLayAll0, h x (by simp), layAll f xs fun a ha => h a (by simp [ha])]
theorem depAll {α : Type} (f : α → D) (n : Nat) (h : ∀ a, (f a).depth ≤ n) : ∀ xs : List α, PyData.depthAll (xs.map f) ≤ n
  | [] => by simp [PyData.depthAll]
  | x :: xs => by rw [List.map_cons, PyData.depthAll]; exact Nat.max_le.mpr ⟨h x, depAll f n h xs⟩
theorem shaped_of {d : D} (h : d.canLay0 = true) (h2 : d.depth ≤ 64) : SeqAt.shaped d = true := by simp [SeqAt.shaped, h, h2]
theorem eqD_refl {d : D} (h : SeqAt.shaped d = true) : eqD d d = some (.bool true) := by
  unfold eqD; rw [if_pos ⟨h, h⟩, SeqAt.eqv_refl _ (SeqAt.canLay_of_shaped h)]
theorem neD_refl {d : D} (h : SeqAt.shaped d = true) : neD d d = some (.bool false) := by
  unfold neD; rw [if_pos ⟨h, h⟩, SeqAt.eqv_refl _ (SeqAt.canLay_of_shaped h)]; rfl
theorem shaped_ints (ns : List Int) : SeqAt.shaped (intsD ns) = true := by
  refine shaped_of ?_ ?_
  · simp only [intsD, PyData.canLay0]; exact layAll _ _ fun a _ => by simp [PyData.canLay0]
  · have := depAll PyData.int 0 (fun a => by simp [PyData.depth]) ns
    simp only [intsD, PyData.depth]; omega
theorem lay_bk {rs : List (Sy × Sy)} {row : List Sy} (h : RsOk rs) (h2 : RoOk rs.length row) : (bkD rs row).canLay0 = true := by
  simp only [bkD, PyData.canLay0, PyData.canLayAll0, Bool.and_true, Bool.and_eq_true]
  refine ⟨layAll _ _ fun r hr => ?_, layAll _ _ fun s hs => lay_d (h2 s hs)⟩
  obtain ⟨i, hi⟩ := List.mem_iff_getElem?.mp hr
  have := h i r hi
  simp [rlD, PyData.canLay0, PyData.canLayAll0, lay_d this.1, lay_d this.2]
theorem dep_rl (r : Sy × Sy) : (rlD r).depth ≤ 1 := by
  have h1 := dep_d r.1
  have h2 := dep_d r.2
  simp only [rlD, PyData.depth, PyData.depthAll]; omega
theorem shaped_bk {rs : List (Sy × Sy)} {row : List Sy} (h : RsOk rs) (h2 : RoOk rs.length row) : SeqAt.shaped (bkD rs row) = true := by
  refine shaped_of (lay_bk h h2) ?_
  have h1 := depAll rlD 1 dep_rl rs
  have h2 := depAll Sy.d 0 dep_d row
  simp only [bkD, PyData.depth, PyData.depthAll]; omega
theorem add_str {x y : Str} (h : x.length + y.length ≤ sizeLine) : addD (.str x) (.str y) = some (.str (x ++ y)) := if_pos h
theorem sgs_add : addD (.str (" !\"#$&'()*+,-./0123456789:;<=>?@ABCDEFGHIJKLMNOPQRSTUVWXYZ[\\]^_`" : Str)) (.str ("abcdefghijklmnopqrstuvwxyz{|}~\n" : Str)) = some (.str sgs) := add_str (by decide +kernel)
theorem ix_sgs (c : Int) : ixD (.str sgs) (.int (c % 95)) = some (ch (sgn c)) := by
  have h : (c % 95).toNat < sgs.cps.toList.length := by rw [sgs_len]; omega
  have e : c % 95 = ((c % 95).toNat : Int) := by omega
  show (if sgs.length ≤ sizeLine then (atI sgs.cps.toList (c % 95)).map fun c => PyData.str ⟨#[c]⟩ else none) = _
  rw [if_pos (by decide +kernel), e, atI_nat h]
  unfold sgn
  rw [List.getD_eq_getElem?_getD, List.getElem?_eq_getElem h]
  rfl
@[simp] theorem keep_ch {c : Nat} {t : List Nat} : keepT (ch c) t = [] := keep_fl fl_ch
@[simp] theorem keep_scr {ns : List Int} {t : List Nat} : keepT (scrD ns) t = t := keep_nf (by simp [scrD, flatD])
@[simp] theorem fl_bk {rs : List (Sy × Sy)} {row : List Sy} : flatD (bkD rs row) = false := by simp [bkD]
@[simp] theorem keep_bk {rs : List (Sy × Sy)} {row : List Sy} {t : List Nat} : keepT (bkD rs row) t = t := keep_nf fl_bk
@[simp] theorem fl_rl {r : Sy × Sy} : flatD (rlD r) = true := by simp [rlD]
@[simp] theorem keep_rl {r : Sy × Sy} {t : List Nat} : keepT (rlD r) t = [] := keep_fl fl_rl

/-! ### a list by a function -/
def fnL (n : Nat) (v : Nat → Int) : List D := (List.range n).map fun j => .int (v j)
@[simp] theorem fnL_len {n : Nat} {v : Nat → Int} : (fnL n v).length = n := by simp [fnL]
theorem fnL_at {n k : Nat} {v : Nat → Int} (h : k < n) : atI (fnL n v) (k : Int) = some (.int (v k)) := atI_ok (by simp [fnL, h])
theorem fnL_ext {n : Nat} {v w : Nat → Int} (h : ∀ j, j < n → v j = w j) : fnL n v = fnL n w := by
  unfold fnL
  apply List.map_congr_left
  intro j hj
  rw [h j (by simpa using hj)]
theorem fnL_set {n k : Nat} {v : Nat → Int} {x : Int} : (fnL n v).set k (.int x) = fnL n fun j => if j = k then x else v j := by
  apply List.ext_getElem?
  intro i
  rw [List.getElem?_set]
  by_cases h : k = i
  · subst h
    by_cases hk : k < n
    · simp [fnL, hk]
    · simp [fnL, hk]
  · rw [if_neg h]
    by_cases hi : i < n
    · have : i ≠ k := fun e => h e.symm
      simp [fnL, hi, this]
    · simp [fnL, hi]
theorem fnL_rep (n : Nat) : List.replicate n (PyData.int 0) = fnL n fun _ => 0 := by
  unfold fnL
  rw [List.map_const', List.length_range]
theorem range_at {n x : Nat} {done rest : List Nat} (e : List.range n = done ++ x :: rest) : x = done.length ∧ x < n := by
  have h : (List.range n)[done.length]? = some x := by rw [e]; simp
  obtain ⟨h1, h2⟩ := List.getElem?_eq_some_iff.mp h
  simp at h1 h2
  omega
theorem fnL_int {n : Nat} {v : Nat → Int} : PyData.list (fnL n v) = intsD ((List.range n).map v) := by simp [fnL, intsD]

/-! ### how often a rule is used -/
def cr (row : List Sy) (j : Nat) : Int := (row.countP (· = .n j) : Nat)
def cnt (j : Nat) (r : Sy × Sy) : Int := (if r.1 = .n j then 1 else 0) + (if r.2 = .n j then 1 else 0)
def rat (rs : List (Sy × Sy)) (n : Nat) : Sy × Sy := (rs[n]?).getD (.s 0, .s 0)
def Wd (rs : List (Sy × Sy)) (w0 : Nat → Int) : Nat → Nat → Int
  | 0 => w0
  | b + 1 => fun j => Wd rs w0 b j + cnt j (rat rs (rs.length - 1 - b)) * Wd rs w0 b (rs.length - 1 - b)
theorem rat_at {rs : List (Sy × Sy)} {n : Nat} (h : n < rs.length) : rs[n]? = some (rat rs n) := by simp [rat, h]
theorem cnt_0 {rs : List (Sy × Sy)} (h : RsOk rs) {n j : Nat} (hn : n < rs.length) (hj : n ≤ j) : cnt j (rat rs n) = 0 := by
  have o := h n _ (rat_at hn)
  have a : ∀ s : Sy, s.ok n → s ≠ .n j := fun s hs e => by subst e; simp at hs; omega
  simp [cnt, a _ o.1, a _ o.2]
theorem Wd_up {rs : List (Sy × Sy)} (h : RsOk rs) (w0 : Nat → Int) {j : Nat} (hj : j < rs.length) : ∀ b, rs.length - 1 - j ≤ b → b ≤ rs.length → Wd rs w0 b j = Wd rs w0 (rs.length - 1 - j) j := fun b h1 h2 => by
  induction b with
  | zero => have : rs.length - 1 - j = 0 := by omega
            rw [this]
  | succ b ih =>
    by_cases q : rs.length - 1 - j = b + 1
    · rw [q]
    · rw [← ih (by omega) (by omega)]
      simp only [Wd]
      rw [cnt_0 h (by omega) (by omega)]; simp
/-- how often rule j is used -/
def usd (rs : List (Sy × Sy)) (w0 : Nat → Int) (j : Nat) : Int := Wd rs w0 rs.length j
theorem Wd_usd {rs : List (Sy × Sy)} (h : RsOk rs) (w0 : Nat → Int) {j b : Nat} (hj : j < rs.length) (h1 : rs.length - 1 - j ≤ b) (h2 : b ≤ rs.length) : Wd rs w0 b j = usd rs w0 j := by
  unfold usd; rw [Wd_up h w0 hj b h1 h2, Wd_up h w0 hj rs.length (by omega) (Nat.le_refl _)]
theorem Wd_sum {rs : List (Sy × Sy)} (h : RsOk rs) (w0 : Nat → Int) (j : Nat) : ∀ b, b ≤ rs.length → Wd rs w0 b j = w0 j + ((List.range' (rs.length - b) b).map fun m => cnt j (rat rs m) * usd rs w0 m).sum := fun b hb => by
  induction b with
  | zero => simp [Wd]
  | succ b ih =>
    simp only [Wd]
    rw [ih (by omega), Wd_usd h w0 (j := rs.length - 1 - b) (by omega) (by omega) (by omega)]
    have e : rs.length - (b + 1) = rs.length - 1 - b := by omega
    have e2 : rs.length - 1 - b + 1 = rs.length - b := by omega
    rw [e, List.range'_succ, List.map_cons, List.sum_cons, e2]
    omega
/-- what the later ones bring -/
theorem usd_sum {rs : List (Sy × Sy)} (h : RsOk rs) (w0 : Nat → Int) {j : Nat} (hj : j < rs.length) : usd rs w0 j = w0 j + ((List.range' (j + 1) (rs.length - 1 - j)).map fun m => cnt j (rat rs m) * usd rs w0 m).sum := by
  rw [← Wd_usd h w0 hj (b := rs.length - 1 - j) (Nat.le_refl _) (by omega), Wd_sum h w0 j _ (by omega)]
  have e : rs.length - (rs.length - 1 - j) = j + 1 := by omega
  rw [e]
theorem add_list {x y : List D} (h : x.length + y.length ≤ 10000000) : addD (.list x) (.list y) = some (.list (x ++ y)) := if_pos (small_le h)
theorem max_ints {α : Type} (f : α → Int) (n : Int) (xs : List α) : maxF [.list (.int n :: xs.map fun x => .int (f x))] = some (.int ((xs.map f).foldl max n)) := by
  show (asInts (.int n :: xs.map fun x => .int (f x))).bind (fun ns => (maxL ns).map fun m => PyData.int m) = _
  rw [asInts, asInts_mapF]
  rfl

/-! ### sizes and heights -/
def szs (rs : List (Sy × Sy)) : List Int := evs (fun _ => (1 : Int)) 0 (· + ·) rs
theorem szs_snoc (rs : List (Sy × Sy)) (r : Sy × Sy) : szs (rs ++ [r]) = szs rs ++ [val (fun _ => 1) 0 (szs rs) r.1 + val (fun _ => 1) 0 (szs rs) r.2] := evs_snoc ..
@[simp] theorem szs_nil : szs [] = [] := rfl
@[simp] theorem szs_len (rs : List (Sy × Sy)) : (szs rs).length = rs.length := evs_len ..
def suml (rs : List (Sy × Sy)) (row : List Sy) : Int := (row.map (val (fun _ => 1) 0 (szs rs))).sum
/-! heights -/
def hts (rs : List (Sy × Sy)) : List Int := evs (fun _ => (0 : Int)) 0 (fun a b => 1 + max a b) rs
theorem hts_snoc (rs : List (Sy × Sy)) (r : Sy × Sy) : hts (rs ++ [r]) = hts rs ++ [1 + max (val (fun _ => 0) 0 (hts rs) r.1) (val (fun _ => 0) 0 (hts rs) r.2)] := evs_snoc ..
@[simp] theorem hts_nil : hts [] = [] := rfl
@[simp] theorem hts_len (rs : List (Sy × Sy)) : (hts rs).length = rs.length := evs_len ..
def deepl (rs : List (Sy × Sy)) (row : List Sy) : Int := maxl (row.map (val (fun _ => 0) 0 (hts rs)))
theorem foldmax (f : Sy → Int) (h0 : ∀ s, 0 ≤ f s) : ∀ (row : List Sy) (a : Int), 0 ≤ a → (∀ s, s.isS = true → f s = 0) → ((row.filter fun s => !s.isS).map f).foldl max a = (row.map f).foldl max a
  | [], a, _, _ => rfl
  | s :: row, a, ha, hs => by
    cases q : s.isS with
    | true => simp [q, hs s q, Int.max_eq_left ha, foldmax f h0 row a ha hs]
    | false => simp [q, foldmax f h0 row (max a (f s)) (by omega) hs]
theorem maxl_fold (ns : List Int) (h : ∀ n ∈ ns, 0 ≤ n) : maxl ns = ns.foldl max 0 := by
  cases ns with
  | nil => rfl
  | cons n r =>
    have := h n (by simp)
    show r.foldl max n = r.foldl max (max 0 n)
    rw [Int.max_eq_right this]
theorem hts_nn (rs : List (Sy × Sy)) : ∀ n ∈ hts rs, 0 ≤ n := by
  have : ∀ rs' : List (Sy × Sy), ∀ n ∈ hts rs', 0 ≤ n := by
    intro rs'
    generalize hk : rs'.length = k
    induction k generalizing rs' with
    | zero => cases rs' with
      | nil => intro n hn; simp at hn
      | cons a b => simp at hk
    | succ k ih =>
      obtain ⟨a, b, rfl⟩ : ∃ a b, rs' = a ++ [b] := by
        refine ⟨rs'.dropLast, rs'.getLast (by intro e; rw [e] at hk; simp at hk), ?_⟩
        exact (List.dropLast_concat_getLast _).symm
      intro n hn
      rw [hts_snoc] at hn
      have ih := ih a (by simp at hk; exact hk)
      rcases List.mem_append.mp hn with q | q
      · exact ih n q
      · simp at q
        have v : ∀ s : Sy, 0 ≤ val (fun _ => (0 : Int)) 0 (hts a) s := fun s => by
          cases s with
          | s c => simp
          | n k =>
            simp only [val]
            cases q : (hts a)[k]? with
            | none => simp
            | some x => exact ih x (List.mem_of_getElem? q)
        have := v b.1
        omega
  exact this rs
theorem hval_nn (rs : List (Sy × Sy)) (s : Sy) : 0 ≤ val (fun _ => (0 : Int)) 0 (hts rs) s := by
  cases s with
  | s c => simp
  | n k =>
    simp only [val]
    cases q : (hts rs)[k]? with
    | none => simp
    | some x => exact hts_nn rs x (List.mem_of_getElem? q)
theorem mk_bk (rs : List (Sy × Sy)) (row : List Sy) : PyData.tuple [.list (rs.map rlD), .list (row.map Sy.d)] = bkD rs row := rfl
end PL

set_option Elab.async false
set_option linter.all false
set_option maxRecDepth 100000
set_option maxHeartbeats 1000000
/-! Texts as lists of signs. -/
namespace PL
open PySem PySem.Spec PyProof.Rows L2
def tx (l : List Nat) : D := .str ⟨l.toArray⟩
theorem ch_tx (c : Nat) : ch c = tx [c] := rfl
@[simp] theorem isStr_tx {l : List Nat} : isStr (tx l) = true := nr rfl
@[simp] theorem isInt_tx {l : List Nat} : isInt (tx l) = false := nr rfl
@[simp] theorem fl_tx {l : List Nat} : flatD (tx l) = true := fl_S
@[simp] theorem keep_tx {l t : List Nat} : keepT (tx l) t = [] := keep_fl fl_tx
theorem str_len (l : List Nat) : (⟨l.toArray⟩ : Str).length = l.length := by simp [Str.length]
theorem len_tx {l : List Nat} (h : l.length ≤ 10000000) : lenF [tx l] = some (.int l.length) := by
  show (if (⟨l.toArray⟩ : Str).length ≤ sizeLine then _ else _) = _
  rw [if_pos (by rw [str_len]; exact small_le h), str_len]
theorem str_app (a b : List Nat) : (⟨a.toArray⟩ : Str) ++ (⟨b.toArray⟩ : Str) = ⟨(a ++ b).toArray⟩ := Str.ext' (by simp [Str.cps_append])
theorem add_tx {a b : List Nat} (h : a.length + b.length ≤ 10000000) : addD (tx a) (tx b) = some (tx (a ++ b)) := by
  unfold tx
  rw [add_str (by rw [str_len, str_len]; exact small_le h), str_app]
theorem str_lit (x : Str) : PyData.str x = tx x.cps.toList := by unfold tx; simp
theorem join_tx : ∀ ls : List (List Nat), Str.join (⟨#[]⟩ : Str) (ls.map fun l => (⟨l.toArray⟩ : Str)) = ⟨ls.flatten.toArray⟩
  | [] => rfl
  | [l] => by simp [Str.join]
  | l :: m :: r => by
    have ih := join_tx (m :: r)
    simp only [List.map_cons] at ih ⊢
    rw [Str.join, ih]
    · apply Str.ext'
      simp [Str.cps_append]
    · simp
theorem asStrs_tx : ∀ ls : List (List Nat), asStrs (ls.map tx) = some (ls.map fun l => (⟨l.toArray⟩ : Str))
  | [] => rfl
  | l :: r => by rw [List.map_cons]; show (asStrs (r.map tx)).map _ = _; rw [asStrs_tx r]; rfl
theorem sum_lens (ls : List (List Nat)) : ((ls.map fun l => (⟨l.toArray⟩ : Str)).map (·.length)).sum = ls.flatten.length := by
  rw [List.map_map, List.length_flatten]
  congr 1
theorem join_em {ls : List (List Nat)} (h : ls.flatten.length ≤ 10000000) : joinD (.str ("" : Str)) (.list (ls.map tx)) = some (tx ls.flatten) := by
  have e : ("" : Str) = ⟨#[]⟩ := by decide +kernel
  rw [e]
  show (asStrs (ls.map tx)).bind _ = _
  rw [asStrs_tx]
  simp only [Option.bind_some]
  have e2 : ((ls.map fun l => (⟨l.toArray⟩ : Str)).map (·.length)).sum + (ls.map fun l => (⟨l.toArray⟩ : Str)).length * (⟨#[]⟩ : Str).length ≤ 16777216 := by
    rw [sum_lens, show (⟨#[]⟩ : Str).length = 0 from rfl, Nat.mul_zero]
    omega
  rw [if_pos e2, join_tx]
  rfl
theorem join_f {α : Type} {f : α → List Nat} {xs : List α} (h : (xs.map f).flatten.length ≤ 10000000) : joinD (.str ("" : Str)) (.list (xs.map fun x => tx (f x))) = some (tx (xs.map f).flatten) := by
  have e : (xs.map fun x => tx (f x)) = (xs.map f).map tx := by rw [List.map_map]; rfl
  rw [e, join_em h]
theorem join_ch {f : List Nat} (h : f.length ≤ 10000000) : joinD (.str ("" : Str)) (.list (f.map ch)) = some (tx f) := by
  have e : (f.map fun c : Nat => [c]).flatten = f := by
    clear h
    induction f with
    | nil => rfl
    | cons c f ih => rw [List.map_cons, List.flatten_cons, ih]; rfl
  have := join_f (f := fun c : Nat => [c]) (xs := f) (by rw [e]; exact h)
  rw [e] at this
  exact this
theorem lay_tx {l : List Nat} (h : ∀ c ∈ l, c < 1114112) : (tx l).canLay0 = true := by
  simp [tx, PyData.canLay0, PyData.strOk]
  exact h
theorem shaped_tx {l : List Nat} (h : ∀ c ∈ l, c < 1114112) : SeqAt.shaped (tx l) = true := shaped_of (lay_tx h) (by simp [tx, PyData.depth])
theorem eqv_tx (a b : List Nat) : PyData.eqv (tx a) (tx b) = decide (a = b) := by
  simp only [tx, PyData.eqv]
  by_cases h : a = b
  · subst h; simp
  · simp [h]
theorem eq_tx {a b : List Nat} (ha : ∀ c ∈ a, c < 1114112) (hb : ∀ c ∈ b, c < 1114112) : eqD (tx a) (tx b) = some (.bool (decide (a = b))) := by
  unfold eqD; rw [if_pos ⟨shaped_tx ha, shaped_tx hb⟩, eqv_tx]
theorem ne_tx {a b : List Nat} (ha : ∀ c ∈ a, c < 1114112) (hb : ∀ c ∈ b, c < 1114112) : neD (tx a) (tx b) = some (.bool (!decide (a = b))) := by
  unfold neD; rw [if_pos ⟨shaped_tx ha, shaped_tx hb⟩, eqv_tx]

/-! ### what a book tells -/
section
variable {α β : Type} (h : α → β) {leaf : Nat → α} {z : α} {node : α → α → α} {leaf' : Nat → β} {z' : β} {node' : β → β → β}
theorem val_hom (h1 : ∀ c, h (leaf c) = leaf' c) (h2 : h z = z') (acc : List α) (s : Sy) : val leaf' z' (acc.map h) s = h (val leaf z acc s) := by
  cases s with
  | s c => exact (h1 c).symm
  | n k =>
    simp only [val, List.getElem?_map]
    cases acc[k]? with
    | none => exact h2.symm
    | some a => rfl
theorem evs_hom (h1 : ∀ c, h (leaf c) = leaf' c) (h2 : h z = z') (h3 : ∀ a b, h (node a b) = node' (h a) (h b)) (rs : List (Sy × Sy)) : evs leaf' z' node' rs = (evs leaf z node rs).map h := by
  have : ∀ (rs : List (Sy × Sy)) (acc : List α), rs.foldl (fun acc r => acc ++ [node' (val leaf' z' acc r.1) (val leaf' z' acc r.2)]) (acc.map h) = (rs.foldl (fun acc r => acc ++ [node (val leaf z acc r.1) (val leaf z acc r.2)]) acc).map h := by
    intro rs
    induction rs with
    | nil => intro acc; rfl
    | cons r rs ih =>
      intro acc
      rw [List.foldl_cons, List.foldl_cons, ← ih]
      congr 1
      rw [val_hom h h1 h2, val_hom h h1 h2, ← h3, List.map_append]
      rfl
  exact this rs []
end
def txs (rs : List (Sy × Sy)) : List (List Nat) := evs (fun c => [c]) [] (· ++ ·) rs
def tval (rs : List (Sy × Sy)) (s : Sy) : List Nat := val (fun c => [c]) [] (txs rs) s
def tell (rs : List (Sy × Sy)) (row : List Sy) : List Nat := (row.map (tval rs)).flatten
theorem txs_snoc (rs : List (Sy × Sy)) (r : Sy × Sy) : txs (rs ++ [r]) = txs rs ++ [tval rs r.1 ++ tval rs r.2] := evs_snoc ..
@[simp] theorem txs_nil : txs [] = [] := nr rfl
@[simp] theorem txs_len (rs : List (Sy × Sy)) : (txs rs).length = rs.length := evs_len ..
theorem szs_txs (rs : List (Sy × Sy)) : szs rs = (txs rs).map fun l => (l.length : Int) := by
  refine evs_hom _ (fun c => ?_) ?_ (fun a b => ?_) rs
  · rfl
  · rfl
  · simp
theorem sval_len (rs : List (Sy × Sy)) (s : Sy) : val (fun _ => (1 : Int)) 0 (szs rs) s = ((tval rs s).length : Int) := by
  rw [szs_txs]
  refine val_hom _ (fun c => ?_) ?_ _ s
  · rfl
  · rfl
theorem suml_len (rs : List (Sy × Sy)) (row : List Sy) : suml rs row = ((tell rs row).length : Int) := by
  unfold suml tell
  induction row with
  | nil => rfl
  | cons s row ih =>
    rw [List.map_cons, List.sum_cons, ih, sval_len, List.map_cons, List.flatten_cons]
    simp
theorem tval_pre {rs rs' : List (Sy × Sy)} {s : Sy} (h : s.ok rs.length) : tval (rs ++ rs') s = tval rs s := val_evs _ _ _ h
theorem tval_at {rs : List (Sy × Sy)} (h : RsOk rs) {k : Nat} {r : Sy × Sy} (hk : rs[k]? = some r) : tval rs (.n k) = tval rs r.1 ++ tval rs r.2 := val_at _ _ _ h hk
/-- all texts of rules have at most m signs -/
def TxLe (m : Nat) (rs : List (Sy × Sy)) : Prop := ∀ l, l ∈ txs rs → l.length ≤ m
theorem TxLe.val {m : Nat} {rs : List (Sy × Sy)} (h : TxLe m rs) (hm : 1 ≤ m) (s : Sy) : (tval rs s).length ≤ m := by
  cases s with
  | s c => simpa [tval] using hm
  | n k =>
    simp only [tval, PL.val]
    cases q : (txs rs)[k]? with
    | none => simp
    | some l => exact h l (List.mem_of_getElem? q)
theorem TxLe.pre {m : Nat} {rs rs' : List (Sy × Sy)} (h : TxLe m (rs ++ rs')) : TxLe m rs := fun l hl => by
  obtain ⟨t, ht⟩ := evs_pre (fun c => [c]) [] (· ++ ·) rs rs'
  refine h l ?_
  show l ∈ evs _ _ _ _
  rw [ht]
  exact List.mem_append_left _ hl
/-- the signs are signs -/
theorem tval_ok {rs : List (Sy × Sy)} (h : RsOk rs) : ∀ {s : Sy}, s.ok rs.length → ∀ c ∈ tval rs s, c < 1114112 := by
  have : ∀ (k : Nat) (l : List Nat), (txs rs)[k]? = some l → ∀ c ∈ l, c < 1114112 := by
    intro k
    induction k using Nat.strongRecOn with
    | ind k ih =>
      intro l hl c hc
      have hk : k < rs.length := by
        have := (List.getElem?_eq_some_iff.mp hl).1
        simpa using this
      have hr : rs[k]? = some rs[k] := List.getElem?_eq_getElem hk
      have e := evs_at (fun c => [c]) [] (· ++ ·) h hr
      have e : (txs rs)[k]? = some (tval rs rs[k].1 ++ tval rs rs[k].2) := e
      rw [hl] at e
      cases e
      have o := h _ _ hr
      have sub : ∀ s : Sy, s.ok k → ∀ c ∈ tval rs s, c < 1114112 := fun s hs c hc => by
        cases s with
        | s d => simp [tval] at hc; subst hc; exact hs
        | n j =>
          have hs : j < k := hs
          have hjl : j < (txs rs).length := by rw [txs_len]; omega
          have hj : (txs rs)[j]? = some (txs rs)[j] := List.getElem?_eq_getElem hjl
          simp only [tval, PL.val, hj] at hc
          exact ih j hs _ hj c hc
      rcases List.mem_append.mp hc with q | q
      · exact sub _ o.1 c q
      · exact sub _ o.2 c q
  intro s hs c hc
  cases s with
  | s d => simp [tval] at hc; subst hc; exact hs
  | n j =>
    have hs : j < rs.length := hs
    have hjl : j < (txs rs).length := by rw [txs_len]; omega
    have hj : (txs rs)[j]? = some (txs rs)[j] := List.getElem?_eq_getElem hjl
    simp only [tval, PL.val, hj] at hc
    exact this j _ hj c hc
theorem tell_ok {rs : List (Sy × Sy)} {row : List Sy} (h : RsOk rs) (h2 : RoOk rs.length row) : ∀ c ∈ tell rs row, c < 1114112 := fun c hc => by
  obtain ⟨l, hl, hc⟩ := List.mem_flatten.mp hc
  obtain ⟨s, hs, rfl⟩ := List.mem_map.mp hl
  exact tval_ok h (h2 s hs) c hc

/-! ### a book made small -/
theorem str_a : PyData.str ("a" : Str) = ch 97 := by unfold ch; congr 1
theorem str_b : PyData.str ("b" : Str) = ch 98 := by unfold ch; congr 1
def smS (most : Int) (acc : List (Sy × Sy)) (r : Sy × Sy) : Sy × Sy :=
  if most < val (fun _ => 1) 0 (szs acc) r.1 + val (fun _ => 1) 0 (szs acc) r.2 then (.s 97, .s 98) else r
def smR (most : Int) (rs : List (Sy × Sy)) : List (Sy × Sy) := rs.foldl (fun acc r => acc ++ [smS most acc r]) []
def smT (z : List Int) (b : List Sy × Int) (s : Sy) : List Sy × Int :=
  if val (fun _ => 1) 0 z s ≤ b.2 then (b.1 ++ [s], b.2 - val (fun _ => 1) 0 z s) else b
def smW (z : List Int) (left : Int) (row : List Sy) : List Sy × Int := row.foldl (smT z) ([], left)
theorem smR_snoc (most : Int) (rs : List (Sy × Sy)) (r : Sy × Sy) : smR most (rs ++ [r]) = smR most rs ++ [smS most (smR most rs) r] := by unfold smR; rw [List.foldl_append]; rfl
theorem smW_snoc (z : List Int) (left : Int) (row : List Sy) (s : Sy) : smW z left (row ++ [s]) = smT z (smW z left row) s := by unfold smW; rw [List.foldl_append]; rfl
@[simp] theorem smR_nil (most : Int) : smR most [] = [] := nr rfl
theorem snoc_ind {α : Type} {P : List α → Prop} (h0 : P []) (h1 : ∀ xs x, P xs → P (xs ++ [x])) : ∀ xs, P xs := fun xs => by
  generalize hk : xs.length = k
  induction k generalizing xs with
  | zero => cases xs with
    | nil => exact h0
    | cons a b => simp at hk
  | succ k ih =>
    have hne : xs ≠ [] := by intro e; rw [e] at hk; simp at hk
    rw [← List.dropLast_concat_getLast hne]
    exact h1 _ _ (ih _ (by simp [hk]))
@[simp] theorem smR_len (most : Int) (rs : List (Sy × Sy)) : (smR most rs).length = rs.length := by
  induction rs using snoc_ind with
  | h0 => rfl
  | h1 xs x ih => rw [smR_snoc]; simp [ih]
theorem smS_ok {most : Int} {acc : List (Sy × Sy)} {r : Sy × Sy} {n : Nat} (h1 : r.1.ok n) (h2 : r.2.ok n) : (smS most acc r).1.ok n ∧ (smS most acc r).2.ok n := by
  unfold smS
  split
  · exact ⟨by simp, by simp⟩
  · exact ⟨h1, h2⟩
theorem RsOk.init {rs : List (Sy × Sy)} {r : Sy × Sy} (h : RsOk (rs ++ [r])) : RsOk rs := h.pre (rest := [r]) rfl
theorem smR_ok (most : Int) (rs : List (Sy × Sy)) : RsOk rs → RsOk (smR most rs) := by
  induction rs using snoc_ind with
  | h0 => exact fun h => h
  | h1 xs x ih =>
    intro h
    rw [smR_snoc]
    have o := h.at (done := xs) (x := x) (rest := []) rfl
    have k := smS_ok (most := most) (acc := smR most xs) o.1 o.2
    exact (ih h.init).snoc (by rw [smR_len]; exact k.1) (by rw [smR_len]; exact k.2)
theorem smR_le {m : Nat} (hm : 2 ≤ m) (rs : List (Sy × Sy)) : TxLe m (smR m rs) := by
  induction rs using snoc_ind with
  | h0 => intro l hl; simp at hl
  | h1 xs x ih =>
    intro l hl
    rw [smR_snoc, txs_snoc] at hl
    rcases List.mem_append.mp hl with q | q
    · exact ih l q
    · rw [List.mem_singleton.mp q]
      unfold smS
      split
      · simp [tval]; exact hm
      · rename_i c
        rw [sval_len, sval_len] at c
        simp; omega
theorem smW_sub (z : List Int) (left : Int) (row : List Sy) : (∀ s ∈ (smW z left row).1, s ∈ row) ∧ (smW z left row).1.length ≤ row.length := by
  induction row using snoc_ind with
  | h0 => exact ⟨fun s hs => hs, Nat.le_refl _⟩
  | h1 xs x ih =>
    rw [smW_snoc]
    unfold smT
    split
    · refine ⟨fun s hs => ?_, by simp; exact ih.2⟩
      rcases List.mem_append.mp hs with q | q
      · exact List.mem_append_left _ (ih.1 s q)
      · exact List.mem_append_right _ q
    · exact ⟨fun s hs => List.mem_append_left _ (ih.1 s hs), by simp; have := ih.2; omega⟩
theorem smW_sum (rs : List (Sy × Sy)) (left : Int) (h : 0 ≤ left) (row : List Sy) : suml rs (smW (szs rs) left row).1 + (smW (szs rs) left row).2 = left ∧ 0 ≤ (smW (szs rs) left row).2 := by
  induction row using snoc_ind with
  | h0 => exact ⟨by simp [smW, suml], h⟩
  | h1 xs x ih =>
    rw [smW_snoc]
    unfold smT
    split
    · rename_i c
      refine ⟨?_, by simp only; omega⟩
      have e : suml rs ((smW (szs rs) left xs).1 ++ [x]) = suml rs (smW (szs rs) left xs).1 + val (fun _ => 1) 0 (szs rs) x := by simp [suml]
      simp only [e]
      omega
    · exact ih
/-- the small book -/
def smB (m : Nat) (b : List (Sy × Sy) × List Sy) : List (Sy × Sy) × List Sy := (smR m b.1, (smW (szs (smR m b.1)) (4 * m) b.2).1)
theorem smB_ok {m : Nat} {b : List (Sy × Sy) × List Sy} (h : BkOk b.1 b.2) : BkOk (smB m b).1 (smB m b).2 := by
  obtain ⟨h1, h2⟩ := smW_sub (szs (smR m b.1)) (4 * m) b.2
  exact ⟨smR_ok _ _ h.hr, fun s hs => by show s.ok (smR m b.1).length; rw [smR_len]; exact h.ho s (h1 s hs), by show (smR m b.1).length ≤ 600; rw [smR_len]; exact h.n1, Nat.le_trans h2 h.n2⟩
theorem smB_le {m : Nat} (hm : 2 ≤ m) (b : List (Sy × Sy) × List Sy) : TxLe m (smB m b).1 := smR_le hm _
theorem smB_tell (m : Nat) (b : List (Sy × Sy) × List Sy) : (tell (smB m b).1 (smB m b).2).length ≤ 4 * m := by
  have := smW_sum (smR m b.1) (4 * m) (by omega) b.2
  have e := suml_len (smB m b).1 (smB m b).2
  show ((tell (smB m b).1 (smB m b).2).length) ≤ 4 * m
  have e2 : suml (smB m b).1 (smB m b).2 = suml (smR m b.1) (smW (szs (smR m b.1)) (4 * m) b.2).1 := rfl
  omega
theorem str_e : PyData.str ("" : Str) = tx [] := by unfold tx; congr 1
theorem ix_tx {t : List Nat} {p : Int} {c : Nat} (h : t.length ≤ 10000000) (h0 : 0 ≤ p) (hc : t[p.toNat]? = some c) : ixD (tx t) (.int p) = some (ch c) := by
  show (if (⟨t.toArray⟩ : Str).length ≤ sizeLine then (atI t.toArray.toList p).map fun c => PyData.str ⟨#[c]⟩ else none) = _
  rw [if_pos (by rw [str_len]; exact small_le h)]
  have e : p = (p.toNat : Int) := by omega
  rw [e, atI_ok (a := c) (by simpa using hc)]
  rfl
theorem shaped_ch {c : Nat} (h : c < 1114112) : SeqAt.shaped (ch c) = true := by rw [ch_tx]; exact shaped_tx (by simpa using h)
end PL

set_option Elab.async false
set_option linter.all false
set_option maxRecDepth 100000
set_option maxHeartbeats 1000000
/-! The way down to a sign. -/
namespace PL
open PySem PySem.Spec PyProof.Rows L2
/-- a symbol's size -/
def szv (rs : List (Sy × Sy)) (s : Sy) : Int := val (fun _ => (1 : Int)) 0 (szs rs) s
@[simp] theorem szv_s {rs : List (Sy × Sy)} {c : Nat} : szv rs (.s c) = 1 := nr rfl
theorem szv_len (rs : List (Sy × Sy)) (s : Sy) : szv rs s = ((tval rs s).length : Int) := sval_len rs s
theorem szv_nn (rs : List (Sy × Sy)) (s : Sy) : 0 ≤ szv rs s := by rw [szv_len]; omega
theorem szv_at {rs : List (Sy × Sy)} (h : RsOk rs) {k : Nat} {r : Sy × Sy} (hk : rs[k]? = some r) : szv rs (.n k) = szv rs r.1 + szv rs r.2 := val_at _ _ _ h hk
theorem suml_eq (rs : List (Sy × Sy)) (row : List Sy) : suml rs row = (row.map (szv rs)).sum := rfl
theorem suml_cons (rs : List (Sy × Sy)) (s : Sy) (row : List Sy) : suml rs (s :: row) = szv rs s + suml rs row := by simp [suml_eq]
theorem suml_nil (rs : List (Sy × Sy)) : suml rs [] = 0 := by simp [suml_eq]
theorem suml_nn (rs : List (Sy × Sy)) (row : List Sy) : 0 ≤ suml rs row := by rw [suml_len]; omega
def seek (rs : List (Sy × Sy)) : List Sy → Int → Option (Sy × Int)
  | [], _ => none
  | s :: r, p => if szv rs s ≤ p then seek rs r (p - szv rs s) else some (s, p)
theorem seek_ok {rs : List (Sy × Sy)} : ∀ {row : List Sy} {p : Int}, 0 ≤ p → p < suml rs row → ∃ s q, seek rs row p = some (s, q) ∧ s ∈ row ∧ 0 ≤ q ∧ q < szv rs s
  | [], p, h0, h => by rw [suml_nil] at h; omega
  | s :: r, p, h0, h => by
    rw [suml_cons] at h
    unfold seek
    by_cases c : szv rs s ≤ p
    · rw [if_pos c]
      obtain ⟨s', q, h1, h2, h3⟩ := seek_ok (rs := rs) (row := r) (p := p - szv rs s) (by omega) (by omega)
      exact ⟨s', q, h1, List.mem_cons_of_mem _ h2, h3⟩
    · rw [if_neg c]
      exact ⟨s, p, rfl, List.mem_cons_self, h0, by omega⟩
inductive Dw (rs : List (Sy × Sy)) : Sy → Int → Nat → List Nat → Prop
  | s (c : Nat) (p : Int) : Dw rs (.s c) p c []
  | l {k : Nat} {a b : Sy} {p : Int} {c : Nat} {l : List Nat} : rs[k]? = some (a, b) → p < szv rs a → Dw rs a p c l → Dw rs (.n k) p c (k :: l)
  | r {k : Nat} {a b : Sy} {p : Int} {c : Nat} {l : List Nat} : rs[k]? = some (a, b) → szv rs a ≤ p → Dw rs b (p - szv rs a) c l → Dw rs (.n k) p c (k :: l)
theorem Dw.ex {rs : List (Sy × Sy)} (h : RsOk rs) : ∀ (m : Nat) (s : Sy) (p : Int), s.ok m → m ≤ rs.length → ∃ c l, Dw rs s p c l := fun m => by
  induction m with
  | zero =>
    intro s p hs _
    cases s with
    | s c => exact ⟨c, [], .s c p⟩
    | n k => exact absurd hs (Nat.not_lt_zero k)
  | succ m ih =>
    intro s p hs hm
    cases s with
    | s c => exact ⟨c, [], .s c p⟩
    | n k =>
      have hs : k < m + 1 := hs
      have hk : rs[k]? = some (rs[k].1, rs[k].2) := List.getElem?_eq_getElem (by omega)
      have o := h k _ hk
      by_cases q : p < szv rs rs[k].1
      · obtain ⟨c, l, d⟩ := ih rs[k].1 p (o.1.mono (by omega)) (by omega)
        exact ⟨c, k :: l, .l hk q d⟩
      · obtain ⟨c, l, d⟩ := ih rs[k].2 (p - szv rs rs[k].1) (o.2.mono (by omega)) (by omega)
        exact ⟨c, k :: l, .r hk (by omega) d⟩
theorem Dw.len {rs : List (Sy × Sy)} (h : RsOk rs) {s : Sy} {p : Int} {c : Nat} {l : List Nat} (d : Dw rs s p c l) : ∀ {m : Nat}, s.ok m → l.length ≤ m := by
  induction d with
  | s c p => intro m _; exact Nat.zero_le _
  | l hk _ _ ih =>
    intro m hm
    have hm : _ < m := hm
    have := ih (h _ _ hk).1
    simp; omega
  | r hk _ _ ih =>
    intro m hm
    have hm : _ < m := hm
    have := ih (h _ _ hk).2
    simp; omega
theorem Dw.mem {rs : List (Sy × Sy)} (h : RsOk rs) {s : Sy} {p : Int} {c : Nat} {l : List Nat} (d : Dw rs s p c l) : s.ok rs.length → c < 1114112 := by
  induction d with
  | s c p => intro m; exact m
  | l hk _ _ ih => intro m; exact ih ((h _ _ hk).1.mono (by have := (List.getElem?_eq_some_iff.mp hk).1; omega))
  | r hk _ _ ih => intro m; exact ih ((h _ _ hk).2.mono (by have := (List.getElem?_eq_some_iff.mp hk).1; omega))
theorem Dw.sign {rs : List (Sy × Sy)} (h : RsOk rs) {s : Sy} {p : Int} {c : Nat} {l : List Nat} (d : Dw rs s p c l) : 0 ≤ p → p < szv rs s → (tval rs s)[p.toNat]? = some c := by
  induction d with
  | s c p =>
    intro h0 h1
    have : p.toNat = 0 := by simp at h1; omega
    rw [this]; rfl
  | @l k a b p c l hk hp _ ih =>
    intro h0 h1
    rw [tval_at h hk]
    have e := ih h0 hp
    have hz := szv_len rs a
    show (tval rs a ++ tval rs b)[p.toNat]? = some c
    rw [List.getElem?_append_left (by omega)]
    exact e
  | @r k a b p c l hk hp _ ih =>
    intro h0 h1
    rw [szv_at h hk] at h1
    simp only at h1
    rw [tval_at h hk]
    have e := ih (by omega) (by omega)
    have hz := szv_len rs a
    show (tval rs a ++ tval rs b)[p.toNat]? = some c
    rw [List.getElem?_append_right (by omega), ← e]
    congr 1
    omega
theorem seek_sign {rs : List (Sy × Sy)} : ∀ {row : List Sy} {p : Int} {s : Sy} {q : Int}, 0 ≤ p → seek rs row p = some (s, q) → q < szv rs s ∧ 0 ≤ q ∧ s ∈ row ∧ ((tval rs s)[q.toNat]? = (tell rs row)[p.toNat]?)
  | [], _, _, _, _, h => by cases h
  | t :: r, p, s, q, h0, h => by
    unfold seek at h
    by_cases c : szv rs t ≤ p
    · rw [if_pos c] at h
      obtain ⟨h1, h2, h3, h4⟩ := seek_sign (by omega) h
      refine ⟨h1, h2, List.mem_cons_of_mem _ h3, ?_⟩
      rw [h4]
      show _ = (tval rs t ++ tell rs r)[p.toNat]?
      rw [szv_len] at c ⊢
      rw [List.getElem?_append_right (by omega)]
      congr 1
      omega
    · rw [if_neg c] at h
      cases h
      refine ⟨by omega, h0, List.mem_cons_self, ?_⟩
      show _ = (tval rs t ++ tell rs r)[p.toNat]?
      rw [szv_len] at c
      rw [List.getElem?_append_left (by omega)]
/-- the way to the sign at p -/
def Way (rs : List (Sy × Sy)) (row : List Sy) (p : Int) (c : Nat) (l : List Nat) : Prop := ∃ s q, seek rs row p = some (s, q) ∧ Dw rs s q c l
theorem Way.ex {rs : List (Sy × Sy)} {row : List Sy} (h : BkOk rs row) {p : Int} (h0 : 0 ≤ p) (h1 : p < suml rs row) : ∃ c l, Way rs row p c l := by
  obtain ⟨s, q, e, m, _⟩ := seek_ok h0 h1
  obtain ⟨c, l, d⟩ := Dw.ex h.hr rs.length s q (h.ho s m) (Nat.le_refl _)
  exact ⟨c, l, s, q, e, d⟩
theorem Way.sign {rs : List (Sy × Sy)} {row : List Sy} (h : BkOk rs row) {p : Int} {c : Nat} {l : List Nat} (h0 : 0 ≤ p) (w : Way rs row p c l) : (tell rs row)[p.toNat]? = some c := by
  obtain ⟨s, q, e, d⟩ := w
  obtain ⟨h1, h2, _, h4⟩ := seek_sign h0 e
  rw [← h4]
  exact d.sign h.hr h2 h1
def natsD (l : List Nat) : D := .list (l.map fun k => .int (k : Nat))
@[simp] theorem fl_nats {l : List Nat} : flatD (natsD l) = false := fl_L
theorem natsD_ints (l : List Nat) : natsD l = intsD (l.map fun k : Nat => (k : Int)) := by unfold natsD intsD; rw [List.map_map]; rfl
theorem shaped_way {c : Nat} {l : List Nat} (h : c < 1114112) : SeqAt.shaped (.tuple [ch c, natsD l]) = true := by
  have h1 := SeqAt.canLay_of_shaped (shaped_ints (l.map fun k : Nat => (k : Int)))
  have h2 : (natsD l).depth ≤ 1 := by
    have := depAll (fun k : Nat => PyData.int k) 0 (fun a => by simp [PyData.depth]) l
    simp only [natsD, PyData.depth]; omega
  refine shaped_of ?_ ?_
  · rw [← natsD_ints] at h1
    simp [PyData.canLay0, PyData.canLayAll0, h1, ch, PyData.strOk, h]
  · simp only [PyData.depth, PyData.depthAll, ch]; omega
theorem seek_lt {rs : List (Sy × Sy)} : ∀ {row : List Sy} {p : Int} {s : Sy} {q : Int}, seek rs row p = some (s, q) → q < szv rs s ∧ s ∈ row
  | [], _, _, _, h => by cases h
  | t :: r, p, s, q, h => by
    unfold seek at h
    by_cases c : szv rs t ≤ p
    · rw [if_pos c] at h
      exact ⟨(seek_lt h).1, List.mem_cons_of_mem _ (seek_lt h).2⟩
    · rw [if_neg c] at h
      cases h
      exact ⟨by omega, List.mem_cons_self⟩
/-- the ways, with what is still to come -/
structure WaySt where
  todo : List Sy
  p : Int
  s : Sy
  q : Int
  o : List Nat
  l : List Nat
def WaySt.ok (rs : List (Sy × Sy)) (c : Nat) (l : List Nat) (w : WaySt) : Prop := (∀ s ∈ w.todo, s.ok rs.length) ∧ w.todo.length ≤ 2000 ∧ seek rs w.todo w.p = some (w.s, w.q) ∧ Dw rs w.s w.q c w.l ∧ w.o ++ w.l = l
/-- a rule opened -/
theorem seek_pair {rs : List (Sy × Sy)} (h : RsOk rs) {k : Nat} {a b : Sy} {q : Int} (hk : rs[k]? = some (a, b)) (hq : q < szv rs (.n k)) {c : Nat} {l : List Nat} (d : Dw rs (.n k) q c (k :: l)) : ∃ s q', seek rs [a, b] q = some (s, q') ∧ Dw rs s q' c l := by
  rw [szv_at h hk] at hq
  simp only at hq
  cases d with
  | l hk2 hp d2 =>
    rw [hk] at hk2; cases hk2
    exact ⟨a, q, by unfold seek; rw [if_neg (by omega)], d2⟩
  | r hk2 hp d2 =>
    rw [hk] at hk2; cases hk2
    exact ⟨b, q - szv rs a, by unfold seek; rw [if_pos hp]; unfold seek; rw [if_neg (by omega)], d2⟩
end PL

set_option Elab.async false
set_option linter.all false
set_option maxRecDepth 100000
set_option maxHeartbeats 1000000
/-! A stretch, and how many rules are opened for it. -/
namespace PL
open PySem PySem.Spec PyProof.Rows L2
theorem cutS_tx (t : List Nat) (lo hi : Option Int) : PyData.str (cutS ⟨t.toArray⟩ lo hi) = tx (cutL t lo hi) := by
  unfold cutS cutL tx
  rw [str_len]
theorem sl_tx {t : List Nat} {lo hi : Option Int} (h : t.length ≤ 10000000) : slD lo hi (tx t) = some (tx (cutL t lo hi)) := by
  show (if (⟨t.toArray⟩ : Str).length ≤ sizeLine then some (PyData.str (cutS ⟨t.toArray⟩ lo hi)) else none) = _
  rw [if_pos (by rw [str_len]; exact small_le h), cutS_tx]
section
variable (st en : Int)
def owN (x y : Int × (Int → Nat)) : Int × (Int → Nat) := (x.1 + y.1, fun h => if h < en ∧ st < h + (x.1 + y.1) then 1 + x.2 h + y.2 (h + x.1) else 0)
def owV (rs : List (Sy × Sy)) (s : Sy) : Int × (Int → Nat) := val (fun _ => ((1 : Int), fun _ => 0)) (0, fun _ => 0) (evs (fun _ => ((1 : Int), fun _ => 0)) (0, fun _ => 0) (owN st en) rs) s
/-- how many rules are opened for s at the place h -/
def ow (rs : List (Sy × Sy)) (s : Sy) (h : Int) : Nat := (owV st en rs s).2 h
theorem owV_sz (rs : List (Sy × Sy)) (s : Sy) : (owV st en rs s).1 = szv rs s := by
  unfold owV szv szs
  rw [evs_hom (fun x : Int × (Int → Nat) => x.1) (leaf := fun _ => ((1 : Int), fun _ => 0)) (z := (0, fun _ => 0)) (node := owN st en) (leaf' := fun _ => (1 : Int)) (z' := 0) (node' := (· + ·)) (fun _ => rfl) rfl (fun _ _ => rfl) rs]
  exact (val_hom (fun x : Int × (Int → Nat) => x.1) (fun _ => rfl) rfl _ s).symm
theorem ow_s (rs : List (Sy × Sy)) (c : Nat) (h : Int) : ow st en rs (.s c) h = 0 := rfl
theorem ow_at {rs : List (Sy × Sy)} (hr : RsOk rs) {k : Nat} {a b : Sy} (hk : rs[k]? = some (a, b)) (h : Int) :
    ow st en rs (.n k) h = if h < en ∧ st < h + szv rs (.n k) then 1 + ow st en rs a h + ow st en rs b (h + szv rs a) else 0 := by
  have e : owV st en rs (.n k) = owN st en (owV st en rs a) (owV st en rs b) := val_at _ _ _ hr hk
  unfold ow
  rw [e]
  show (if h < en ∧ st < h + ((owV st en rs a).1 + (owV st en rs b).1) then 1 + (owV st en rs a).2 h + (owV st en rs b).2 (h + (owV st en rs a).1) else 0) = _
  rw [owV_sz, owV_sz, szv_at hr hk]
def owL (rs : List (Sy × Sy)) : List Sy → Int → Nat
  | [], _ => 0
  | s :: r, h => ow st en rs s h + owL rs r (h + szv rs s)
theorem ow_out {rs : List (Sy × Sy)} (hr : RsOk rs) {s : Sy} {h : Int} (ok : s.ok rs.length) (c : en ≤ h ∨ h + szv rs s ≤ st) : ow st en rs s h = 0 := by
  cases s with
  | s c => rfl
  | n k =>
    have ok : k < rs.length := ok
    have hk : rs[k]? = some (rs[k].1, rs[k].2) := List.getElem?_eq_getElem ok
    rw [ow_at st en hr hk, if_neg]
    omega
theorem owL_out {rs : List (Sy × Sy)} (hr : RsOk rs) : ∀ {t : List Sy} {h : Int}, (∀ s ∈ t, s.ok rs.length) → en ≤ h → owL st en rs t h = 0
  | [], _, _, _ => rfl
  | s :: r, h, ok, c => by
    have := szv_nn rs s
    rw [owL, ow_out st en hr (ok s List.mem_cons_self) (.inl c), owL_out hr (fun x hx => ok x (List.mem_cons_of_mem _ hx)) (by omega)]
theorem szv_pos {rs : List (Sy × Sy)} (hr : RsOk rs) : ∀ (m : Nat) (s : Sy), s.ok m → m ≤ rs.length → 1 ≤ szv rs s := fun m => by
  induction m with
  | zero =>
    intro s hs _
    cases s with
    | s c => simp
    | n k => exact absurd hs (Nat.not_lt_zero k)
  | succ m ih =>
    intro s hs hm
    cases s with
    | s c => simp
    | n k =>
      have hs : k < m + 1 := hs
      have hk : rs[k]? = some (rs[k].1, rs[k].2) := List.getElem?_eq_getElem (by omega)
      have o := hr k _ hk
      rw [szv_at hr hk]
      have h1 := ih rs[k].1 (o.1.mono (by omega)) (by omega)
      have h2 := ih rs[k].2 (o.2.mono (by omega)) (by omega)
      simp only
      omega
theorem ow_le {rs : List (Sy × Sy)} (hr : RsOk rs) : ∀ (m : Nat) (s : Sy) (h : Int), s.ok m → m ≤ rs.length → (ow st en rs s h : Int) + 1 ≤ szv rs s := fun m => by
  induction m with
  | zero =>
    intro s h hs _
    cases s with
    | s c => simp [ow_s]
    | n k => exact absurd hs (Nat.not_lt_zero k)
  | succ m ih =>
    intro s h hs hm
    cases s with
    | s c => simp [ow_s]
    | n k =>
      have hs : k < m + 1 := hs
      have hk : rs[k]? = some (rs[k].1, rs[k].2) := List.getElem?_eq_getElem (by omega)
      have o := hr k _ hk
      rw [ow_at st en hr hk]
      have p1 := szv_pos hr m rs[k].1 (o.1.mono (by omega)) (by omega)
      have p2 := szv_pos hr m rs[k].2 (o.2.mono (by omega)) (by omega)
      have h1 := ih rs[k].1 h (o.1.mono (by omega)) (by omega)
      have h2 := ih rs[k].2 (h + szv rs rs[k].1) (o.2.mono (by omega)) (by omega)
      rw [szv_at hr hk]
      simp only
      split <;> omega
theorem owL_le {rs : List (Sy × Sy)} (hr : RsOk rs) : ∀ {t : List Sy} {h : Int}, (∀ s ∈ t, s.ok rs.length) → (owL st en rs t h : Int) + t.length ≤ suml rs t
  | [], _, _ => by simp [owL, suml_nil]
  | s :: r, h, ok => by
    have h1 := ow_le st en hr rs.length s h (ok s List.mem_cons_self) (Nat.le_refl _)
    have h2 := owL_le hr (t := r) (h := h + szv rs s) (fun x hx => ok x (List.mem_cons_of_mem _ hx))
    rw [owL, suml_cons]
    simp only [List.length_cons]
    omega
/-- the signs of t, that begins at h, within st … en -/
def cutT (t : List Nat) (h : Int) : List Nat := (t.take (en - h).toNat).drop (st - h).toNat
theorem cutT_app (a b : List Nat) (h : Int) : cutT st en (a ++ b) h = cutT st en a h ++ cutT st en b (h + a.length) := by
  unfold cutT
  rw [List.take_append, List.drop_append]
  by_cases c : en ≤ h + (a.length : Int)
  · have e : (en - (h + (a.length : Int))).toNat = 0 := by omega
    have e2 : (en - h).toNat - a.length = 0 := by omega
    rw [e, e2]
    simp
  · have e2 : (en - h).toNat - a.length = (en - (h + (a.length : Int))).toNat := by omega
    have e3 : (a.take (en - h).toNat) = a := List.take_of_length_le (by omega)
    have e4 : (st - h).toNat - a.length = (st - (h + (a.length : Int))).toNat := by omega
    rw [e2, e3, e4]
theorem cutT_out {t : List Nat} {h : Int} (c : en ≤ h ∨ h + t.length ≤ st) : cutT st en t h = [] := by
  unfold cutT
  rcases c with c | c
  · have e : (en - h).toNat = 0 := by omega
    rw [e]; simp
  · apply List.drop_eq_nil_of_le
    simp
    omega
theorem cutT_one {c : Nat} {h : Int} (h1 : h < en) (h2 : st < h + 1) : cutT st en [c] h = [c] := by
  unfold cutT
  obtain ⟨m, hm⟩ : ∃ m, (en - h).toNat = m + 1 := ⟨(en - h).toNat - 1, by omega⟩
  have e2 : (st - h).toNat = 0 := by omega
  rw [hm, e2]; simp
theorem tell_cons (rs : List (Sy × Sy)) (s : Sy) (row : List Sy) : tell rs (s :: row) = tval rs s ++ tell rs row := rfl
theorem cutT_len (t : List Nat) (h : Int) : (cutT st en t h).length ≤ (en - st).toNat := by
  unfold cutT
  simp
  omega
end
end PL

set_option Elab.async false
set_option linter.all false
set_option maxRecDepth 100000
set_option maxHeartbeats 1000000
/-! Where a word stands. -/
namespace PL
open PySem PySem.Spec PyProof.Rows L2
def isAt (w t : List Nat) (k : Nat) : Bool := decide ((t.drop k).take w.length = w)
/-- the places of w in t -/
def pl (w t : List Nat) : List Nat := (List.range (t.length + 1 - w.length)).filter (isAt w t)
theorem range_split (x y z : Nat) : List.range (x + y + z) = List.range x ++ (List.range y).map (x + ·) ++ (List.range z).map (x + y + ·) := by
  rw [List.range_add, List.range_add]
def hd (n : Nat) (t : List Nat) : List Nat := t.take n
def tl (n : Nat) (t : List Nat) : List Nat := t.drop (t.length - n)
theorem isAt_l {w a b : List Nat} {k : Nat} (h : k + w.length ≤ a.length) : isAt w (a ++ b) k = isAt w a k := by
  unfold isAt
  rw [List.drop_append, List.take_append, List.length_drop]
  have e : w.length - (a.length - k) = 0 := by omega
  rw [e]; simp
theorem isAt_r {w a b : List Nat} {k : Nat} : isAt w (a ++ b) (a.length + k) = isAt w b k := by
  unfold isAt
  rw [List.drop_append]
  have e : a.drop (a.length + k) = [] := List.drop_eq_nil_of_le (by omega)
  rw [e]; simp
theorem isAt_take {w l : List Nat} {p n : Nat} (h : p + w.length ≤ n) : isAt w (l.take n) p = isAt w l p := by
  unfold isAt
  rw [List.drop_take, List.take_take]
  have e : min w.length (n - p) = w.length := by omega
  rw [e]
theorem isAt_drop {w l : List Nat} {x p : Nat} : isAt w (l.drop x) p = isAt w l (x + p) := by
  unfold isAt; rw [List.drop_drop]
theorem filter_map_add {n x : Nat} {f g : Nat → Bool} (h : ∀ k, k < n → f (x + k) = g k) : ((List.range n).map (x + ·)).filter f = ((List.range n).filter g).map (x + ·) := by
  rw [List.filter_map]
  congr 1
  apply List.filter_congr
  intro k hk
  exact h k (by simpa using hk)
/-- the places of w in two texts together -/
theorem pl_app {w : List Nat} (hw : 1 ≤ w.length) (a b : List Nat) : pl w (a ++ b) = pl w a ++ (pl w (tl (w.length - 1) a ++ hd (w.length - 1) b)).map (a.length - (tl (w.length - 1) a).length + ·) ++ (pl w b).map (a.length + ·) := by
  obtain ⟨m, hm⟩ : ∃ m, w.length = m + 1 := ⟨w.length - 1, by omega⟩
  have e1 : w.length - 1 = m := by omega
  rw [e1]
  have lt : (tl m a).length = min m a.length := by unfold tl; simp; omega
  have lh : (hd m b).length = min m b.length := by unfold hd; simp
  have x0 : a.length + 1 - w.length = a.length - min m a.length := by omega
  have tot : (a ++ b).length + 1 - w.length = (a.length - min m a.length) + (min m a.length + min m b.length + 1 - w.length) + (b.length + 1 - w.length) := by simp; omega
  unfold pl
  rw [tot, range_split, List.filter_append, List.filter_append]
  congr 1
  · congr 1
    · rw [x0]
      apply List.filter_congr
      intro k hk
      have hk : k < a.length - min m a.length := by simpa using hk
      exact isAt_l (by omega)
    · have e2 : (tl m a ++ hd m b).length + 1 - w.length = min m a.length + min m b.length + 1 - w.length := by rw [List.length_append, lt, lh]
      rw [e2, lt]
      apply filter_map_add
      intro k hk
      have e3 : tl m a ++ hd m b = ((a ++ b).drop (a.length - min m a.length)).take (min m a.length + m) := by
        rw [List.drop_append, List.take_append]
        have z1 : a.length - min m a.length - a.length = 0 := by omega
        have z2 : (a.drop (a.length - min m a.length)).length = min m a.length := by simp; omega
        have z4 : (a.drop (a.length - min m a.length)).take (min m a.length + m) = a.drop (a.length - min m a.length) := List.take_of_length_le (by rw [z2]; omega)
        have z5 : min m a.length + m - (a.drop (a.length - min m a.length)).length = m := by rw [z2]; omega
        rw [z1, z4, z5]
        have z3 : a.drop (a.length - m) = a.drop (a.length - min m a.length) := by congr 1; omega
        unfold tl hd
        rw [z3]
        simp
      rw [e3, isAt_take (by omega), isAt_drop]
  · by_cases hb : m < b.length
    · have e4 : a.length - min m a.length + (min m a.length + min m b.length + 1 - w.length) = a.length := by omega
      rw [e4]
      apply filter_map_add
      intro k hk
      exact isAt_r
    · have e5 : b.length + 1 - w.length = 0 := by omega
      rw [e5]; simp
theorem hd_app (n : Nat) (a b : List Nat) : hd n (a ++ b) = if a.length < n then hd n (hd n a ++ hd n b) else hd n a := by
  unfold hd
  split
  · rename_i h
    rw [List.take_of_length_le (l := a) (by omega), List.take_append, List.take_append, List.take_take]
    congr 2
    omega
  · rename_i h
    rw [List.take_append]
    have e : n - a.length = 0 := by omega
    rw [e]; simp
theorem tl_all {n : Nat} {t : List Nat} (h : t.length ≤ n) : tl n t = t := by
  unfold tl
  have e : t.length - n = 0 := by omega
  rw [e]; rfl
theorem tl_app (n : Nat) (a b : List Nat) : tl n (a ++ b) = if b.length < n then tl n (tl n a ++ tl n b) else tl n b := by
  split
  · rename_i h
    rw [tl_all (t := b) (by omega)]
    unfold tl
    rw [List.drop_append, List.drop_append, List.drop_drop]
    simp only [List.length_append, List.length_drop]
    congr 1
    · congr 1; omega
    · congr 1; omega
  · rename_i h
    unfold tl
    rw [List.drop_append, List.length_append]
    have e : a.drop (a.length + b.length - n) = [] := List.drop_eq_nil_of_le (by omega)
    rw [e]
    simp only [List.nil_append]
    congr 1
    omega
def whD : Option Nat → D
  | none => .none
  | some k => .int k
def hdo (L : List Nat) : Option Nat := L.head?
/-- what is known of a text -/
def kn (w t : List Nat) : D := .tuple [.int (pl w t).length, whD (hdo (pl w t)), .int t.length, tx (hd (w.length - 1) t), tx (tl (w.length - 1) t)]
theorem isD_wh (o : Option Nat) : isD (whD o) .none = some (.bool o.isNone) := by cases o <;> rfl
theorem notIsD_wh (o : Option Nat) : notIsD (whD o) .none = some (.bool o.isSome) := by cases o <;> rfl
@[simp] theorem fl_wh {o : Option Nat} : flatD (whD o) = true := by cases o <;> simp [whD]
@[simp] theorem keep_wh {o : Option Nat} {t : List Nat} : keepT (whD o) t = [] := keep_fl fl_wh
theorem hdo_snoc (L : List Nat) (x : Nat) : hdo (L ++ [x]) = if (hdo L).isNone = true then some x else hdo L := by cases L <;> rfl
theorem hdo_app (L M : List Nat) : hdo (L ++ M) = if (hdo L).isNone = true then hdo M else hdo L := by cases L <;> rfl
theorem hdo_map (x : Nat) (L : List Nat) : hdo (L.map (x + ·)) = (hdo L).map (x + ·) := by cases L <;> rfl
@[simp] theorem fl_kn {w t : List Nat} : flatD (kn w t) = true := by simp [kn]
@[simp] theorem keep_kn {w t s : List Nat} : keepT (kn w t) s = [] := keep_fl fl_kn
theorem mul_ch {c : Nat} {k : Int} (h0 : 0 ≤ k) (h : k ≤ 10000000) : mulD (ch c) (.int k) = some (tx (List.replicate k.toNat c)) := by
  have e : (-(2 ^ 63) ≤ k ∧ k < 2 ^ 63 ∧ (⟨#[c]⟩ : Str).length * k.toNat ≤ sizeLine) := ⟨by omega, by omega, small_le (by show 1 * k.toNat ≤ _; omega)⟩
  have : mulD (ch c) (.int k) = if -(2 ^ 63) ≤ k ∧ k < 2 ^ 63 ∧ (⟨#[c]⟩ : Str).length * k.toNat ≤ sizeLine then some (.str (strRep ⟨#[c]⟩ k.toNat)) else none := nr rfl
  rw [this, if_pos e]
  unfold strRep tx
  have e2 : (List.replicate k.toNat [c]).flatten = List.replicate k.toNat c := by
    induction k.toNat with
    | zero => rfl
    | succ n ih => rw [List.replicate_succ, List.flatten_cons, ih, List.replicate_succ]; rfl
  show some (PyData.str ⟨(List.replicate k.toNat [c]).flatten.toArray⟩) = _
  rw [e2]
end PL

set_option Elab.async false
set_option linter.all false
set_option maxRecDepth 100000
set_option maxHeartbeats 1000000
/-! How many rules are opened for a stretch; texts of two signs in turn; words of two signs. -/
namespace PL
open PySem PySem.Spec PyProof.Rows L2
def hv (rs : List (Sy × Sy)) (s : Sy) : Int := val (fun _ => (0 : Int)) 0 (hts rs) s
theorem hv_s (rs : List (Sy × Sy)) (c : Nat) : hv rs (.s c) = 0 := rfl
theorem hv_nn (rs : List (Sy × Sy)) (s : Sy) : 0 ≤ hv rs s := hval_nn rs s
theorem hv_at {rs : List (Sy × Sy)} (h : RsOk rs) {k : Nat} {r : Sy × Sy} (hk : rs[k]? = some r) : hv rs (.n k) = 1 + max (hv rs r.1) (hv rs r.2) := val_at _ _ _ h hk
theorem ite_var (c : Prop) [Decidable c] (a b : Int) : ∃ x, (if c then a else b) = x ∧ (c → x = a) ∧ (¬ c → x = b) := ⟨_, rfl, fun h => if_pos h, fun h => if_neg h⟩
section
variable (st en : Int)
theorem ow_bd {rs : List (Sy × Sy)} (hr : RsOk rs) (hse : st < en) : ∀ (m : Nat) (s : Sy) (h : Int), s.ok m → m ≤ rs.length → h < en → st < h + szv rs s →
    (ow st en rs s h : Int) + 1 ≤ (min en (h + szv rs s) - max st h) + (if h < st then hv rs s else 0) + (if en < h + szv rs s then hv rs s else 0) := fun m => by
  induction m with
  | zero =>
    intro s h hs _ h1 h2
    cases s with
    | s c => simp [ow_s, hv_s] at h2 ⊢; omega
    | n k => exact absurd hs (Nat.not_lt_zero k)
  | succ m ih =>
    intro s h hs hm h1 h2
    cases s with
    | s c => simp [ow_s, hv_s] at h2 ⊢; omega
    | n k =>
      have hs : k < m + 1 := hs
      have hk : rs[k]? = some (rs[k].1, rs[k].2) := List.getElem?_eq_getElem (by omega)
      have o := hr k _ hk
      have i1 := ih rs[k].1 h (o.1.mono (by omega)) (by omega) h1
      have i2 := ih rs[k].2 (h + szv rs rs[k].1) (o.2.mono (by omega)) (by omega)
      have z1 := ow_out st en hr (s := rs[k].1) (h := h) (o.1.mono (by omega))
      have z2 := ow_out st en hr (s := rs[k].2) (h := h + szv rs rs[k].1) (o.2.mono (by omega))
      have p1 := szv_pos hr m rs[k].1 (o.1.mono (by omega)) (by omega)
      have p2 := szv_pos hr m rs[k].2 (o.2.mono (by omega)) (by omega)
      have n1 := hv_nn rs rs[k].1
      have n2 := hv_nn rs rs[k].2
      rw [ow_at st en hr hk, if_pos ⟨h1, h2⟩, hv_at hr hk]
      have ez := szv_at hr hk
      simp only at ez
      rw [ez] at h2 ⊢
      simp only
      generalize szv rs rs[k].1 = za at *
      generalize szv rs rs[k].2 = zb at *
      generalize hv rs rs[k].1 = ha at *
      generalize hv rs rs[k].2 = hb at *
      generalize ow st en rs rs[k].1 h = oa at *
      generalize ow st en rs rs[k].2 (h + za) = ob at *
      by_cases c1 : st < h + za
      · have i1 := i1 c1
        by_cases c2 : h + za < en
        · have i2 := i2 c2 (by omega)
          split at i1 <;> split at i1 <;> split at i2 <;> split at i2 <;> split <;> split <;> omega
        · have z2 := z2 (.inl (by omega))
          split at i1 <;> split at i1 <;> split <;> split <;> omega
      · have z1 := z1 (.inr (by omega))
        by_cases c2 : h + za < en
        · have i2 := i2 c2 (by omega)
          split at i2 <;> split at i2 <;> split <;> split <;> omega
        · have z2 := z2 (.inl (by omega))
          split <;> split <;> omega
theorem owL_bd {rs : List (Sy × Sy)} (hr : RsOk rs) (hse : st < en) {E : Int} (h0 : 0 ≤ E) : ∀ {t : List Sy} {h : Int}, (∀ s ∈ t, s.ok rs.length) → (∀ s ∈ t, hv rs s ≤ E) →
    (owL st en rs t h : Int) ≤ max 0 (min en (h + suml rs t) - max st h) + (if h < st then E else 0) + (if en < h + suml rs t then E else 0)
  | [], h, _, _ => by simp only [owL, suml_nil]; split <;> split <;> omega
  | s :: r, h, ok, hd => by
    have ih := owL_bd hr hse h0 (t := r) (h := h + szv rs s) (fun x hx => ok x (List.mem_cons_of_mem _ hx)) (fun x hx => hd x (List.mem_cons_of_mem _ hx))
    have ok1 := ok s List.mem_cons_self
    have b1 := ow_bd st en hr hse rs.length s h ok1 (Nat.le_refl _)
    have z1 := ow_out st en hr (s := s) (h := h) ok1
    have p1 := szv_pos hr rs.length s ok1 (Nat.le_refl _)
    have e1 := hd s List.mem_cons_self
    have n1 := hv_nn rs s
    have sn := suml_nn rs r
    have zu := owL_out st en hr (t := r) (h := h + szv rs s) (fun x hx => ok x (List.mem_cons_of_mem _ hx))
    rw [owL, suml_cons]
    generalize szv rs s = z at *
    generalize suml rs r = y at *
    generalize hv rs s = a at *
    generalize ow st en rs s h = o at *
    generalize owL st en rs r (h + z) = u at *
    obtain ⟨x3, q3, f3, g3⟩ := ite_var (h + z < st) E 0
    obtain ⟨x4, q4, f4, g4⟩ := ite_var (en < h + z + y) E 0
    obtain ⟨x5, q5, f5, g5⟩ := ite_var (h < st) E 0
    obtain ⟨x6, q6, f6, g6⟩ := ite_var (en < h + (z + y)) E 0
    have q46 : x4 = x6 := by rw [← q4, ← q6, Int.add_assoc]
    rw [q3, q4] at ih
    rw [q5, q6]
    have n3 : 0 ≤ x3 := by rw [← q3]; split <;> omega
    have n5 : 0 ≤ x5 := by rw [← q5]; split <;> omega
    have n6 : 0 ≤ x6 := by rw [← q6]; split <;> omega
    have l3 : x3 ≤ x5 := by
      by_cases k : h + z < st
      · rw [f3 k, f5 (by omega)]; omega
      · rw [g3 k]; exact n5
    clear q3 q4 q5 q6 f4 g4
    by_cases c : h < en ∧ st < h + z
    · have b1 := b1 c.1 c.2
      have c1 := c.1
      have c2 := c.2
      have k3 := g3 (by omega)
      clear f3 g3 c z1
      have x15 : (if h < st then a else 0) ≤ x5 := by
        split
        · rename_i k; rw [f5 k]; exact e1
        · exact n5
      generalize (if h < st then a else 0) = x1 at *
      clear f5 g5
      by_cases k2 : en < h + z
      · have k6 := f6 (by omega)
        have ku := zu (by omega)
        clear f6 g6 zu ih
        rw [if_pos k2] at b1
        omega
      · clear f6 g6 zu
        rw [if_neg k2] at b1
        omega
    · have z1 := z1 (by omega)
      clear f3 g3 f5 g5 f6 g6 b1
      by_cases k : en ≤ h
      · have := zu (by omega)
        omega
      · clear zu
        omega
/-- no more than the stretch has signs, and two for each step of the depth -/
theorem owL_deep {rs : List (Sy × Sy)} {row : List Sy} (h : BkOk rs row) (h0 : 0 ≤ st) (h1 : st < en) (h2 : en ≤ suml rs row) : (owL st en rs row 0 : Int) ≤ en - st + 2 * deepl rs row := by
  have hd : ∀ s ∈ row, hv rs s ≤ deepl rs row := fun s hs => by
    unfold deepl
    rw [maxl_fold _ (fun n hn => by
      obtain ⟨s, _, rfl⟩ := List.mem_map.mp hn
      exact hval_nn _ s)]
    have key : ∀ (l : List Int) (a : Int), (∀ x ∈ l, x ≤ l.foldl max a) ∧ a ≤ l.foldl max a := by
      intro l
      induction l with
      | nil => intro a; exact ⟨fun x hx => by (cases hx), Int.le_refl _⟩
      | cons y l ih =>
        intro a
        obtain ⟨i1, i2⟩ := ih (max a y)
        rw [List.foldl_cons]
        refine ⟨fun x hx => ?_, by omega⟩
        rcases List.mem_cons.mp hx with e | e
        · subst e; omega
        · exact i1 x e
    exact (key _ 0).1 _ (List.mem_map.mpr ⟨s, hs, rfl⟩)
  have d0 : 0 ≤ deepl rs row := by
    unfold deepl
    rw [maxl_fold _ (fun n hn => by
      obtain ⟨s, _, rfl⟩ := List.mem_map.mp hn
      exact hval_nn _ s)]
    have key : ∀ (l : List Int) (a : Int), a ≤ l.foldl max a := by
      intro l
      induction l with
      | nil => intro a; exact Int.le_refl _
      | cons y l ih => intro a; have := ih (max a y); rw [List.foldl_cons]; omega
    exact key _ 0
  have := owL_bd st en h.hr h1 d0 (t := row) (h := 0) h.ho hd
  split at this <;> split at this <;> omega
end
/-! ### two signs in turn -/
def alt (x y n : Nat) : List Nat := (List.range n).map fun i => if i % 2 = 0 then x else y
@[simp] theorem alt_len {x y n : Nat} : (alt x y n).length = n := by simp [alt]
theorem alt_at {x y n i : Nat} (h : i < n) : (alt x y n)[i]? = some (if i % 2 = 0 then x else y) := by simp [alt, h]
theorem alt_app (x y a b : Nat) : alt x y (2 * a) ++ alt x y b = alt x y (2 * a + b) := by
  unfold alt
  rw [List.range_add, List.map_append, List.map_map]
  congr 1
  apply List.map_congr_left
  intro i _
  simp only [Function.comp]
  have : (2 * a + i) % 2 = i % 2 := by omega
  rw [this]
theorem alt_rep (x y a : Nat) : ∀ k : Nat, (List.replicate k (alt x y (2 * a))).flatten = alt x y (2 * (k * a))
  | 0 => by simp [alt]
  | k + 1 => by
    rw [List.replicate_succ, List.flatten_cons, alt_rep x y a k, alt_app]
    congr 1
    have e : (k + 1) * a = k * a + a := Nat.succ_mul k a
    omega
theorem alt_mem {x y n c : Nat} (h : c ∈ alt x y n) : c = x ∨ c = y := by
  obtain ⟨i, _, rfl⟩ := List.mem_map.mp h
  split <;> simp
/-- a word of both in turn -/
def altW (x y c n : Nat) : List Nat := (alt x y (c + n)).drop c
@[simp] theorem altW_len {x y c n : Nat} : (altW x y c n).length = n := by simp [altW]
theorem altW_at {x y c n i : Nat} (h : i < n) : (altW x y c n)[i]? = some (if (c + i) % 2 = 0 then x else y) := by
  unfold altW
  rw [List.getElem?_drop, alt_at (by omega)]
theorem isAt_alt {x y c n m p : Nat} (hxy : x ≠ y) (hn : 1 ≤ n) (hc : c < 2) (h : p + n ≤ m) : isAt (altW x y c n) (alt x y m) p = decide (p % 2 = c) := by
  have e : isAt (altW x y c n) (alt x y m) p = true ↔ p % 2 = c := by
    unfold isAt
    rw [decide_eq_true_eq, altW_len]
    constructor
    · intro q
      have q := congrArg (fun l => l[0]?) q
      simp only [List.getElem?_take, List.getElem?_drop] at q
      rw [if_pos (by omega), alt_at (by omega), altW_at (by omega)] at q
      have q := Option.some.inj q
      by_cases c0 : c = 0
      · subst c0
        by_cases c1 : p % 2 = 0
        · exact c1
        · have : (p + 0) % 2 = p % 2 := by simp
          rw [this, if_neg c1] at q
          simp at q
          exact absurd q.symm hxy
      · have : c = 1 := by omega
        subst this
        by_cases c1 : p % 2 = 0
        · have : (p + 0) % 2 = p % 2 := by simp
          rw [this, if_pos c1] at q
          simp at q
          exact absurd q hxy
        · omega
    · intro q
      apply List.ext_getElem?
      intro i
      rw [List.getElem?_take]
      by_cases hi : i < n
      · rw [if_pos hi, List.getElem?_drop, alt_at (by omega), altW_at hi]
        have : (p + i) % 2 = (c + i) % 2 := by omega
        rw [this]
      · rw [if_neg hi, List.getElem?_eq_none (by rw [altW_len]; omega)]
  cases q : isAt (altW x y c n) (alt x y m) p with
  | true => rw [decide_eq_true (e.mp q)]
  | false => rw [decide_eq_false fun k => by rw [e.mpr k] at q; cases q]
/-- numbers below n of one parity -/
theorem par_count {c : Nat} (hc : c < 2) : ∀ n, ((List.range n).filter fun p => decide (p % 2 = c)).length = (n + 1 - c) / 2
  | 0 => by simp; omega
  | n + 1 => by
    rw [List.range_succ, List.filter_append, List.length_append, par_count hc n]
    by_cases q : n % 2 = c
    · simp [q]; omega
    · simp [q]; omega
theorem par_head {c : Nat} (hc : c < 2) : ∀ n, ((List.range n).filter fun p => decide (p % 2 = c)).head? = if c < n then some c else none
  | 0 => by simp
  | n + 1 => by
    rw [List.range_succ, List.filter_append, List.head?_append, par_head hc n]
    by_cases q : c < n
    · simp [q]; omega
    · rw [if_neg q]
      by_cases q2 : n % 2 = c
      · have : n = c := by omega
        subst this; simp [q2]
      · simp [q2]; omega
theorem pl_alt {x y c n m : Nat} (hxy : x ≠ y) (hn : 1 ≤ n) (hc : c < 2) : pl (altW x y c n) (alt x y m) = (List.range (m + 1 - n)).filter fun p => decide (p % 2 = c) := by
  unfold pl
  rw [alt_len, altW_len]
  apply List.filter_congr
  intro p hp
  have hp : p < m + 1 - n := by simpa using hp
  exact isAt_alt hxy hn hc (by omega)
/-- a sign of its own ahead changes nothing but the places -/
theorem pl_ahead {w t : List Nat} {z : Nat} (hw : 1 ≤ w.length) (hz : z ∉ w) : pl w (z :: t) = (pl w t).map (1 + ·) := by
  have h0 : isAt w (z :: t) 0 = false := by
    cases q : isAt w (z :: t) 0 with
    | false => rfl
    | true =>
      exfalso
      apply hz
      have q : ((z :: t).drop 0).take w.length = w := of_decide_eq_true q
      rw [← q]
      cases hl : w.length with
      | zero => omega
      | succ k => simp
  have hs : ∀ k, isAt w (z :: t) (1 + k) = isAt w t k := fun k => by
    have := isAt_r (w := w) (a := [z]) (b := t) (k := k)
    simpa using this
  unfold pl
  by_cases c : w.length ≤ t.length + 1
  · have e : (z :: t).length + 1 - w.length = 1 + (t.length + 1 - w.length) := by simp; omega
    rw [e, List.range_add, List.filter_append]
    have e1 : (List.range 1).filter (isAt w (z :: t)) = [] := by
      rw [show List.range 1 = [0] by decide]; simp [h0]
    rw [e1, List.nil_append, List.filter_map]
    congr 1
    apply List.filter_congr
    intro k _
    exact hs k
  · have e : (z :: t).length + 1 - w.length = 0 := by simp; omega
    have e2 : t.length + 1 - w.length = 0 := by omega
    rw [e, e2]; rfl
theorem mul_tx {l : List Nat} {k : Nat} (h : l.length * k ≤ 10000000) (h2 : k ≤ 10000000) : mulD (tx l) (.int k) = some (tx (List.replicate k l).flatten) := by
  have e : (-(2 ^ 63) ≤ (k : Int) ∧ (k : Int) < 2 ^ 63 ∧ (⟨l.toArray⟩ : Str).length * (k : Int).toNat ≤ sizeLine) := ⟨by omega, by omega, small_le (by rw [str_len, Int.toNat_natCast]; exact h)⟩
  have : mulD (tx l) (.int k) = if -(2 ^ 63) ≤ (k : Int) ∧ (k : Int) < 2 ^ 63 ∧ (⟨l.toArray⟩ : Str).length * (k : Int).toNat ≤ sizeLine then some (.str (strRep ⟨l.toArray⟩ (k : Int).toNat)) else none := nr rfl
  rw [this, if_pos e, Int.toNat_natCast]
  rfl

/-! ### what is known of a text for a word of two signs -/
def hd0 (t : List Nat) : Nat := t.headD 0
def la0 (t : List Nat) : Nat := t.getLastD 0
def kp (w t : List Nat) : D := .tuple [.int (pl w t).length, whD (hdo (pl w t)), .int t.length, ch (hd0 t), ch (la0 t)]
@[simp] theorem fl_kp {w t : List Nat} : flatD (kp w t) = true := by simp [kp]
@[simp] theorem keep_kp {w t s : List Nat} : keepT (kp w t) s = [] := keep_fl fl_kp
theorem pl_two {w : List Nat} (h : w.length = 2) (x y : Nat) : pl w [x, y] = if [x, y] = w then [0] else [] := by
  unfold pl
  rw [h]
  show (List.range 1).filter (isAt w [x, y]) = _
  rw [show List.range 1 = [0] by decide]
  unfold isAt
  rw [h]
  by_cases q : [x, y] = w
  · rw [if_pos q]; simp [q, h]; rw [List.take_of_length_le (by omega)]
  · rw [if_neg q]; simp [q]
theorem pl_both {w a b : List Nat} (h : w.length = 2) (ha : a ≠ []) (hb : b ≠ []) : pl w (a ++ b) = pl w a ++ (if [la0 a, hd0 b] = w then [a.length - 1] else []) ++ (pl w b).map (a.length + ·) := by
  rw [pl_app (by omega) a b, h]
  have e1 : tl (2 - 1) a = [la0 a] := by
    obtain ⟨u, z, rfl⟩ : ∃ u z, a = u ++ [z] := ⟨a.dropLast, a.getLast ha, (List.dropLast_concat_getLast ha).symm⟩
    unfold tl la0
    simp
  have e2 : hd (2 - 1) b = [hd0 b] := by
    cases b with
    | nil => exact absurd rfl hb
    | cons x r => simp [hd, hd0]
  rw [e1, e2]
  congr 2
  rw [List.singleton_append, pl_two h]
  split <;> simp
theorem fm_le : ∀ (l : List Int) (a b : Int), l.foldl max a ≤ b ↔ a ≤ b ∧ ∀ x ∈ l, x ≤ b
  | [], a, b => by simp
  | x :: l, a, b => by
    rw [List.foldl_cons, fm_le l]
    simp only [List.mem_cons, forall_eq_or_imp]
    constructor
    · rintro ⟨h1, h2⟩; exact ⟨by omega, by omega, h2⟩
    · rintro ⟨h1, h2, h3⟩; exact ⟨by omega, h3⟩
theorem eq_of_le {x y : Int} (h : ∀ b, x ≤ b ↔ y ≤ b) : x = y := by
  have h1 := (h x).mp (Int.le_refl _)
  have h2 := (h y).mpr (Int.le_refl _)
  omega
theorem NX.mono {I J : Rho → Prop} {f : Fl} (h : ∀ ρ, I ρ → J ρ) (k : NX I f) : NX J f := by
  cases f with
  | nx ρ => exact h ρ k
  | ct ρ => exact h ρ k
  | _ => exact k
theorem isAt_len {w t : List Nat} {k : Nat} (h1 : 1 ≤ w.length) (h : isAt w t k = true) : k + w.length ≤ t.length := by
  have h : (t.drop k).take w.length = w := of_decide_eq_true h
  have := congrArg List.length h
  simp at this
  omega
theorem pl_range {w t : List Nat} (h1 : 1 ≤ w.length) : (List.range t.length).filter (isAt w t) = pl w t := by
  unfold pl
  obtain ⟨d, hd⟩ : ∃ d, t.length = (t.length + 1 - w.length) + d := ⟨t.length - (t.length + 1 - w.length), by omega⟩
  conv => lhs; rw [hd]
  rw [List.range_add, List.filter_append]
  have e : ((List.range d).map (t.length + 1 - w.length + ·)).filter (isAt w t) = [] := by
    rw [List.filter_eq_nil_iff]
    intro k hk h
    obtain ⟨j, hj, rfl⟩ := List.mem_map.mp hk
    have := isAt_len h1 h
    omega
  rw [e, List.append_nil]
theorem pl_at {w t : List Nat} {p : Nat} (h : isAt w t p = true) (h1 : 1 ≤ w.length) : p ∈ pl w t := by
  rw [← pl_range h1]
  have := isAt_len h1 h
  exact List.mem_filter.mpr ⟨by simp; omega, h⟩

/-! ### more of lists and texts -/
theorem list_tx {l : List Nat} (h : l.length ≤ 10000000) : listAF [tx l] = some (.list (l.map ch)) := by
  show (if (⟨l.toArray⟩ : Str).length ≤ sizeLine then some (PyData.list (charsD ⟨l.toArray⟩)) else none) = _
  rw [if_pos (by rw [str_len]; exact small_le h)]
  rfl
theorem atI_m1 {α : Type} {xs : List α} {a : α} (h : xs[xs.length - 1]? = some a) : atI xs (-1) = some a := by
  have h1 := (List.getElem?_eq_some_iff.mp h).1
  unfold atI
  have e : ixN xs.length (-1) = some (xs.length - 1) := by
    unfold ixN
    rw [if_neg (by omega)]
    split
    · congr 1; omega
    · omega
  rw [e]; exact h
theorem sgs_nodup : sgs.cps.toList.Nodup := by decide +kernel
theorem sgn_inj {a b : Int} (h : sgn a = sgn b) : a % 95 = b % 95 := by
  have ha : (a % 95).toNat < sgs.cps.toList.length := by rw [sgs_len]; omega
  have hb : (b % 95).toNat < sgs.cps.toList.length := by rw [sgs_len]; omega
  unfold sgn at h
  rw [List.getD_eq_getElem?_getD, List.getD_eq_getElem?_getD] at h
  have e : sgs.cps.toList[(a % 95).toNat]? = sgs.cps.toList[(b % 95).toNat]? := by
    rw [List.getElem?_eq_getElem ha, List.getElem?_eq_getElem hb] at h ⊢
    simpa using h
  have := (List.getElem?_inj ha sgs_nodup).mp e
  omega
theorem shaped_wh {a : Int} {o : Option Nat} : SeqAt.shaped (.tuple [.int a, whD o]) = true := by
  refine shaped_of ?_ ?_
  · cases o <;> simp [PyData.canLay0, PyData.canLayAll0, whD]
  · cases o <;> simp [PyData.depth, PyData.depthAll, whD]
end PL

set_option Elab.async false
set_option linter.all false
set_option maxRecDepth 100000
set_option maxHeartbeats 1000000
/-! Notes: symbols, rows and books as texts. -/
namespace PL
open PySem PySem.Spec PyProof.Rows L2
/-- texts with a text between -/
def inter (sep : List Nat) : List (List Nat) → List Nat
  | [] => []
  | [l] => l
  | l :: m :: r => l ++ sep ++ inter sep (m :: r)
theorem inter_cons (sep l : List Nat) (r : List (List Nat)) : inter sep (l :: r) = l ++ (r.map (sep ++ ·)).flatten := by
  induction r generalizing l with
  | nil => simp [inter]
  | cons m r ih => rw [inter, ih m]; simp
theorem inter_snoc (sep : List Nat) (ls : List (List Nat)) (l : List Nat) (h : ls ≠ []) : inter sep (ls ++ [l]) = inter sep ls ++ sep ++ l := by
  cases ls with
  | nil => exact absurd rfl h
  | cons m r => rw [List.cons_append, inter_cons, inter_cons]; simp
theorem join_sep (sep : List Nat) : ∀ ls : List (List Nat), Str.join (⟨sep.toArray⟩ : Str) (ls.map fun l => (⟨l.toArray⟩ : Str)) = ⟨(inter sep ls).toArray⟩
  | [] => rfl
  | [l] => rfl
  | l :: m :: r => by
    have ih := join_sep sep (m :: r)
    simp only [List.map_cons] at ih ⊢
    rw [Str.join, ih]
    · apply Str.ext'
      simp [Str.cps_append, inter]
    · simp
theorem inter_len (sep : List Nat) (ls : List (List Nat)) : (inter sep ls).length ≤ ls.flatten.length + ls.length * sep.length := by
  induction ls with
  | nil => simp [inter]
  | cons l r ih =>
    cases r with
    | nil => simp [inter]
    | cons m r =>
      rw [inter]
      simp only [List.length_append, List.flatten_cons, List.length_cons] at ih ⊢
      rw [Nat.add_mul _ 1, Nat.one_mul]
      omega
theorem join_at {sep : List Nat} {ls : List (List Nat)} (h : ls.flatten.length + ls.length * sep.length ≤ 10000000) : joinD (tx sep) (.list (ls.map tx)) = some (tx (inter sep ls)) := by
  show (asStrs (ls.map tx)).bind _ = _
  rw [asStrs_tx]
  simp only [Option.bind_some]
  have e2 : ((ls.map fun l => (⟨l.toArray⟩ : Str)).map (·.length)).sum + (ls.map fun l => (⟨l.toArray⟩ : Str)).length * (⟨sep.toArray⟩ : Str).length ≤ 16777216 := by
    rw [sum_lens, List.length_map, str_len]; omega
  rw [if_pos e2, join_sep]
  rfl
/-! numbers -/
def dgs : Nat → Nat → List Nat
  | 0, _ => []
  | f + 1, n => if n < 10 then [48 + n] else dgs f (n / 10) ++ [48 + n % 10]
/-- a number's figures -/
def dg (n : Nat) : List Nat := dgs 3 n
theorem dg_str : ∀ n : Nat, n < 600 → Str.ofString (toString (n : Int)) = ⟨(dg n).toArray⟩ := by decide +kernel
theorem dg_len : ∀ n, n < 600 → 1 ≤ (dg n).length ∧ (dg n).length ≤ 3 := by decide +kernel
theorem dg_fig : ∀ n, n < 600 → ∀ c ∈ dg n, 48 ≤ c ∧ c ≤ 57 := by decide +kernel
theorem dg_zero : ∀ n, n < 600 → (dg n)[0]? = some 48 → (dg n).length = 1 := by decide +kernel
theorem dg_int : ∀ n, n < 600 → PySem.intText? (⟨(dg n).toArray⟩ : Str) = some (n : Int) := by decide +kernel
/-- a symbol as a text -/
def syT : Sy → List Nat
  | .s c => [39, c]
  | .n k => dg k
def rowT (r : List Sy) : List Nat := inter [32] (r.map syT)
def pairL (r : Sy × Sy) : List Sy := [r.1, r.2]
/-- all rows of a book -/
def rowsL (rs : List (Sy × Sy)) (row : List Sy) : List (List Sy) := rs.map pairL ++ [row]
def bookT (rs : List (Sy × Sy)) (row : List Sy) : List Nat := inter [10] ((rowsL rs row).map rowT)
theorem str_dg {n : Nat} (h : n < 600) : strF [.int n] = some (tx (dg n)) := by
  show (if (n : Int).natAbs.log2 < 1920 then some (PyData.str (Str.ofString (toString (n : Int)))) else none) = _
  rw [dg_str n h, if_pos]
  · rfl
  · have : (n : Int).natAbs = n := by simp
    rw [this]
    by_cases q : n = 0
    · subst q; decide
    · have := Nat.log2_le_self n
      omega
theorem int_dg {n : Nat} (h : n < 600) : intAF [tx (dg n)] = some (.int n) := by
  show (if (⟨(dg n).toArray⟩ : Str).length ≤ 640 then (PySem.intText? (⟨(dg n).toArray⟩ : Str)).map fun n => PyData.int n else none) = _
  have := dg_len n h
  rw [if_pos (by rw [str_len]; omega), dg_int n h]; rfl
theorem syT_len {s : Sy} {m : Nat} (hm : m ≤ 600) (h : s.ok m) : 1 ≤ (syT s).length ∧ (syT s).length ≤ 3 := by
  cases s with
  | s c => simp [syT]
  | n k => exact dg_len k (by have : k < m := h; omega)
theorem syT_ok {s : Sy} {m : Nat} (hm : m ≤ 600) (h : s.ok m) : ∀ c ∈ syT s, c < 1114112 := by
  cases s with
  | s c => intro x hx; simp [syT] at hx; rcases hx with e | e <;> rw [e]; · omega
           · exact h
  | n k => intro x hx; have := dg_fig k (by have : k < m := h; omega) x hx; omega
theorem zipD_two {α : Type} (f g : α → D) : ∀ xs : List α, zipD (xs.map f) (xs.map g) = xs.map fun x => PyData.tuple [f x, g x]
  | [] => rfl
  | x :: xs => by
    have ih := zipD_two f g xs
    unfold zipD at *
    rw [List.map_cons, List.map_cons, List.zip_cons_cons, List.map_cons, ih, List.map_cons]
end PL

set_option Elab.async false
set_option linter.all false
set_option maxRecDepth 100000
set_option maxHeartbeats 1000000
/-! How a book is made. -/
namespace PL
open PySem PySem.Spec PyProof.Rows L2
abbrev Pr := Sy × Sy
/-- neighbours -/
def nb : List Sy → List Pr
  | x :: y :: r => (x, y) :: nb (y :: r)
  | _ => []
/-- how often a pair stands there, each symbol used once -/
def og (p : Pr) : List Sy → Nat
  | x :: y :: r => if (x, y) = p then 1 + og p r else og p (y :: r)
  | _ => 0
/-- the same, where the symbol ahead may be used -/
def ogf (p : Pr) : Bool → List Sy → Nat
  | b, x :: y :: r => if b = false ∧ (x, y) = p then 1 + ogf p true (y :: r) else ogf p false (y :: r)
  | _, _ => 0
theorem og_0 (p : Pr) : og p [] = 0 := by simp [og]
theorem og_1 (p : Pr) (x : Sy) : og p [x] = 0 := by simp [og]
theorem og_2 (p : Pr) (x y : Sy) (r : List Sy) : og p (x :: y :: r) = if (x, y) = p then 1 + og p r else og p (y :: r) := by rw [og]
theorem ogf_2 (p : Pr) (b : Bool) (x y : Sy) (r : List Sy) : ogf p b (x :: y :: r) = if b = false ∧ (x, y) = p then 1 + ogf p true (y :: r) else ogf p false (y :: r) := by rw [ogf]
theorem ogf_0 (p : Pr) (b : Bool) : ogf p b [] = 0 := by simp [ogf]
theorem ogf_1 (p : Pr) (b : Bool) (x : Sy) : ogf p b [x] = 0 := by simp [ogf]
theorem ogf_t (p : Pr) (x : Sy) (r : List Sy) : ogf p true (x :: r) = ogf p false r := by
  cases r with
  | nil => rw [ogf_1, ogf_0]
  | cons y r => rw [ogf_2, if_neg (by simp)]
theorem og_ogf (p : Pr) : ∀ n : Nat, ∀ l : List Sy, l.length ≤ n → ogf p false l = og p l := fun n => by
  induction n with
  | zero => intro l h; have : l = [] := List.eq_nil_of_length_eq_zero (by omega); subst this; rw [ogf_0, og_0]
  | succ n ih =>
    intro l h
    match l with
    | [] => rw [ogf_0, og_0]
    | [x] => rw [ogf_1, og_1]
    | x :: y :: r =>
      rw [ogf_2, og_2]
      by_cases c : (x, y) = p
      · rw [if_pos ⟨rfl, c⟩, if_pos c, ogf_t, ih r (by simp at h; omega)]
      · rw [if_neg (fun e => c e.2), if_neg c, ih (y :: r) (by simp at h ⊢; omega)]
theorem nb_2 (x y : Sy) (r : List Sy) : nb (x :: y :: r) = (x, y) :: nb (y :: r) := by rw [nb]
theorem nb_1 (x : Sy) : nb [x] = [] := by simp [nb]
theorem nb_0 : nb [] = [] := by simp [nb]
theorem nb_len : ∀ row : List Sy, (nb row).length = row.length - 1
  | [] => by simp [nb]
  | [x] => by simp [nb]
  | x :: y :: r => by rw [nb_2, List.length_cons, nb_len (y :: r)]; simp
theorem nb_at : ∀ {row : List Sy} {i : Nat} {p : Pr}, (nb row)[i]? = some p ↔ row[i]? = some p.1 ∧ row[i + 1]? = some p.2
  | [], i, p => by simp [nb]
  | [x], i, p => by
    simp [nb]
  | x :: y :: r, 0, p => by
    rw [nb_2]
    simp only [List.getElem?_cons_zero, List.getElem?_cons_succ, Option.some.injEq]
    constructor
    · intro e; subst e; exact ⟨rfl, rfl⟩
    · rintro ⟨e1, e2⟩; rw [e1, e2]
  | x :: y :: r, i + 1, p => by
    rw [nb_2, List.getElem?_cons_succ]
    exact nb_at (row := y :: r) (i := i)
theorem nb_drop : ∀ (i : Nat) (row : List Sy), nb (row.drop i) = (nb row).drop i
  | 0, _ => rfl
  | i + 1, [] => by simp [nb]
  | i + 1, [x] => by simp [nb]
  | i + 1, x :: y :: r => by rw [List.drop_succ_cons, nb_2, List.drop_succ_cons]; exact nb_drop i (y :: r)
theorem og_skip (p : Pr) : ∀ (i : Nat) (row : List Sy), (∀ j, j < i → (nb row)[j]? ≠ some p) → og p (row.drop i) = og p row
  | 0, _, _ => rfl
  | i + 1, [], _ => by simp
  | i + 1, [x], _ => by simp [og_0, og_1]
  | i + 1, x :: y :: r, h => by
    rw [List.drop_succ_cons, og_2, if_neg (fun e => h 0 (by omega) (by rw [nb_2]; simp [e]))]
    exact og_skip p i (y :: r) fun j hj q => h (j + 1) (by omega) (by rw [nb_2, List.getElem?_cons_succ]; exact q)
theorem og_pos (p : Pr) : ∀ n : Nat, ∀ l : List Sy, l.length ≤ n → p ∈ nb l → 1 ≤ og p l := fun n => by
  induction n with
  | zero => intro l h hp; have : l = [] := List.eq_nil_of_length_eq_zero (by omega); subst this; rw [nb_0] at hp; cases hp
  | succ n ih =>
    intro l h hp
    match l with
    | [] => rw [nb_0] at hp; cases hp
    | [x] => rw [nb_1] at hp; cases hp
    | x :: y :: r =>
      rw [og_2]
      by_cases c : (x, y) = p
      · rw [if_pos c]; omega
      · rw [if_neg c]
        rw [nb_2] at hp
        rcases List.mem_cons.mp hp with e | e
        · exact absurd e.symm c
        · exact ih (y :: r) (by simp at h ⊢; omega) e
/-- two places apart -/
theorem og_two (p : Pr) : ∀ (i j : Nat) (l : List Sy), (nb l)[i]? = some p → (nb l)[j]? = some p → i + 2 ≤ j → 2 ≤ og p l
  | 0, j, x :: y :: r, h1, h2, h3 => by
    rw [nb_2] at h1 h2
    simp at h1
    rw [og_2, if_pos h1]
    obtain ⟨j, rfl⟩ : ∃ k, j = k + 2 := ⟨j - 2, by omega⟩
    have h4 : (nb (y :: r))[j + 1]? = some p := by simpa using h2
    have h5 : (nb r)[j]? = some p := by
      cases r with
      | nil => rw [nb_1] at h4; cases h4
      | cons z r => rw [nb_2] at h4; simpa using h4
    have := og_pos p r.length r (Nat.le_refl _) (List.mem_of_getElem? h5)
    omega
  | i + 1, j, x :: y :: r, h1, h2, h3 => by
    obtain ⟨j, rfl⟩ : ∃ k, j = k + 1 := ⟨j - 1, by omega⟩
    rw [nb_2] at h1 h2
    simp at h1 h2
    rw [og_2]
    by_cases c : (x, y) = p
    · rw [if_pos c]
      obtain ⟨j, rfl⟩ : ∃ k, j = k + 1 := ⟨j - 1, by omega⟩
      have h5 : (nb r)[j]? = some p := by
        cases r with
        | nil => rw [nb_1] at h2; cases h2
        | cons z r => rw [nb_2] at h2; simpa using h2
      have := og_pos p r.length r (Nat.le_refl _) (List.mem_of_getElem? h5)
      omega
    · rw [if_neg c]
      exact og_two p i j (y :: r) h1 h2 (by omega)
  | i, j, [], h1, _, _ => by rw [nb_0] at h1; cases h1
  | i, j, [x], h1, _, _ => by rw [nb_1] at h1; cases h1
/-! the different ones, as they come first -/
def dd1 (acc : List Pr) (p : Pr) : List Pr := if p ∈ acc then acc else acc ++ [p]
def dd (ps : List Pr) : List Pr := ps.foldl dd1 []
theorem dd_snoc (ps : List Pr) (p : Pr) : dd (ps ++ [p]) = dd1 (dd ps) p := by unfold dd; rw [List.foldl_append]; rfl
theorem dd_mem (ps : List Pr) (p : Pr) : p ∈ dd ps ↔ p ∈ ps := by
  induction ps using snoc_ind with
  | h0 => simp [dd]
  | h1 xs x ih =>
    rw [dd_snoc]
    unfold dd1
    split
    · rename_i h
      rw [ih, List.mem_append, List.mem_singleton]
      constructor
      · exact .inl
      · rintro (q | q)
        · exact q
        · subst q; exact ih.mp h
    · simp [ih]
theorem dd_nodup (ps : List Pr) : (dd ps).Nodup := by
  induction ps using snoc_ind with
  | h0 => simp [dd]
  | h1 xs x ih =>
    rw [dd_snoc]
    unfold dd1
    split
    · exact ih
    · rename_i h
      rw [List.nodup_append]
      exact ⟨ih, by simp, fun a ha b hb => by simp at hb; subst hb; exact fun e => h (e ▸ ha)⟩
/-! the best pair -/
def bS (row : List Sy) (b : Option Pr × Nat) (p : Pr) : Option Pr × Nat := if b.2 < og p row then (some p, og p row) else b
def best (row : List Sy) : Option Pr := ((dd (nb row)).foldl (bS row) (none, 1)).1
theorem best_inv (row : List Sy) : ∀ ps : List Pr, (match (ps.foldl (bS row) (none, 1)).1 with | none => (ps.foldl (bS row) (none, 1)).2 = 1 | some p => p ∈ ps ∧ (ps.foldl (bS row) (none, 1)).2 = og p row ∧ 2 ≤ og p row) ∧ 1 ≤ (ps.foldl (bS row) (none, 1)).2 ∧ ∀ p ∈ ps, og p row ≤ (ps.foldl (bS row) (none, 1)).2 := fun ps => by
  induction ps using snoc_ind with
  | h0 => simp
  | h1 xs x ih =>
    obtain ⟨i1, i2, i3⟩ := ih
    rw [List.foldl_append, List.foldl_cons, List.foldl_nil]
    generalize xs.foldl (bS row) (none, 1) = b at *
    by_cases h : b.2 < og x row
    · have e : bS row b x = (some x, og x row) := if_pos h
      rw [e]
      refine ⟨⟨by simp, rfl, by omega⟩, by simp only; omega, fun p hp => ?_⟩
      rcases List.mem_append.mp hp with q | q
      · have := i3 p q; simp only; omega
      · rw [List.mem_singleton.mp q]; exact Nat.le_refl _
    · have e : bS row b x = b := if_neg h
      rw [e]
      refine ⟨?_, i2, fun p hp => ?_⟩
      · revert i1
        cases b.1 with
        | none => exact fun z => z
        | some p => exact fun z => ⟨List.mem_append_left _ z.1, z.2⟩
      · rcases List.mem_append.mp hp with q | q
        · exact i3 p q
        · rw [List.mem_singleton.mp q]; omega
theorem best_some {row : List Sy} {p : Pr} (h : best row = some p) : p ∈ nb row ∧ 2 ≤ og p row := by
  have := (best_inv row (dd (nb row))).1
  unfold best at h
  rw [h] at this
  exact ⟨(dd_mem _ _).mp this.1, this.2.2⟩
theorem best_none {row : List Sy} (h : best row = none) {p : Pr} (hp : p ∈ nb row) : og p row ≤ 1 := by
  obtain ⟨h1, h2, h3⟩ := best_inv row (dd (nb row))
  unfold best at h
  rw [h] at h1
  have := h3 p ((dd_mem _ _).mpr hp)
  simp only at h1
  omega
/-! a pair replaced -/
def rpl (p : Pr) (n : Nat) : List Sy → List Sy
  | x :: y :: r => if (x, y) = p then .n n :: rpl p n r else x :: rpl p n (y :: r)
  | [x] => [x]
  | [] => []
theorem rpl_2 (p : Pr) (n : Nat) (x y : Sy) (r : List Sy) : rpl p n (x :: y :: r) = if (x, y) = p then .n n :: rpl p n r else x :: rpl p n (y :: r) := by rw [rpl]
theorem rpl_1 (p : Pr) (n : Nat) (x : Sy) : rpl p n [x] = [x] := by simp [rpl]
theorem rpl_0 (p : Pr) (n : Nat) : rpl p n [] = [] := by simp [rpl]
theorem rpl_len (p : Pr) (n : Nat) : ∀ m : Nat, ∀ l : List Sy, l.length ≤ m → (rpl p n l).length + og p l = l.length := fun m => by
  induction m with
  | zero => intro l h; have : l = [] := List.eq_nil_of_length_eq_zero (by omega); subst this; rw [rpl_0, og_0]; rfl
  | succ m ih =>
    intro l h
    match l with
    | [] => rw [rpl_0, og_0]; rfl
    | [x] => rw [rpl_1, og_1]; rfl
    | x :: y :: r =>
      rw [rpl_2, og_2]
      by_cases c : (x, y) = p
      · rw [if_pos c, if_pos c]
        have := ih r (by simp at h; omega)
        simp; omega
      · rw [if_neg c, if_neg c]
        have := ih (y :: r) (by simp at h ⊢; omega)
        simp at this ⊢; omega
theorem rpl_mem {p : Pr} {n : Nat} : ∀ m : Nat, ∀ l : List Sy, l.length ≤ m → ∀ s ∈ rpl p n l, s = .n n ∨ s ∈ l := fun m => by
  induction m with
  | zero => intro l h s hs; have : l = [] := List.eq_nil_of_length_eq_zero (by omega); subst this; rw [rpl_0] at hs; cases hs
  | succ m ih =>
    intro l h s hs
    match l with
    | [] => rw [rpl_0] at hs; cases hs
    | [x] => rw [rpl_1] at hs; exact .inr hs
    | x :: y :: r =>
      rw [rpl_2] at hs
      by_cases c : (x, y) = p
      · rw [if_pos c] at hs
        rcases List.mem_cons.mp hs with e | e
        · exact .inl e
        · rcases ih r (by simp at h; omega) s e with q | q
          · exact .inl q
          · exact .inr (by simp [q])
      · rw [if_neg c] at hs
        rcases List.mem_cons.mp hs with e | e
        · exact .inr (by simp [e])
        · rcases ih (y :: r) (by simp at h ⊢; omega) s e with q | q
          · exact .inl q
          · exact .inr (List.mem_cons_of_mem _ q)
/-- rules and row, made pair by pair -/
def mkF : Nat → List Pr → List Sy → List Pr × List Sy
  | 0, rs, row => (rs, row)
  | f + 1, rs, row => match best row with
    | none => (rs, row)
    | some p => mkF f (rs ++ [p]) (rpl p rs.length row)
def mkB (t : List Nat) : List Pr × List Sy := mkF t.length [] (t.map .s)
end PL

set_option Elab.async false
set_option linter.all false
set_option maxRecDepth 100000
set_option maxHeartbeats 1000000
/-! Pairs counted in a dict. -/
namespace PL
open PySem PySem.Spec PyProof.Rows L2
def keyS : Sy → L2.Key
  | .s c => .inr ⟨#[c]⟩
  | .n k => .inl (k : Nat)
def keyP (p : Pr) : List L2.Key := [keyS p.1, keyS p.2]
theorem keyS_inj {a b : Sy} (h : keyS a = keyS b) : a = b := by
  cases a <;> cases b <;> simp [keyS] at h ⊢ <;> omega
theorem keyP_inj {a b : Pr} (h : keyP a = keyP b) : a = b := by
  obtain ⟨a1, a2⟩ := a
  obtain ⟨b1, b2⟩ := b
  simp [keyP] at h
  rw [keyS_inj h.1, keyS_inj h.2]
@[simp] theorem keyD_S (s : Sy) : keyD (keyS s) = s.d := by cases s <;> rfl
@[simp] theorem keyOf1_d (s : Sy) : keyOf1 s.d = some (keyS s) := by cases s <;> rfl
@[simp] theorem keyOf_rl (p : Pr) : keyOf (rlD p) = some (keyP p) := by
  show keysOf [p.1.d, p.2.d] = _
  simp [keysOf, keyP]
@[simp] theorem keyOf_two (a b : Sy) : keyOf (.tuple [a.d, b.d]) = some (keyP (a, b)) := keyOf_rl (a, b)
theorem vI_nil (k : List L2.Key) : vI [] k = none := rfl
theorem vI_pI_same (kvs : KVs) (k : List L2.Key) (v : Int) : vI (pI kvs k v) k = some v := by
  unfold pI
  split
  · rename_i h
    induction kvs with
    | nil => simp at h
    | cons p r ih =>
      rw [List.map_cons]
      unfold vI
      rw [List.find?_cons]
      by_cases e : p.1 = k
      · simp [e]
      · simp only [e, if_false, decide_false]
        simp [e] at h
        have := ih (by simpa using h)
        unfold vI at this
        exact this
  · rename_i h
    unfold vI
    rw [List.find?_append]
    have : kvs.find? (fun p => decide (p.1 = k)) = none := by
      rw [List.find?_eq_none]
      intro p hp q
      apply h
      rw [List.any_eq_true]
      exact ⟨p, hp, q⟩
    rw [this]; simp
theorem vI_pI_ne (kvs : KVs) {k k' : List L2.Key} (v : Int) (h : k' ≠ k) : vI (pI kvs k v) k' = vI kvs k' := by
  unfold pI
  split
  · induction kvs with
    | nil => rfl
    | cons p r ih =>
      rename_i hh
      clear hh
      have ih : vI (r.map fun p => if p.1 = k then (p.1, v) else p) k' = vI r k' := by
        clear ih
        induction r with
        | nil => rfl
        | cons q r ih =>
          unfold vI at *
          rw [List.map_cons, List.find?_cons, List.find?_cons]
          by_cases e : q.1 = k
          · have e2 : ¬ q.1 = k' := fun z => h (by rw [← z, e])
            simp only [e, if_true]
            have e3 : ¬ k = k' := fun z => h z.symm
            simp only [e3, decide_false]
            exact ih
          · simp only [e, if_false]
            by_cases e2 : q.1 = k'
            · simp [e2]
            · simp only [e2, decide_false]; exact ih
      unfold vI at *
      rw [List.map_cons, List.find?_cons, List.find?_cons]
      by_cases e : p.1 = k
      · have e2 : ¬ p.1 = k' := fun z => h (by rw [← z, e])
        have e3 : ¬ k = k' := fun z => h z.symm
        simp only [e, if_true, e3, decide_false]
        exact ih
      · simp only [e, if_false]
        by_cases e2 : p.1 = k'
        · simp [e2]
        · simp only [e2, decide_false]; exact ih
  · unfold vI
    rw [List.find?_append]
    cases kvs.find? (fun p => decide (p.1 = k')) with
    | some z => rfl
    | none =>
      have e3 : ¬ k = k' := fun z => h z.symm
      simp [e3]
theorem any_key (kvs : KVs) (k : List L2.Key) : (kvs.any fun p => decide (p.1 = k)) = true ↔ k ∈ kvs.map (·.1) := by
  rw [List.any_eq_true, List.mem_map]
  constructor
  · rintro ⟨p, hp, e⟩; exact ⟨p, hp, by simpa using e⟩
  · rintro ⟨p, hp, e⟩; exact ⟨p, hp, by simpa using e⟩
theorem keys_in {kvs : KVs} {k : List L2.Key} {v : Int} (c : k ∈ kvs.map (·.1)) : (pI kvs k v).map (·.1) = kvs.map (·.1) := by
  unfold pI
  rw [if_pos ((any_key kvs k).mpr c), List.map_map]
  apply List.map_congr_left
  intro p _
  simp only [Function.comp]
  split <;> rfl
theorem keys_out {kvs : KVs} {k : List L2.Key} {v : Int} (c : ¬ k ∈ kvs.map (·.1)) : (pI kvs k v).map (·.1) = kvs.map (·.1) ++ [k] := by
  unfold pI
  rw [if_neg (fun z => c ((any_key kvs k).mp z)), List.map_append]; rfl
/-- where the counting stands -/
structure CntI (row : List Sy) (i : Nat) (fo la : KVs) : Prop where
  keys : fo.map (·.1) = (dd ((nb row).take i)).map keyP
  cnt : ∀ p : Pr, ∃ m : Nat, (vI fo (keyP p)).getD 0 = (m : Int) ∧ m + ogf p (decide (vI la (keyP p) = some ((i : Int) - 1))) (row.drop i) = og p row
  last : ∀ (p : Pr) (v : Int), vI la (keyP p) = some v → 0 ≤ v ∧ v ≤ (i : Int) - 1
  has : ∀ p : Pr, vI la (keyP p) ≠ none → p ∈ (nb row).take i
theorem CntI.start (row : List Sy) : CntI row 0 [] [] := by
  refine ⟨by simp [dd], fun p => ⟨0, rfl, ?_⟩, fun p v h => ?_, fun p h => ?_⟩
  · rw [vI_nil, List.drop_zero]
    have : decide ((none : Option Int) = some (((0 : Nat) : Int) - 1)) = false := by simp
    rw [this, og_ogf p row.length row (Nat.le_refl _)]; omega
  · rw [vI_nil] at h; cases h
  · exact absurd (vI_nil _) h
theorem dd_take {row : List Sy} {i : Nat} {q : Pr} (hq : (nb row)[i]? = some q) : (nb row).take (i + 1) = (nb row).take i ++ [q] := by rw [List.take_succ, hq]; rfl
theorem drop_two {row : List Sy} {i : Nat} {x y : Sy} (h1 : row[i]? = some x) (h2 : row[i + 1]? = some y) : row.drop i = x :: y :: row.drop (i + 2) ∧ row.drop (i + 1) = y :: row.drop (i + 2) := by
  obtain ⟨l1, e1⟩ := List.getElem?_eq_some_iff.mp h1
  obtain ⟨l2, e2⟩ := List.getElem?_eq_some_iff.mp h2
  have a : row.drop (i + 1) = y :: row.drop (i + 2) := by rw [List.drop_eq_getElem_cons l2, e2]
  refine ⟨?_, a⟩
  rw [List.drop_eq_getElem_cons l1, e1, a]
theorem CntI.step {row : List Sy} {i : Nat} {fo la : KVs} {x y : Sy} (h : CntI row i fo la) (h1 : row[i]? = some x) (h2 : row[i + 1]? = some y) :
    if (vI la (keyP (x, y))).getD (-2) < (i : Int) - 1 then CntI row (i + 1) (pI fo (keyP (x, y)) ((vI fo (keyP (x, y))).getD 0 + 1)) (pI la (keyP (x, y)) i) else CntI row (i + 1) fo la := by
  have hq : (nb row)[i]? = some (x, y) := nb_at.mpr ⟨h1, h2⟩
  obtain ⟨d1, d2⟩ := drop_two h1 h2
  have ht := dd_take hq
  have ec : ((i + 1 : Nat) : Int) - 1 = (i : Int) := by omega
  have old : ∀ p : Pr, vI la (keyP p) ≠ some (i : Int) := fun p e => by have := h.last p i e; omega
  split
  · rename_i c
    have nb1 : vI la (keyP (x, y)) ≠ some ((i : Int) - 1) := fun e => by rw [e] at c; simp at c
    refine ⟨?_, fun p => ?_, fun p v hv => ?_, fun p hp => ?_⟩
    · rw [ht, dd_snoc]
      unfold dd1
      by_cases m : (x, y) ∈ dd ((nb row).take i)
      · rw [keys_in (by rw [h.keys]; exact List.mem_map.mpr ⟨_, m, rfl⟩), h.keys, if_pos m]
      · rw [keys_out (fun z => by
          rw [h.keys] at z
          obtain ⟨p, hp, e⟩ := List.mem_map.mp z
          exact m (keyP_inj e ▸ hp)), h.keys, if_neg m, List.map_append]
        rfl
    · obtain ⟨m, m1, m2⟩ := h.cnt p
      by_cases e : p = (x, y)
      · subst e
        refine ⟨m + 1, by rw [vI_pI_same, m1]; rfl, ?_⟩
        rw [vI_pI_same, ec]
        rw [decide_eq_false nb1, d1, ogf_2, if_pos ⟨rfl, rfl⟩] at m2
        rw [decide_eq_true rfl, d2]
        omega
      · have ne : keyP p ≠ keyP (x, y) := fun z => e (keyP_inj z)
        refine ⟨m, by rw [vI_pI_ne _ _ ne]; exact m1, ?_⟩
        rw [vI_pI_ne _ _ ne, ec, decide_eq_false (old p), d2]
        rw [d1, ogf_2, if_neg (fun z => e z.2.symm)] at m2
        exact m2
    · by_cases e : p = (x, y)
      · subst e; rw [vI_pI_same] at hv; cases hv; omega
      · rw [vI_pI_ne _ _ (fun z => e (keyP_inj z))] at hv
        have := h.last p v hv; omega
    · rw [ht]
      by_cases e : p = (x, y)
      · subst e; simp
      · rw [vI_pI_ne _ _ (fun z => e (keyP_inj z))] at hp
        exact List.mem_append_left _ (h.has p hp)
  · rename_i c
    have la1 : vI la (keyP (x, y)) = some ((i : Int) - 1) := by
      cases q : vI la (keyP (x, y)) with
      | none => rw [q] at c; simp at c; omega
      | some v =>
        rw [q] at c
        have := h.last _ v q
        simp at c
        congr 1; omega
    have hin := h.has (x, y) (by rw [la1]; exact fun z => nomatch z)
    refine ⟨?_, fun p => ?_, fun p v hv => ?_, fun p hp => by rw [ht]; exact List.mem_append_left _ (h.has p hp)⟩
    · rw [h.keys, ht, dd_snoc]
      unfold dd1
      rw [if_pos ((dd_mem _ _).mpr hin)]
    · obtain ⟨m, m1, m2⟩ := h.cnt p
      refine ⟨m, m1, ?_⟩
      rw [ec, decide_eq_false (old p), d2]
      by_cases e : p = (x, y)
      · subst e
        rw [decide_eq_true la1, d1, ogf_2, if_neg (fun z => by cases z.1)] at m2
        exact m2
      · rw [d1, ogf_2, if_neg (fun z => e z.2.symm)] at m2
        exact m2
    · have := h.last p v hv; omega
/-- all pairs, as they come first, with how often they stand there -/
def cntL (row : List Sy) : KVs := (dd (nb row)).map fun p => (keyP p, (og p row : Int))
theorem nodup_keyP {ps : List Pr} (h : ps.Nodup) : (ps.map keyP).Nodup := by
  induction ps with
  | nil => simp
  | cons p r ih =>
    rw [List.nodup_cons] at h
    rw [List.map_cons, List.nodup_cons]
    refine ⟨fun z => ?_, ih h.2⟩
    obtain ⟨q, hq, e⟩ := List.mem_map.mp z
    exact h.1 (keyP_inj e ▸ hq)
theorem CntI.fin {row : List Sy} {fo la : KVs} (h : CntI row (row.length - 1) fo la) : fo = cntL row := by
  have hk : fo.map (·.1) = (dd (nb row)).map keyP := by
    have := h.keys
    rwa [List.take_of_length_le (by rw [nb_len]; exact Nat.le_refl _)] at this
  have nd : (fo.map (·.1)).Nodup := by rw [hk]; exact nodup_keyP (dd_nodup _)
  apply List.ext_getElem?
  intro i
  unfold cntL
  rw [List.getElem?_map]
  have e := congrArg (fun l => l[i]?) hk
  simp only [List.getElem?_map] at e
  cases q : (dd (nb row))[i]? with
  | none =>
    rw [q] at e
    cases q2 : fo[i]? with
    | none => rfl
    | some z => rw [q2] at e; cases e
  | some p =>
    rw [q] at e
    cases q2 : fo[i]? with
    | none => rw [q2] at e; cases e
    | some z =>
      rw [q2] at e
      have e1 : z.1 = keyP p := Option.some.inj e
      have v := vI_at nd q2
      rw [e1] at v
      obtain ⟨m, m1, m2⟩ := h.cnt p
      rw [v] at m1
      have m1 : z.2 = (m : Int) := m1
      have : ogf p (decide (vI la (keyP p) = some (((row.length - 1 : Nat) : Int) - 1))) (row.drop (row.length - 1)) = 0 := by
        have hl : (row.drop (row.length - 1)).length ≤ 1 := by simp; omega
        generalize row.drop (row.length - 1) = L at hl ⊢
        match L with
        | [] => exact ogf_0 _ _
        | [a] => exact ogf_1 _ _ _
        | a :: b :: r => simp at hl
      rw [this] at m2
      show some z = some (keyP p, (og p row : Int))
      rw [← m2, ← e1, Nat.add_zero, ← m1]
theorem bst_cnt (row : List Sy) : bst (cntL row) = ((((dd (nb row)).foldl (bS row) (none, 1)).1).map keyP, (((dd (nb row)).foldl (bS row) (none, 1)).2 : Int)) := by
  unfold cntL
  generalize dd (nb row) = ps
  induction ps using snoc_ind with
  | h0 => rfl
  | h1 xs x ih =>
    rw [List.map_append, List.map_cons, List.map_nil, bst_snoc, ih, List.foldl_append, List.foldl_cons, List.foldl_nil]
    generalize xs.foldl (bS row) (none, 1) = b
    unfold bstS bS
    by_cases c : b.2 < og x row
    · rw [if_pos c, if_pos (by simp only; omega)]; rfl
    · rw [if_neg c, if_neg (by simp only; omega)]
theorem bst_best (row : List Sy) : (bst (cntL row)).1 = (best row).map keyP := by rw [bst_cnt]; rfl
def bpD : Option Pr → D
  | none => .none
  | some p => rlD p
theorem bstD_best (row : List Sy) : bstD (bst (cntL row)).1 = bpD (best row) := by
  rw [bst_best]
  cases best row with
  | none => rfl
  | some p =>
    show PyData.tuple ([keyS p.1, keyS p.2].map keyD) = rlD p
    simp [rlD]
@[simp] theorem fl_bp {o : Option Pr} : flatD (bpD o) = true := by cases o <;> simp [bpD]
@[simp] theorem keep_bp {o : Option Pr} {t : List Nat} : keepT (bpD o) t = [] := keep_fl fl_bp
theorem notIs_bp (o : Option Pr) : notIsD (bpD o) .none = some (.bool o.isSome) := by cases o <;> rfl
theorem is_bp (o : Option Pr) : isD (bpD o) .none = some (.bool o.isNone) := by cases o <;> rfl
/-! pairs alike -/
theorem eqv_d (a b : Sy) : PyData.eqv a.d b.d = decide (a = b) := by
  cases a with
  | s c => cases b with
    | s d =>
      by_cases q : c = d
      · subst q; simp [ch, PyData.eqv]
      · simp [ch, PyData.eqv, q]
    | n k => simp [ch, PyData.eqv]
  | n k => cases b with
    | s d => simp [ch, PyData.eqv]
    | n j =>
      by_cases q : k = j
      · subst q; simp [PyData.eqv]
      · have : ¬ (k : Int) = (j : Int) := by omega
        simp [PyData.eqv, q, this]
theorem shaped_rl {p : Pr} {m : Nat} (h1 : p.1.ok m) (h2 : p.2.ok m) : SeqAt.shaped (rlD p) = true := by
  refine shaped_of ?_ ?_
  · simp [rlD, PyData.canLay0, PyData.canLayAll0, lay_d h1, lay_d h2]
  · have := dep_rl p; omega
theorem eq_rl {p q : Pr} {m : Nat} (h1 : p.1.ok m) (h2 : p.2.ok m) (h3 : q.1.ok m) (h4 : q.2.ok m) : eqD (rlD p) (rlD q) = some (.bool (decide (p = q))) := by
  unfold eqD
  rw [if_pos ⟨shaped_rl h1 h2, shaped_rl h3 h4⟩]
  have : PyData.eqv (rlD p) (rlD q) = decide (p = q) := by
    simp only [rlD, PyData.eqv, PyData.eqvAll, eqv_d, Bool.and_true]
    obtain ⟨a, b⟩ := p
    obtain ⟨c, d⟩ := q
    by_cases e1 : a = c <;> by_cases e2 : b = d <;> simp [e1, e2]
  rw [this]
theorem eq_two {a b : Sy} {q : Pr} {m : Nat} (h1 : a.ok m) (h2 : b.ok m) (h3 : q.1.ok m) (h4 : q.2.ok m) : eqD (.tuple [a.d, b.d]) (rlD q) = some (.bool (decide ((a, b) = q))) := eq_rl (p := (a, b)) h1 h2 h3 h4
end PL

set_option Elab.async false
set_option linter.all false
set_option maxRecDepth 100000
set_option maxHeartbeats 1000000
/-! texts read, good or not -/
namespace PL
open PySem PySem.Spec PyProof.Rows L2
def isFig (c : Nat) : Bool := decide (48 ≤ c ∧ c ≤ 57)
def figs (t : List Nat) : List Nat := t.takeWhile isFig
def nv (ds : List Nat) : Nat := ds.foldl (fun a c => 10 * a + (c - 48)) 0
/-- the symbol at the head of a text, and what is left -/
def sym : List Nat → Option (Sy × List Nat)
  | [] => none
  | c :: r => if c = 39 then (match r with
      | [] => none
      | d :: r' => some (.s d, r'))
    else if (figs (c :: r)).length = 0 ∨ (c = 48 ∧ 1 < (figs (c :: r)).length) ∨ 3 < (figs (c :: r)).length then none
    else some (.n (nv (figs (c :: r))), (c :: r).drop (figs (c :: r)).length)
/-- the rows that a text holds: R the full ones, r the one under way -/
def pr : Nat → List (List Sy) → List Sy → List Nat → Option (List (List Sy))
  | 0, _, _, _ => none
  | f + 1, R, r, t => match t with
    | [] => some (R ++ [r])
    | _ => match sym t with
      | none => none
      | some (s, t') => match t' with
        | [] => some (R ++ [r ++ [s]])
        | c :: t'' => if c = 10 then pr f (R ++ [r ++ [s]]) [] t'' else if c = 32 ∧ t'' ≠ [] then pr f R (r ++ [s]) t'' else none
theorem int1 : ∀ a, a < 10 → PySem.intText? (⟨#[48 + a]⟩ : Str) = some (nv [48 + a] : Int) := by decide +kernel
theorem int2 : ∀ a, a < 10 → ∀ b, b < 10 → PySem.intText? (⟨#[48 + a, 48 + b]⟩ : Str) = some (nv [48 + a, 48 + b] : Int) := by decide +kernel
theorem int3 : ∀ a, a < 10 → ∀ b, b < 10 → ∀ c, c < 10 → PySem.intText? (⟨#[48 + a, 48 + b, 48 + c]⟩ : Str) = some (nv [48 + a, 48 + b, 48 + c] : Int) := by decide +kernel
theorem fig_of {c : Nat} (h : isFig c = true) : ∃ a, a < 10 ∧ c = 48 + a := by
  unfold isFig at h
  rw [decide_eq_true_eq] at h
  exact ⟨c - 48, by omega, by omega⟩
theorem int_figs {f : List Nat} (h : ∀ c ∈ f, isFig c = true) (h1 : 1 ≤ f.length) (h3 : f.length ≤ 3) : PySem.intText? (⟨f.toArray⟩ : Str) = some (nv f : Int) := by
  match f, h, h1, h3 with
  | [x], h, _, _ =>
    obtain ⟨a, ha, rfl⟩ := fig_of (h x (by simp))
    exact int1 a ha
  | [x, y], h, _, _ =>
    obtain ⟨a, ha, rfl⟩ := fig_of (h x (by simp))
    obtain ⟨b, hb, rfl⟩ := fig_of (h y (by simp))
    exact int2 a ha b hb
  | [x, y, z], h, _, _ =>
    obtain ⟨a, ha, rfl⟩ := fig_of (h x (by simp))
    obtain ⟨b, hb, rfl⟩ := fig_of (h y (by simp))
    obtain ⟨c, hc, rfl⟩ := fig_of (h z (by simp))
    exact int3 a ha b hb c hc
theorem int_tx {f : List Nat} (h : ∀ c ∈ f, isFig c = true) (h1 : 1 ≤ f.length) (h3 : f.length ≤ 3) : intAF [tx f] = some (.int (nv f : Nat)) := by
  have hi := int_figs h h1 h3
  show (if (⟨f.toArray⟩ : Str).length ≤ 640 then (PySem.intText? (⟨f.toArray⟩ : Str)).map fun n => PyData.int n else none) = _
  rw [if_pos (by rw [str_len]; omega), hi]
  rfl
theorem figs_mem {t : List Nat} {c : Nat} (h : c ∈ figs t) : isFig c = true := by
  unfold figs at h
  exact List.all_takeWhile (l := t) (p := isFig) |> fun a => List.all_eq_true.mp a c h
theorem figs_pre (t : List Nat) : figs t ++ t.drop (figs t).length = t := by
  unfold figs
  induction t with
  | nil => rfl
  | cons c r ih =>
    rw [List.takeWhile_cons]
    by_cases q : isFig c = true
    · rw [if_pos q, List.length_cons, List.drop_succ_cons, List.cons_append, ih]
    · rw [if_neg q]; rfl
theorem figs_stop {t : List Nat} {c : Nat} (h : (t.drop (figs t).length).head? = some c) : isFig c = false := by
  unfold figs at h
  induction t with
  | nil => cases h
  | cons d r ih =>
    rw [List.takeWhile_cons] at h
    by_cases q : isFig d = true
    · rw [if_pos q, List.length_cons, List.drop_succ_cons] at h; exact ih h
    · rw [if_neg q] at h
      simp at h
      subst h
      simpa using q
end PL

set_option Elab.async false
set_option linter.all false
set_option maxRecDepth 100000
set_option maxHeartbeats 1000000
/-! texts of good rows read -/
namespace PL
open PySem PySem.Spec PyProof.Rows L2
theorem dg_nv : ∀ n, n < 600 → nv (dg n) = n := by decide +kernel
theorem figs_of {f tail : List Nat} (h : ∀ c ∈ f, isFig c = true) (ht : ∀ c, tail.head? = some c → isFig c = false) : figs (f ++ tail) = f := by
  unfold figs
  induction f with
  | nil =>
    cases tail with
    | nil => rfl
    | cons c r => rw [List.nil_append, List.takeWhile_cons, if_neg (by rw [ht c rfl]; simp)]
  | cons c r ih =>
    rw [List.cons_append, List.takeWhile_cons, if_pos (h c (by simp)), ih fun d hd => h d (List.mem_cons_of_mem _ hd)]
theorem sym_num {c : Nat} {r : List Nat} (q : c ≠ 39) : sym (c :: r) = if (figs (c :: r)).length = 0 ∨ (c = 48 ∧ 1 < (figs (c :: r)).length) ∨ 3 < (figs (c :: r)).length then none else some (.n (nv (figs (c :: r))), (c :: r).drop (figs (c :: r)).length) := by
  show (if c = 39 then _ else _) = _
  rw [if_neg q]
theorem sym_good {s : Sy} {tail : List Nat} (h : s.ok 600) (ht : ∀ c, tail.head? = some c → isFig c = false) : sym (syT s ++ tail) = some (s, tail) := by
  cases s with
  | s c => rfl
  | n k =>
    have hk : k < 600 := h
    have hf := figs_of (f := dg k) (tail := tail) (fun c hc => decide_eq_true (dg_fig k hk c hc)) ht
    have hl := dg_len k hk
    have hz := dg_zero k hk
    have hv := dg_nv k hk
    have h39 := dg_fig k hk
    show sym (dg k ++ tail) = _
    cases hd : dg k with
    | nil => rw [hd] at hl; simp at hl
    | cons c r =>
      rw [hd] at hf hl hz hv h39
      have n39 : c ≠ 39 := by have := h39 c (by simp); omega
      rw [List.cons_append] at hf ⊢
      rw [sym_num n39, hf, if_neg, hv]
      · simp
      · rintro (e | ⟨e1, e2⟩ | e)
        · simp at e
        · have := hz (by simp [e1]); omega
        · omega
theorem rowT_cc (s t : Sy) (r : List Sy) : rowT (s :: t :: r) = syT s ++ 32 :: rowT (t :: r) := by
  unfold rowT
  rw [List.map_cons, inter_cons, List.map_map, List.map_cons, List.map_cons, inter_cons, List.map_map]
  simp
theorem rowT_one (s : Sy) : rowT [s] = syT s := by
  unfold rowT
  rw [List.map_cons, inter_cons]
  simp
theorem syT_ne {s : Sy} (h : s.ok 600) : syT s ≠ [] := by
  intro e
  have := (syT_len (m := 600) (by omega) h).1
  rw [e] at this
  simp at this
/-- one step of the reader over a good symbol -/
theorem pr_sym {s : Sy} {tail : List Nat} (f : Nat) (R : List (List Sy)) (r : List Sy) (h : s.ok 600) (ht : ∀ c, tail.head? = some c → isFig c = false) :
    pr (f + 1) R r (syT s ++ tail) = match (generalizing := false) tail with
        | [] => some (R ++ [r ++ [s]])
        | c :: t'' => if c = 10 then pr f (R ++ [r ++ [s]]) [] t'' else if c = 32 ∧ t'' ≠ [] then pr f R (r ++ [s]) t'' else none := by
  have e := sym_good h ht
  cases q : syT s ++ tail with
  | nil => exact absurd (List.append_eq_nil_iff.mp q).1 (syT_ne h)
  | cons c t =>
    rw [q] at e
    simp only [pr, e]
    all_goals (cases tail <;> rfl)
theorem rowT_ne {s : Sy} {r : List Sy} (h : s.ok 600) : rowT (s :: r) ≠ [] := by
  cases r with
  | nil => rw [rowT_one]; exact syT_ne h
  | cons t r =>
    rw [rowT_cc]
    simp
/-- a good row, then a line end -/
theorem pr_row (f : Nat) (R : List (List Sy)) (rest : List Nat) : ∀ (row : List Sy) (s : Sy) (r : List Sy), (∀ x ∈ s :: row, x.ok 600) →
    pr (f + row.length + 1) R r (rowT (s :: row) ++ 10 :: rest) = pr f (R ++ [r ++ s :: row]) [] rest := by
  intro row
  induction row with
  | nil =>
    intro s r h
    rw [rowT_one, List.length_nil, Nat.add_zero, pr_sym f R r (h s (by simp)) (by simp [isFig])]
    simp
  | cons t row ih =>
    intro s r h
    have h2 := ih t (r ++ [s]) fun x hx => h x (List.mem_cons_of_mem _ hx)
    rw [rowT_cc, List.append_assoc, List.cons_append, pr_sym _ R r (h s (by simp)) (by simp [isFig])]
    have n : rowT (t :: row) ++ 10 :: rest ≠ [] := by simp
    simp only [List.length_cons]
    rw [if_neg (by omega), if_pos ⟨trivial, n⟩, ← Nat.add_assoc, h2]
    simp
/-- a good row at the end -/
theorem pr_last (f : Nat) (R : List (List Sy)) : ∀ (row : List Sy) (s : Sy) (r : List Sy), (∀ x ∈ s :: row, x.ok 600) →
    pr (f + row.length + 1) R r (rowT (s :: row)) = some (R ++ [r ++ s :: row]) := by
  intro row
  induction row with
  | nil =>
    intro s r h
    have := pr_sym (tail := []) f R r (h s (by simp)) (by simp)
    rw [List.append_nil] at this
    rw [rowT_one, List.length_nil, Nat.add_zero, this]
  | cons t row ih =>
    intro s r h
    have h2 := ih t (r ++ [s]) fun x hx => h x (List.mem_cons_of_mem _ hx)
    rw [rowT_cc, pr_sym _ R r (h s (by simp)) (by simp [isFig])]
    have n : rowT (t :: row) ≠ [] := rowT_ne (h t (by simp))
    simp only [List.length_cons]
    rw [if_neg (by omega), if_pos ⟨trivial, n⟩, ← Nat.add_assoc, h2]
    simp
/-- no symbol at the head: refused -/
theorem pr_bad {t : List Nat} (f : Nat) (R : List (List Sy)) (r : List Sy) (h : t ≠ []) (hs : sym t = none) : pr (f + 1) R r t = none := by
  cases t with
  | nil => exact absurd rfl h
  | cons c t => simp only [pr, hs]
end PL

set_option Elab.async false
set_option linter.all false
set_option maxRecDepth 100000
set_option maxHeartbeats 1000000
/-! what is read of a text, whatever the fuel -/
namespace PL
open PySem PySem.Spec PyProof.Rows L2
/-! functions that return a list of the caller's -/
@[simp] theorem v_mSeqO {k : Rho → Fl} {l : Rho → Rs (List D)} {ρ : Rho} : mSeqO k l ρ = (k ρ).thenO l := nr rfl
@[simp] theorem v_toN {l : Rho → Rs (List D)} {ρ : Rho} : (Fl.nx ρ).thenO l = l ρ := nr rfl
@[simp] theorem v_mRetA {ma mb : Rho → Rs TD} {ρ : Rho} : mRetA ma mb ρ = (ma ρ).bind fun q => (mb ρ).bind fun r => (match q.1, r.1 with
  | .list a, .list b => if a.length + b.length ≤ sizeLine then .ok (a ++ b) else .no
  | _, _ => .no) := nr rfl
@[simp] theorem v_mCallO {F : List D → Rs (List D)} {ms : Rho → Rs (List D × List Nat)} {ρ : Rho} : mCallO F ms ρ = (ms ρ).bind fun q => if q.2 = [] then F q.1 else .no := nr rfl
theorem fnO_of {b : Rho → Rs (List D)} {N n : Nat} {ds : List D} {r : Rs (List D)} (h : ds.length = n) (k : b (ini N n ds) = r) : fnRunO b N n ds = r := by
  unfold fnRunO; rw [if_pos h]; exact k
theorem forL_O {α : Type} {enc : α → D} {g : D → Rho → Option Rho} {body : Rho → Fl} {k : Rho → Rs (List D)} {r : Rs (List D)} {ρ : Rho} (xs : List α) (inv : List α → Rho → Prop) (h0 : inv [] ρ)
    (st : ∀ done x rest ρ, xs = done ++ x :: rest → inv done ρ → ∃ ρ1, g (enc x) ρ = some ρ1 ∧ NX (inv (done ++ [x])) (body ρ1))
    (fi : ∀ ρ', inv xs ρ' → k ρ' = r) : (forL g body (xs.map enc) ρ).thenO k = r := by
  obtain ⟨ρ', h1, h2⟩ := forL_aux (enc := enc) xs inv st xs [] ρ rfl h0
  rw [h1]
  exact fi ρ' h2

/-! the reader's steps -/
theorem sym_len {t t' : List Nat} {s : Sy} (h : sym t = some (s, t')) : t'.length < t.length := by
  cases t with
  | nil => cases h
  | cons c r =>
    by_cases q : c = 39
    · subst q
      cases r with
      | nil => cases h
      | cons d r' =>
        have e : sym (39 :: d :: r') = some (.s d, r') := rfl
        rw [e] at h
        cases h
        simp only [List.length_cons]; omega
    · rw [sym_num q] at h
      split at h
      · cases h
      · rename_i b
        injection h with h
        injection h with h1 h2
        rw [← h2, List.length_drop, List.length_cons]
        have : (figs (c :: r)).length ≠ 0 := fun e => b (.inl e)
        omega
theorem sym_odd {c : Nat} {r : List Nat} (h1 : c ≠ 39) (h2 : isFig c = false) : sym (c :: r) = none := by
  rw [sym_num h1, if_pos]
  left
  unfold figs
  rw [List.takeWhile_cons, if_neg (by rw [h2]; simp)]
  rfl
theorem pr_step {t t' : List Nat} {s : Sy} (f : Nat) (R : List (List Sy)) (r : List Sy) (h : sym t = some (s, t')) :
    pr (f + 1) R r t = match (generalizing := false) t' with
        | [] => some (R ++ [r ++ [s]])
        | c :: t'' => if c = 10 then pr f (R ++ [r ++ [s]]) [] t'' else if c = 32 ∧ t'' ≠ [] then pr f R (r ++ [s]) t'' else none := by
  cases t with
  | nil => cases h
  | cons c t =>
    simp only [pr, h]
    all_goals (cases t' <;> rfl)
/-- the text's rows are res -/
def PrIs (R : List (List Sy)) (r : List Sy) (t : List Nat) (res : Option (List (List Sy))) : Prop := ∀ f, t.length < f → pr f R r t = res
section
variable {R : List (List Sy)} {r : List Sy} {t rest : List Nat} {s : Sy} {res : Option (List (List Sy))}
theorem fuel {n f : Nat} (h : n < f) : ∃ g, f = g + 1 ∧ n ≤ g := ⟨f - 1, by omega, by omega⟩
theorem pi_bad (h : t ≠ []) (hs : sym t = none) : PrIs R r t none := fun f hf => by
  obtain ⟨f, rfl, _⟩ := fuel hf
  exact pr_bad f R r h hs
theorem pi_end : PrIs R r [] (some (R ++ [r])) := fun f hf => by
  obtain ⟨f, rfl, _⟩ := fuel hf
  rfl
theorem pi_nl (hs : sym t = some (s, 10 :: rest)) (h : PrIs (R ++ [r ++ [s]]) [] rest res) : PrIs R r t res := fun f hf => by
  have l := sym_len hs
  obtain ⟨f, rfl, _⟩ := fuel hf
  rw [pr_step f R r hs]
  simp only [if_true]
  exact h f (by simp only [List.length_cons] at l; omega)
theorem pi_sp (hs : sym t = some (s, 32 :: rest)) (ne : rest ≠ []) (h : PrIs R (r ++ [s]) rest res) : PrIs R r t res := fun f hf => by
  have l := sym_len hs
  obtain ⟨f, rfl, _⟩ := fuel hf
  rw [pr_step f R r hs]
  simp only
  rw [if_neg (by omega), if_pos ⟨trivial, ne⟩]
  exact h f (by simp only [List.length_cons] at l; omega)
theorem pi_one (hs : sym t = some (s, [])) : PrIs R r t (some (R ++ [r ++ [s]])) := fun f hf => by
  obtain ⟨f, rfl, _⟩ := fuel hf
  rw [pr_step f R r hs]
theorem pi_odd {c : Nat} (hs : sym t = some (s, c :: rest)) (h1 : c ≠ 10) (h2 : c ≠ 32 ∨ rest = []) : PrIs R r t none := fun f hf => by
  obtain ⟨f, rfl, _⟩ := fuel hf
  rw [pr_step f R r hs]
  simp only
  rw [if_neg h1, if_neg]
  rintro ⟨a, b⟩
  rcases h2 with h2 | h2
  · exact h2 a
  · exact b h2
theorem pi_tok (h : s.ok 600) (ne : rest ≠ []) (k : PrIs R (r ++ [s]) rest res) : PrIs R r (syT s ++ 32 :: rest) res := pi_sp (sym_good h (by simp [isFig])) ne k
theorem pi_toks : ∀ (a r : List Sy), (∀ x ∈ a, x.ok 600) → rest ≠ [] → PrIs R (r ++ a) rest res → PrIs R r ((a.map fun s => syT s ++ [32]).flatten ++ rest) res := by
  intro a
  induction a with
  | nil => intro r h ne k; simpa using k
  | cons s a ih =>
    intro r h ne k
    have := ih (r ++ [s]) (fun x hx => h x (List.mem_cons_of_mem _ hx)) ne (by simpa using k)
    simp only [List.map_cons, List.flatten_cons, List.append_assoc, List.singleton_append]
    exact pi_tok (h s (by simp)) (fun e => ne (List.append_eq_nil_iff.mp e).2) this
theorem pi_row : ∀ (row : List Sy) (s : Sy) (r : List Sy), (∀ x ∈ s :: row, x.ok 600) → PrIs (R ++ [r ++ s :: row]) [] rest res → PrIs R r (rowT (s :: row) ++ 10 :: rest) res := by
  intro row
  induction row with
  | nil =>
    intro s r h k
    rw [rowT_one]
    exact pi_nl (sym_good (h s (by simp)) (by simp [isFig])) k
  | cons t row ih =>
    intro s r h k
    rw [rowT_cc, List.append_assoc, List.cons_append]
    exact pi_tok (h s (by simp)) (by simp) (ih t (r ++ [s]) (fun x hx => h x (List.mem_cons_of_mem _ hx)) (by simpa using k))
theorem pi_last : ∀ (row : List Sy) (s : Sy) (r : List Sy), (∀ x ∈ s :: row, x.ok 600) → PrIs R r (rowT (s :: row)) (some (R ++ [r ++ s :: row])) := by
  intro row
  induction row with
  | nil =>
    intro s r h
    rw [rowT_one]
    have := sym_good (tail := []) (h s (by simp)) (by simp)
    rw [List.append_nil] at this
    exact pi_one this
  | cons t row ih =>
    intro s r h
    rw [rowT_cc]
    have := ih t (r ++ [s]) (fun x hx => h x (List.mem_cons_of_mem _ hx))
    rw [List.append_assoc] at this
    exact pi_tok (h s (by simp)) (rowT_ne (h t (by simp))) this
/-- a row, empty or not, at the end -/
theorem pi_lastA {row : List Sy} (h : ∀ x ∈ row, x.ok 600) : PrIs R [] (rowT row) (some (R ++ [row])) := by
  cases row with
  | nil => exact pi_end
  | cons s row => exact pi_last row s [] h
/-- rows, each with a line end -/
def rowsT (RR : List (List Sy)) : List Nat := (RR.map fun r => rowT r ++ [10]).flatten
def GdR (RR : List (List Sy)) : Prop := ∀ r ∈ RR, r ≠ [] ∧ ∀ x ∈ r, x.ok 600
theorem pi_rows : ∀ (RR R : List (List Sy)), GdR RR → PrIs (R ++ RR) [] rest res → PrIs R [] (rowsT RR ++ rest) res := by
  intro RR
  induction RR with
  | nil => intro R h k; simpa [rowsT] using k
  | cons r RR ih =>
    intro R h k
    have h1 := h r (by simp)
    obtain ⟨s, row, rfl⟩ : ∃ s row, r = s :: row := by
      cases r with
      | nil => exact absurd rfl h1.1
      | cons s row => exact ⟨s, row, rfl⟩
    unfold rowsT at ih ⊢
    simp only [List.map_cons, List.flatten_cons, List.append_assoc, List.singleton_append]
    exact pi_row row s [] h1.2 (ih (R ++ [s :: row]) (fun x hx => h x (List.mem_cons_of_mem _ hx)) (by simpa using k))
theorem pi_book {RR : List (List Sy)} {row : List Sy} (h : GdR RR) (h2 : ∀ x ∈ row, x.ok 600) : PrIs [] [] (rowsT RR ++ rowT row) (some (RR ++ [row])) :=
  pi_rows RR [] h (by rw [List.nil_append]; exact pi_lastA h2)
end

/-! odd texts in a symbol's place -/
def Odd0 : List (List Nat) := [[], [120], [39, 32, 120], [48, 48], [39, 97, 98], [45, 49], [49, 46], [39, 97, 32], [9]]
theorem fig10 : isFig 10 = false := by decide
theorem fig32 : isFig 32 = false := by decide
def Brk (tail : List Nat) : Prop := ∃ c t, tail = c :: t ∧ (c = 10 ∨ c = 32)
theorem brk_fig {tail : List Nat} (h : Brk tail ∨ tail = []) : ∀ c, tail.head? = some c → isFig c = false := fun c hc => by
  rcases h with ⟨d, t, rfl, q⟩ | rfl
  · simp at hc; subst hc
    rcases q with rfl | rfl
    · exact fig10
    · exact fig32
  · cases hc
theorem sym_brk {tail : List Nat} (h : Brk tail) : tail ≠ [] ∧ sym tail = none := by
  obtain ⟨d, t, rfl, q⟩ := h
  refine ⟨by simp, ?_⟩
  rcases q with rfl | rfl
  · exact sym_odd (by omega) fig10
  · exact sym_odd (by omega) fig32
theorem odd_none {o tail : List Nat} (ho : o ∈ Odd0) (ht : Brk tail ∨ (tail = [] ∧ o ≠ [])) (R : List (List Sy)) (r : List Sy) : PrIs R r (o ++ tail) none := by
  have hf := brk_fig (tail := tail) (ht.imp id fun h => h.1)
  simp only [Odd0, List.mem_cons, List.not_mem_nil, or_false] at ho
  rcases ho with rfl | rfl | rfl | rfl | rfl | rfl | rfl | rfl | rfl
  · rcases ht with ht | ⟨_, h⟩
    · exact pi_bad (sym_brk ht).1 (sym_brk ht).2
    · exact absurd rfl h
  · exact pi_bad (by simp) (sym_odd (by omega) (by decide))
  · exact pi_odd (s := .s 32) (c := 120) (rest := tail) rfl (by omega) (.inl (by omega))
  · have e := figs_of (f := [48, 48]) (tail := tail) (by decide) hf
    refine pi_bad (by simp) ?_
    show sym (48 :: ([48] ++ tail)) = none
    have e : figs (48 :: ([48] ++ tail)) = [48, 48] := e
    rw [sym_num (by omega), e, if_pos (.inr (.inl ⟨rfl, by simp⟩))]
  · exact pi_odd (s := .s 97) (c := 98) (rest := tail) rfl (by omega) (.inl (by omega))
  · exact pi_bad (by simp) (sym_odd (by omega) (by decide))
  · have e : figs (49 :: ([46] ++ tail)) = [49] := figs_of (f := [49]) (tail := 46 :: tail) (by decide) (by simp [isFig])
    have q : sym (49 :: ([46] ++ tail)) = some (.n (nv [49]), 46 :: tail) := by
      rw [sym_num (by omega), e, if_neg (by simp)]
      rfl
    exact pi_odd q (by omega) (.inl (by omega))
  · have q : sym ([39, 97, 32] ++ tail) = some (.s 97, 32 :: tail) := rfl
    rcases ht with ht | ⟨h, _⟩
    · exact pi_sp q (sym_brk ht).1 (pi_bad (sym_brk ht).1 (sym_brk ht).2)
    · exact pi_odd q (by omega) (.inr h)
  · exact pi_bad (by simp) (sym_odd (by omega) (by decide))
/-- a symbol's text begins with a mark or a figure -/
theorem syT_head {s : Sy} (h : s.ok 600) : ∃ c t, syT s = c :: t ∧ c ≠ 10 ∧ c ≠ 32 := by
  cases s with
  | s d => exact ⟨39, [d], rfl, by omega, by omega⟩
  | n k =>
    have hk : k < 600 := h
    have hl := dg_len k hk
    have hf := dg_fig k hk
    cases hd : dg k with
    | nil => rw [hd] at hl; simp at hl
    | cons c t =>
      rw [hd] at hf
      have := hf c (by simp)
      exact ⟨c, t, hd, by omega, by omega⟩
/-- a sign, a blank, a mark alone -/
theorem odd_mark {tail : List Nat} (ht : tail = [] ∨ ∃ s t, tail = 32 :: (syT s ++ t) ∧ s.ok 600) (R : List (List Sy)) (r : List Sy) : PrIs R r ([39, 97, 32, 39] ++ tail) none := by
  have q : sym ([39, 97, 32, 39] ++ tail) = some (.s 97, 32 :: 39 :: tail) := rfl
  refine pi_sp q (by simp) ?_
  rcases ht with rfl | ⟨s, t, rfl, h⟩
  · exact pi_bad (by simp) rfl
  · obtain ⟨c, u, e, h1, h2⟩ := syT_head h
    have q2 : sym (39 :: 32 :: (syT s ++ t)) = some (.s 32, syT s ++ t) := rfl
    rw [e] at q2 ⊢
    exact pi_odd q2 h1 (.inl h2)
theorem dg_two : ∀ j, j < 10 → ∀ k, k < 10 → 0 < j → dg (10 * j + k) = [48 + j, 48 + k] := by decide +kernel
theorem dg_one : ∀ j, j < 10 → dg j = [48 + j] := by decide +kernel
/-- two symbols of a rule in one: refused at once, or one number -/
theorem glued {a b : Sy} (ha : a.ok 10) (hb : b.ok 10) (rest : List Nat) : (∀ R r, PrIs R r ((syT a ++ syT b) ++ 10 :: rest) none) ∨ ∃ k, k < 100 ∧ syT a ++ syT b = syT (.n k) := by
  have hb6 : b.ok 600 := hb.mono (by omega)
  cases a with
  | s c =>
    left
    intro R r
    obtain ⟨d, u, e, h1, h2⟩ := syT_head hb6
    have q : sym ((syT (.s c) ++ syT b) ++ 10 :: rest) = some (.s c, syT b ++ 10 :: rest) := rfl
    rw [e, List.cons_append] at q
    rw [e]
    exact pi_odd q h1 (.inl h2)
  | n j =>
    have hj : j < 10 := ha
    cases b with
    | s c =>
      left
      intro R r
      have q := sym_good (s := .n j) (tail := 39 :: c :: 10 :: rest) (ha.mono (by omega)) (by simp [isFig])
      refine pi_odd (t := (syT (.n j) ++ syT (.s c)) ++ 10 :: rest) (s := .n j) (c := 39) (rest := c :: 10 :: rest) ?_ (by omega) (.inl (by omega))
      rw [← q]
      simp [syT]
    | n k =>
      have hk : k < 10 := hb
      by_cases z : j = 0
      · left
        intro R r
        subst z
        refine pi_bad (by simp) ?_
        have e1 : (syT (.n 0) ++ syT (.n k)) ++ 10 :: rest = 48 :: (48 + k) :: 10 :: rest := by
          simp [syT, dg_one k hk, dg_one 0 (by omega)]
        have e : figs (48 :: (48 + k) :: 10 :: rest) = [48, 48 + k] := figs_of (f := [48, 48 + k]) (tail := 10 :: rest) (by
          intro c hc
          simp at hc
          unfold isFig
          rw [decide_eq_true_eq]
          omega) (by simp [isFig])
        rw [e1, sym_num (by omega), e, if_pos (.inr (.inl ⟨rfl, by simp⟩))]
      · right
        refine ⟨10 * j + k, by omega, ?_⟩
        show dg j ++ dg k = dg (10 * j + k)
        rw [dg_two j hj k hk (by omega), dg_one j hj, dg_one k hk]
        rfl

/-! texts of rows -/
/-- the text of rows of texts -/
def lineT (L : List (List (List Nat))) : List Nat := inter [10] (L.map (inter [32]))
theorem lineT_one (x : List (List Nat)) : lineT [x] = inter [32] x := rfl
theorem lineT_cc (x : List (List Nat)) {L : List (List (List Nat))} (h : L ≠ []) : lineT (x :: L) = inter [32] x ++ 10 :: lineT L := by
  cases L with
  | nil => exact absurd rfl h
  | cons y L =>
    unfold lineT
    simp [inter]
theorem lineT_pre (RR : List (List Sy)) {X : List (List (List Nat))} (h : X ≠ []) : lineT (RR.map (List.map syT) ++ X) = rowsT RR ++ lineT X := by
  induction RR with
  | nil => rfl
  | cons r RR ih =>
    rw [List.map_cons, List.cons_append, lineT_cc _ (by simp [h]), ih]
    unfold rowsT
    rw [List.map_cons, List.flatten_cons]
    simp [rowT]
theorem inter_pre (sep : List Nat) (a : List (List Nat)) {b : List (List Nat)} (h : b ≠ []) : inter sep (a ++ b) = (a.map (· ++ sep)).flatten ++ inter sep b := by
  induction a with
  | nil => rfl
  | cons x a ih =>
    have e : inter sep (x :: (a ++ b)) = x ++ sep ++ inter sep (a ++ b) := by
      cases q : a ++ b with
      | nil => exact absurd (List.append_eq_nil_iff.mp q).2 h
      | cons y r => rfl
    rw [List.cons_append, e, ih]
    simp
theorem inter_one (sep x : List Nat) : inter sep [x] = x := rfl
theorem inter_two (sep x y : List Nat) : inter sep [x, y] = x ++ sep ++ y := rfl
/-- small rows -/
def RwOk (L : List (List (List Nat))) : Prop := L.length ≤ 20 ∧ ∀ r ∈ L, r.length ≤ 20 ∧ ∀ t ∈ r, t.length ≤ 20 ∧ ∀ c ∈ t, c < 1114112
def Tn (n : Nat) (T : List Nat) : Prop := T.length ≤ n ∧ ∀ c ∈ T, c < 1114112
theorem Tn.app {a b n : Nat} {S T : List Nat} (h1 : Tn a S) (h2 : Tn b T) (h : a + b ≤ n) : Tn n (S ++ T) := by
  refine ⟨?_, fun c hc => ?_⟩
  · have := h1.1; have := h2.1
    rw [List.length_append]; omega
  · rcases List.mem_append.mp hc with q | q
    · exact h1.2 c q
    · exact h2.2 c q
theorem inter_mem (sep : List Nat) (ls : List (List Nat)) (c : Nat) (hc : c ∈ inter sep ls) : c ∈ sep ∨ ∃ l ∈ ls, c ∈ l := by
  cases ls with
  | nil => simp [inter] at hc
  | cons l r =>
    rw [inter_cons] at hc
    rcases List.mem_append.mp hc with q | q
    · exact .inr ⟨l, List.mem_cons_self, q⟩
    · obtain ⟨x, hx, hcx⟩ := List.mem_flatten.mp q
      obtain ⟨y, hy, rfl⟩ := List.mem_map.mp hx
      rcases List.mem_append.mp hcx with z | z
      · exact .inl z
      · exact .inr ⟨y, List.mem_cons_of_mem _ hy, z⟩
theorem flat_len {n : Nat} : ∀ (ls : List (List Nat)), (∀ l ∈ ls, l.length ≤ n) → ls.flatten.length ≤ ls.length * n := by
  intro ls
  induction ls with
  | nil => intro _; simp
  | cons l ls ih =>
    intro h
    have h1 := ih fun x hx => h x (List.mem_cons_of_mem _ hx)
    have h2 := h l (by simp)
    simp only [List.flatten_cons, List.length_append, List.length_cons, Nat.add_mul]
    omega
theorem line_tn {L : List (List (List Nat))} (h : RwOk L) : Tn 10000 (lineT L) := by
  have h1 : ∀ r ∈ L, (inter [32] r).length ≤ 420 := fun r hr => by
    have a := inter_len [32] r
    have b := flat_len (n := 20) r fun l hl => ((h.2 r hr).2 l hl).1
    have c := (h.2 r hr).1
    simp only [List.length_singleton] at a
    have : r.length * 20 ≤ 20 * 20 := Nat.mul_le_mul_right 20 c
    omega
  refine ⟨?_, fun c hc => ?_⟩
  · have a := inter_len [10] (L.map (inter [32]))
    have b := flat_len (n := 420) (L.map (inter [32])) fun l hl => by
      obtain ⟨r, hr, rfl⟩ := List.mem_map.mp hl
      exact h1 r hr
    simp only [List.length_singleton, List.length_map] at a b
    unfold lineT
    have := h.1
    have : L.length * 420 ≤ 20 * 420 := Nat.mul_le_mul_right 420 h.1
    omega
  · rcases inter_mem _ _ c hc with q | ⟨l, hl, q⟩
    · simp at q; omega
    · obtain ⟨r, hr, rfl⟩ := List.mem_map.mp hl
      rcases inter_mem _ _ c q with z | ⟨t, ht, z⟩
      · simp at z; omega
      · exact ((h.2 r hr).2 t ht).2 c z
end PL

set_option Elab.async false
set_option linter.all false
set_option maxRecDepth 100000
set_option maxHeartbeats 4000000
namespace PL
open PySem PySem.Spec PyProof.Rows L2 L2H
/-! printed by gen.py for pairrules_k08_texts_refused -/
def topS (i : Nat) : Stmt := PySem.Challenge.pw_pairrules_k08_texts_refused.main.body.getD i (.Pass ⟨0, 0, 0, 0⟩)
abbrev s_is_number : Stmt := topS 6
theorem sc_is_number : FnScope ["thing"] ["thing"] (defScope s_is_number) := ⟨rfl, rfl, rfl, by decide +kernel, rfl, by decide +kernel, by decide +kernel⟩
def b_is_number : Rho → Fl :=
  (mRet (mAnd (mIsi isInt (mV 0)) (mAnd (mNot (mIsi isBool (mV 0))) (mB geD (mV 0) (mC (.int 0))))))
def f_is_number : List D → Rs D := fnRun b_is_number 1 1
abbrev s_is_symbol : Stmt := topS 7
theorem sc_is_symbol : FnScope ["thing", "many"] ["thing", "many"] (defScope s_is_symbol) := ⟨rfl, rfl, rfl, by decide +kernel, rfl, by decide +kernel, by decide +kernel⟩
def b_is_symbol : Rho → Fl :=
  (mSeq (mIf (mTv (mIsi isStr (mV 0))) (mRet (mB eqD (mF lenF (mCons (mV 0) mNil)) (mC (.int 1)))) mNext)
  (mRet (mAnd (mCall f_is_number (mCons (mV 0) mNil)) (mB ltD (mV 0) (mV 1)))))
def f_is_symbol : List D → Rs D := fnRun b_is_symbol 2 2
abbrev s_is_rule : Stmt := topS 8
theorem sc_is_rule : FnScope ["thing", "many"] ["thing", "many"] (defScope s_is_rule) := ⟨rfl, rfl, rfl, by decide +kernel, rfl, by decide +kernel, by decide +kernel⟩
def b_is_rule : Rho → Fl :=
  (mSeq (mIf (mTor (mTnot (mTv (mIsi isTup (mV 0)))) (mTv (mB neD (mF lenF (mCons (mV 0) mNil)) (mC (.int 2))))) (mRet (mC (.bool false))) mNext)
  (mRet (mAnd (mCall f_is_symbol (mCons (mB ixD (mV 0) (mC (.int 0))) (mCons (mV 1) mNil))) (mCall f_is_symbol (mCons (mB ixD (mV 0) (mC (.int 1))) (mCons (mV 1) mNil))))))
def f_is_rule : List D → Rs D := fnRun b_is_rule 2 2
abbrev s_need_book : Stmt := topS 9
theorem sc_need_book : FnScope ["book", "symbol", "rules", "row", "at", "rule"] ["book"] (defScope s_need_book) := ⟨rfl, rfl, rfl, by decide +kernel, rfl, by decide +kernel, by decide +kernel⟩
def b_need_book : Rho → Fl :=
  (mSeq (mIf (mTor (mTnot (mTv (mIsi isTup (mV 0)))) (mTv (mB neD (mF lenF (mCons (mV 0) mNil)) (mC (.int 2))))) (fun _ => .ex "NoBook") mNext)
  (mSeq (mAsg (mV 0) (gT 2 (gsC (gN 2) (gsC (gN 3) gs0))))
  (mSeq (mIf (mTor (mTnot (mTv (mIsi isList (mV 2)))) (mTnot (mTv (mIsi isList (mV 3))))) (fun _ => .ex "NoBook") mNext)
  (mSeq (mIf (mTor (mTv (mB gtD (mF lenF (mCons (mV 2) mNil)) (mC (.int 600)))) (mTv (mB gtD (mF lenF (mCons (mV 3) mNil)) (mC (.int 2000))))) (fun _ => .ex "NoBook") mNext)
  (mSeq (mFor (mEnum (mCons (mV 2) mNil)) (gT 2 (gsC (gN 4) (gsC (gN 5) gs0)))
  (mIf (mTnot (mTv (mCall f_is_rule (mCons (mV 5) (mCons (mV 4) mNil))))) (fun _ => .ex "NoBook") mNext))
  (mSeq (mFor (mIter (mV 3)) (gN 1)
  (mIf (mTnot (mTv (mCall f_is_symbol (mCons (mV 1) (mCons (mF lenF (mCons (mV 2) mNil)) mNil))))) (fun _ => .ex "NoBook") mNext))
  (mRet (mV 0))))))))
def f_need_book : List D → Rs D := fnRun b_need_book 6 1
abbrev s_symbol_at : Stmt := topS 12
theorem sc_symbol_at : FnScope ["line", "at", "end"] ["line", "at"] (defScope s_symbol_at) := ⟨rfl, rfl, rfl, by decide +kernel, rfl, by decide +kernel, by decide +kernel⟩
def b_symbol_at : Rho → Fl :=
  (mSeq (mIf (mTv (mB eqD (mB ixD (mV 0) (mV 1)) (mC (.str "'")))) (mSeq (mIf (mTv (mB eqD (mB addD (mV 1) (mC (.int 1))) (mF lenF (mCons (mV 0) mNil)))) (fun _ => .ex "NoBook") mNext)
  (mRet (mF tupF (mCons (mB ixD (mV 0) (mB addD (mV 1) (mC (.int 1)))) (mCons (mB addD (mV 1) (mC (.int 2))) mNil))))) mNext)
  (mSeq (mAsg (mV 1) (gN 2))
  (mSeq (mWhile (mTand (mTv (mB ltD (mV 2) (mF lenF (mCons (mV 0) mNil)))) (mTv (mB inD (mB ixD (mV 0) (mV 2)) (mC (.str "0123456789"))))) (mAsg (mB addD (mV 2) (mC (.int 1))) (gN 2)) (fun _ => 1000000000))
  (mSeq (mIf (mTor (mTv (mB eqD (mV 2) (mV 1))) (mTor (mTand (mTv (mB eqD (mB ixD (mV 0) (mV 1)) (mC (.str "0")))) (mTv (mB gtD (mV 2) (mB addD (mV 1) (mC (.int 1)))))) (mTv (mB gtD (mV 2) (mB addD (mV 1) (mC (.int 3))))))) (fun _ => .ex "NoBook") mNext)
  (mRet (mF tupF (mCons (mF intAF (mCons (mSl (mV 0) (mPs (mV 1)) (mPs (mV 2))) mNil)) (mCons (mV 2) mNil))))))))
def f_symbol_at : List D → Rs D := fnRun b_symbol_at 3 2
abbrev s_rows_of : Stmt := topS 13
theorem sc_rows_of : FnScope ["line", "rows", "at", "symbol"] ["line"] (defScope s_rows_of) := ⟨rfl, rfl, rfl, by decide +kernel, rfl, by decide +kernel, by decide +kernel⟩
def b_rows_of : Rho → Fl :=
  (mSeq (mSetN 1)
  (mSeq (mAsg (mC (.int 0)) (gN 2))
  (mSeq (mWhile (mTv (mB ltD (mV 2) (mF lenF (mCons (mV 0) mNil)))) (mSeq (mAsg (mCall f_symbol_at (mCons (mV 0) (mCons (mV 2) mNil))) (gT 2 (gsC (gN 3) (gsC (gN 2) gs0))))
  (mSeq (mAppL 1 (mV 3))
  (mIf (mTv (mB ltD (mV 2) (mF lenF (mCons (mV 0) mNil)))) (mSeq (mIf (mTv (mB eqD (mB ixD (mV 0) (mV 2)) (mC (.str "\n")))) (mAppN 1) (mIf (mTor (mTv (mB neD (mB ixD (mV 0) (mV 2)) (mC (.str " ")))) (mTv (mB eqD (mB addD (mV 2) (mC (.int 1))) (mF lenF (mCons (mV 0) mNil))))) (fun _ => .ex "NoBook") mNext))
  (mAsg (mB addD (mV 2) (mC (.int 1))) (gN 2))) mNext))) (fun _ => 1000000000))
  (mRetN 1))))
def f_rows_of : List D → Rs D := fnRun b_rows_of 4 1
abbrev s_read : Stmt := topS 14
theorem sc_read : FnScope ["line", "rows", "row"] ["line"] (defScope s_read) := ⟨rfl, rfl, rfl, by decide +kernel, rfl, by decide +kernel, by decide +kernel⟩
def b_read : Rho → Fl :=
  (mSeq (mIf (mTnot (mTv (mIsi isStr (mV 0)))) (fun _ => .ex "NoBook") mNext)
  (mSeq (mAsg (mCall f_rows_of (mCons (mV 0) mNil)) (gN 1))
  (mRet (mCall f_need_book (mCons (mF tupF (mCons (mComp (mIter (mSl (mV 1) mPn (mPs (mF negF (mCons (mC (.int 1)) mNil))))) (gN 2) tOne (mF tupleF (mCons (mV 2) mNil)) [2]) (mCons (mB ixD (mV 1) (mF negF (mCons (mC (.int 1)) mNil))) mNil))) mNil)))))
def f_read : List D → Rs D := fnRun b_read 3 1
abbrev s__law_cell_at : Stmt := topS 16
theorem sc__law_cell_at : FnScope ["_law_script", "_law_k"] ["_law_script", "_law_k"] (defScope s__law_cell_at) := ⟨rfl, rfl, rfl, by decide +kernel, rfl, by decide +kernel, by decide +kernel⟩
def b__law_cell_at : Rho → Fl :=
  (mSeq (mIf (mTv (mB ltD (mV 1) (mF lenF (mCons (mV 0) mNil)))) (mRet (mB ixD (mV 0) (mV 1))) mNext)
  (mRet (mC (.int 0))))
def f__law_cell_at : List D → Rs D := fnRun b__law_cell_at 2 2
abbrev s__law_symbol : Stmt := topS 17
theorem sc__law_symbol : FnScope ["_law_cell", "_law_many"] ["_law_cell", "_law_many"] (defScope s__law_symbol) := ⟨rfl, rfl, rfl, by decide +kernel, rfl, by decide +kernel, by decide +kernel⟩
def b__law_symbol : Rho → Fl :=
  (mSeq (mIf (mTor (mTv (mB eqD (mV 1) (mC (.int 0)))) (mTv (mB eqD (mB modD (mV 0) (mC (.int 2))) (mC (.int 0))))) (mRet (mB addD (mC (.str "'")) (mB ixD (mC (.str "abcdefghijklmnopqrstuvwxyz0123456789")) (mB modD (mB fdivD (mV 0) (mC (.int 2))) (mC (.int 36)))))) mNext)
  (mRet (mF strF (mCons (mB modD (mB fdivD (mV 0) (mC (.int 2))) (mV 1)) mNil))))
def f__law_symbol : List D → Rs D := fnRun b__law_symbol 2 2
abbrev s__law_refused : Stmt := topS 18
theorem sc__law_refused : FnScope ["_law_line_here", "e"] ["_law_line_here"] (defScope s__law_refused) := ⟨rfl, rfl, rfl, by decide +kernel, rfl, by decide +kernel, by decide +kernel⟩
def b_need_bookH : Rho → Fl :=
  (mSeq (mIf (mTor (mTnot (mTv (mIsi isTup (mV 0)))) (mTv (mB neD (mF lenF (mCons (mV 0) mNil)) (mC (.int 2))))) (fun _ => .ex "NoBook") mNext)
  (mSeq (mAsg (mV 0) (gT 2 (gsC (gN 2) (gsC (gN 3) gs0))))
  (mSeq (mIf (mTor (mTnot (mTv (mIsi isList (mV 2)))) (mTnot (mTv (mIsi isList (mV 3))))) (fun _ => .ex "NoBook") mNext)
  (mSeq (mIf (mTor (mTv (mB gtD (mF lenF (mCons (mV 2) mNil)) (mC (.int 600)))) (mTv (mB gtD (mF lenF (mCons (mV 3) mNil)) (mC (.int 2000))))) (fun _ => .ex "NoBook") mNext)
  (mSeq (mFor (mEnum (mCons (mV 2) mNil)) (gT 2 (gsC (gN 4) (gsC (gN 5) gs0)))
  (mIf (mTnot (mTv (mCall f_is_rule (mCons (mV 5) (mCons (mV 4) mNil))))) (fun _ => .ex "NoBook") mNext))
  (mSeq (mFor (mIterL (mV 3)) (gN 1)
  (mIf (mTnot (mTv (mCall f_is_symbol (mCons (mV 1) (mCons (mF lenF (mCons (mV 2) mNil)) mNil))))) (fun _ => .ex "NoBook") mNext))
  (mRet (mV 0))))))))
def f_need_bookH : List D → Rs D := fnRun b_need_bookH 6 1
def b_readH : Rho → Fl :=
  (mSeq (mIf (mTnot (mTv (mIsi isStr (mV 0)))) (fun _ => .ex "NoBook") mNext)
  (mSeq (mAsg (mCall f_rows_of (mCons (mV 0) mNil)) (gN 1))
  (mRet (mCall f_need_bookH (mCons (mF tupF (mCons (mComp (mIterL (mSl (mV 1) mPn (mPs (mF negF (mCons (mC (.int 1)) mNil))))) (gN 2) tOne (mF tupleF (mCons (mV 2) mNil)) [2]) (mCons (mB ixD (mV 1) (mF negF (mCons (mC (.int 1)) mNil))) mNil))) mNil)))))
def f_readH : List D → Rs D := fnRun b_readH 3 1
def b__law_refused : Rho → Fl :=
  (mSeq (mRefW "NoBook" f_read (mCons (mV 0) mNil) f_readH (mCons (mV 0) mNil))
  (mRet (mC (.bool false))))
def f__law_refused : List D → Rs D := fnRun b__law_refused 2 1
def suiteOf : List Stmt → List Stmt
  | (.Try _ [.ExceptHandler _ _ ((.Try _ [.ExceptHandler _ _ b _] _ _ _) :: _) _] _ _ _) :: _ => b
  | _ => []
abbrev s__law_rows : Stmt := topS 19
theorem sc__law_rows : FnScope ["_law_script", "_law_many", "_law_rows_here", "_law_k", "_law_last_here", "_law_one"] ["_law_script", "_law_many"] (defScope s__law_rows) := ⟨rfl, rfl, rfl, by decide +kernel, rfl, by decide +kernel, by decide +kernel⟩
def b__law_rows : Rho → Rs (List D) :=
  (mSeqO (mSetO 2 (mOl mNil))
  (mSeqO (mFor (mRg (mCons (mV 1) mNil)) (gN 3)
  (mSeq (mAsg (mCall f__law_symbol (mCons (mCall f__law_cell_at (mCons (mV 0) (mCons (mB addD (mC (.int 2)) (mB mulD (mC (.int 2)) (mV 3))) mNil))) (mCons (mV 3) mNil))) (gN 5))
  (mApp 2 (mF lstF (mCons (mV 5) (mCons (mCall f__law_symbol (mCons (mCall f__law_cell_at (mCons (mV 0) (mCons (mB addD (mC (.int 3)) (mB mulD (mC (.int 2)) (mV 3))) mNil))) (mCons (mV 3) mNil))) mNil))))))
  (mSeqO (mSetO 4 (mOl mNil))
  (mSeqO (mFor (mRg (mCons (mB modD (mB fdivD (mCall f__law_cell_at (mCons (mV 0) (mCons (mC (.int 1)) mNil))) (mC (.int 7))) (mC (.int 6))) mNil)) (gN 3)
  (mApp 4 (mCall f__law_symbol (mCons (mCall f__law_cell_at (mCons (mV 0) (mCons (mB addD (mC (.int 20)) (mV 3)) mNil))) (mCons (mV 1) mNil)))))
  (mRetA (mV 2) (mF lstF (mCons (mV 4) mNil)))))))
def f__law_rows : List D → Rs (List D) := fnRunO b__law_rows 6 2
abbrev s__law_spoilt : Stmt := topS 20
theorem sc__law_spoilt : FnScope ["_law_rows_here", "_law_cell", "_law_many", "_law_at", "_law_spot", "_law_odd", "_law_pair"] ["_law_rows_here", "_law_cell", "_law_many"] (defScope s__law_spoilt) := ⟨rfl, rfl, rfl, by decide +kernel, rfl, by decide +kernel, by decide +kernel⟩
def b__law_spoilt : Rho → Fl :=
  (mSeq (mAsg (mB modD (mB fdivD (mV 1) (mC (.int 10))) (mV 2)) (gN 3))
  (mSeq (mAsg (mB modD (mB fdivD (mV 1) (mC (.int 80))) (mC (.int 2))) (gN 4))
  (mSeq (mAsg (mB ixD (mF lstF (mCons (mC (.str "")) (mCons (mC (.str "x")) (mCons (mC (.str "' x")) (mCons (mC (.str "00")) (mCons (mF strF (mCons (mB addD (mV 2) (mV 3)) mNil)) (mCons (mC (.str "'ab")) (mCons (mC (.str "-1")) (mCons (mC (.str "1.")) (mCons (mF strF (mCons (mV 3) mNil)) (mCons (mC (.str "'a ")) mNil))))))))))) (mB modD (mV 1) (mC (.int 10)))) (gN 5))
  (mSeq (mAsg (mF lstF (mCons (mV 5) (mCons (mB ixD (mB ixD (mV 0) (mV 3)) (mC (.int 1))) mNil))) (gN 6))
  (mSeq (mIf (mTv (mB eqD (mV 4) (mC (.int 1)))) (mAsg (mF lstF (mCons (mB ixD (mB ixD (mV 0) (mV 3)) (mC (.int 0))) (mCons (mV 5) mNil))) (gN 6)) mNext)
  (mRet (mB addD (mB addD (mSl (mV 0) mPn (mPs (mV 3))) (mF lstF (mCons (mV 6) mNil))) (mSl (mV 0) (mPs (mB addD (mV 3) (mC (.int 1)))) mPn))))))))
def f__law_spoilt : List D → Rs D := fnRun b__law_spoilt 7 3
abbrev s__law_last : Stmt := topS 21
theorem sc__law_last : FnScope ["_law_rows_here", "_law_cell", "_law_many", "_law_odd", "_law_spot"] ["_law_rows_here", "_law_cell", "_law_many"] (defScope s__law_last) := ⟨rfl, rfl, rfl, by decide +kernel, rfl, by decide +kernel, by decide +kernel⟩
def b__law_last : Rho → Fl :=
  (mSeq (mAsg (mB ixD (mF lstF (mCons (mC (.str "\t")) (mCons (mC (.str "x")) (mCons (mC (.str "' x")) (mCons (mC (.str "00")) (mCons (mF strF (mCons (mV 2) mNil)) (mCons (mF strF (mCons (mB addD (mV 2) (mC (.int 7))) mNil)) (mCons (mC (.str "'ab")) (mCons (mC (.str "-1")) (mCons (mC (.str "1.")) (mCons (mC (.str "'a '")) mNil))))))))))) (mB modD (mV 1) (mC (.int 10)))) (gN 3))
  (mSeq (mAsg (mB modD (mB fdivD (mV 1) (mC (.int 10))) (mB addD (mF lenF (mCons (mB ixD (mV 0) (mF negF (mCons (mC (.int 1)) mNil))) mNil)) (mC (.int 1)))) (gN 4))
  (mRet (mB addD (mSl (mV 0) mPn (mPs (mF negF (mCons (mC (.int 1)) mNil)))) (mF lstF (mCons (mB addD (mB addD (mSl (mB ixD (mV 0) (mF negF (mCons (mC (.int 1)) mNil))) mPn (mPs (mV 4))) (mF lstF (mCons (mV 3) mNil))) (mSl (mB ixD (mV 0) (mF negF (mCons (mC (.int 1)) mNil))) (mPs (mV 4)) mPn)) mNil))))))
def f__law_last : List D → Rs D := fnRun b__law_last 5 3
abbrev s__law_line : Stmt := topS 23
theorem sc__law_line : FnScope ["_law_rows_here", "_law_row"] ["_law_rows_here"] (defScope s__law_line) := ⟨rfl, rfl, rfl, by decide +kernel, rfl, by decide +kernel, by decide +kernel⟩
def b__law_line : Rho → Fl :=
  (mRet (mJ (mC (.str "\n")) (mComp (mIter (mV 0)) (gN 1) tOne (mJ (mC (.str " ")) (mV 1)) [1])))
def f__law_line : List D → Rs D := fnRun b__law_line 2 1
abbrev s__law_cut : Stmt := topS 22
theorem sc__law_cut : FnScope ["_law_rows_here", "_law_line_here"] ["_law_rows_here"] (defScope s__law_cut) := ⟨rfl, rfl, rfl, by decide +kernel, rfl, by decide +kernel, by decide +kernel⟩
def b__law_cut : Rho → Fl :=
  (mSeq (mAsg (mCall f__law_line (mCons (mV 0) mNil)) (gN 1))
  (mSeq (mIf (mTnot (mTv (mCall f__law_refused (mCons (mB addD (mV 1) (mC (.str " '"))) mNil)))) (mRet (mC (.bool false))) mNext)
  (mSeq (mIf (mTand (mTv (mB gtD (mF lenF (mCons (mB ixD (mV 0) (mF negF (mCons (mC (.int 1)) mNil))) mNil)) (mC (.int 0)))) (mTv (mB eqD (mB ixD (mB ixD (mB ixD (mV 0) (mF negF (mCons (mC (.int 1)) mNil))) (mF negF (mCons (mC (.int 1)) mNil))) (mC (.int 0))) (mC (.str "'"))))) (mRet (mCall f__law_refused (mCons (mSl (mV 1) mPn (mPs (mF negF (mCons (mC (.int 1)) mNil)))) mNil))) mNext)
  (mRet (mC (.bool true))))))
def f__law_cut : List D → Rs D := fnRun b__law_cut 2 1
abbrev s_law : Stmt := topS 24
theorem sc_law : FnScope ["_law_script", "_law_many", "_law_cell", "_law_rows_here", "_law_way", "_law_more", "_law_at", "_law_line_here", "_law_found", "_law_pair"] ["_law_script"] (defScope s_law) := ⟨rfl, rfl, rfl, by decide +kernel, rfl, by decide +kernel, by decide +kernel⟩
def b_law : Rho → Fl :=
  (mSeq (mAsg (mB addD (mC (.int 2)) (mB modD (mCall f__law_cell_at (mCons (mV 0) (mCons (mC (.int 1)) mNil))) (mC (.int 7)))) (gN 1))
  (mSeq (mAsg (mCall f__law_cell_at (mCons (mV 0) (mCons (mC (.int 0)) mNil))) (gN 2))
  (mSeq (mSetO 3 (mCallO f__law_rows (mCons (mV 0) (mCons (mV 1) mNil))))
  (mSeq (mAsg (mB ixD (mF lstF (mCons (mC (.int 0)) (mCons (mC (.int 1)) (mCons (mC (.int 2)) (mCons (mC (.int 3)) (mCons (mC (.int 4)) (mCons (mC (.int 5)) (mCons (mC (.int 2)) (mCons (mC (.int 5)) (mCons (mC (.int 2)) mNil)))))))))) (mB modD (mV 2) (mC (.int 9)))) (gN 4))
  (mSeq (mAsg (mB fdivD (mV 2) (mC (.int 9))) (gN 5))
  (mSeq (mIf (mTv (mB eqD (mV 4) (mC (.int 0)))) (mSeq (mAsg (mCall f_read (mCons (mCall f__law_line (mCons (mV 3) mNil)) mNil)) (gN 8))
  (mRet (mAnd (mIsi isTup (mV 8)) (mAnd (mB eqD (mF lenF (mCons (mB ixD (mV 8) (mC (.int 0))) mNil)) (mV 1)) (mB eqD (mF lenF (mCons (mB ixD (mV 8) (mC (.int 1))) mNil)) (mF lenF (mCons (mIxO 3 (mF negF (mCons (mC (.int 1)) mNil))) mNil))))))) mNext)
  (mSeq (mIf (mTv (mB eqD (mV 4) (mC (.int 1)))) (mRet (mCall f__law_refused (mCons (mB ixD (mF lstF (mCons (mC .none) (mCons (mC (.int 5)) (mCons (mF lstF (mCons (mC (.str "'a")) mNil)) (mCons (mF tupF (mCons (mC (.str "'a")) (mCons (mC (.str "'b")) mNil))) (mCons (mC (.bool true)) (mCons (mF lstF mNil) mNil))))))) (mB modD (mV 5) (mC (.int 6)))) mNil))) mNext)
  (mSeq (mIf (mTand (mTv (mB eqD (mV 4) (mC (.int 2)))) (mTv (mB eqD (mB modD (mV 5) (mC (.int 3))) (mC (.int 1))))) (mRet (mAnd (mCall f__law_refused (mCons (mCall f__law_line (mCons (mCall f__law_last (mCons (mV 3) (mCons (mB fdivD (mV 5) (mC (.int 3))) (mCons (mV 1) mNil)))) mNil)) mNil)) (mCall f__law_cut (mCons (mV 3) mNil)))) mNext)
  (mSeq (mIf (mTv (mB eqD (mV 4) (mC (.int 2)))) (mRet (mCall f__law_refused (mCons (mCall f__law_line (mCons (mCall f__law_spoilt (mCons (mV 3) (mCons (mB fdivD (mV 5) (mC (.int 3))) (mCons (mV 1) mNil)))) mNil)) mNil))) mNext)
  (mSeq (mAsg (mB modD (mB fdivD (mV 5) (mC (.int 4))) (mV 1)) (gN 6))
  (mSeq (mIf (mTv (mB eqD (mV 4) (mC (.int 3)))) (mSeq (mSetIx 3 (mB addD (mSl (mIxO 3 (mV 6)) mPn (mPs (mC (.int 1)))) (mSl (mF lstF (mCons (mC (.str "'a")) (mCons (mC (.str "'b")) mNil))) mPn (mPs (mB mulD (mC (.int 2)) (mB modD (mV 5) (mC (.int 2))))))) (mV 6))
  (mRet (mCall f__law_refused (mCons (mCall f__law_line (mCons (mV 3) mNil)) mNil)))) mNext)
  (mSeq (mAsg (mCall f__law_line (mCons (mV 3) mNil)) (gN 7))
  (mSeq (mIf (mTv (mB eqD (mV 4) (mC (.int 4)))) (mSeq (mIf (mTand (mTv (mB eqD (mB modD (mV 5) (mC (.int 4))) (mC (.int 2)))) (mTv (mB neD (mF lenF (mCons (mIxO 3 (mF negF (mCons (mC (.int 1)) mNil))) mNil)) (mC (.int 2))))) (mRet (mCall f__law_refused (mCons (mB addD (mV 7) (mC (.str "\n'a"))) mNil))) mNext)
  (mRet (mCall f__law_refused (mCons (mB ixD (mF lstF (mCons (mB addD (mC (.str " ")) (mV 7)) (mCons (mB addD (mC (.str "\n")) (mV 7)) (mCons (mB addD (mC (.str " ")) (mV 7)) (mCons (mB addD (mC (.str "'a\n")) (mV 7)) mNil))))) (mB modD (mV 5) (mC (.int 4)))) mNil)))) mNext)
  (mSeq (mIf (mTv (mB eqD (mB modD (mV 5) (mC (.int 6))) (mC (.int 3)))) (mSeq (mAsg (mIxO 3 (mV 6)) (gN 9))
  (mSeq (mSetIx 3 (mB ixD (mF lstF (mCons (mF lstF (mCons (mB addD (mB ixD (mV 9) (mC (.int 0))) (mC (.str " "))) (mCons (mB ixD (mV 9) (mC (.int 1))) mNil))) (mCons (mF lstF (mCons (mB addD (mB ixD (mV 9) (mC (.int 0))) (mB ixD (mV 9) (mC (.int 1)))) mNil)) (mCons (mF lstF (mCons (mB addD (mC (.str " ")) (mB ixD (mV 9) (mC (.int 0)))) (mCons (mB ixD (mV 9) (mC (.int 1))) mNil))) mNil)))) (mB modD (mB fdivD (mV 5) (mC (.int 24))) (mC (.int 3)))) (mV 6))
  (mRet (mCall f__law_refused (mCons (mCall f__law_line (mCons (mV 3) mNil)) mNil))))) mNext)
  (mSeq (mIf (mTv (mB eqD (mB modD (mV 5) (mC (.int 6))) (mC (.int 4)))) (mRet (mAnd (mCall f__law_refused (mCons (mB addD (mV 7) (mC (.str " "))) mNil)) (mOr (mB eqD (mF lenF (mCons (mIxO 3 (mF negF (mCons (mC (.int 1)) mNil))) mNil)) (mC (.int 2))) (mCall f__law_refused (mCons (mB addD (mV 7) (mC (.str "\n"))) mNil))))) mNext)
  (mSeq (mIf (mTv (mB eqD (mB modD (mV 5) (mC (.int 6))) (mC (.int 5)))) (mRet (mCall f__law_refused (mCons (mB ixD (mF lstF (mCons (mB mulD (mC (.str "'a 'b\n")) (mC (.int 601))) (mCons (mB addD (mB addD (mC (.str "'a 'b\n")) (mB mulD (mC (.str "0 ")) (mC (.int 2000)))) (mC (.str "0"))) mNil))) (mB modD (mB fdivD (mV 5) (mC (.int 6))) (mC (.int 2)))) mNil))) mNext)
  (mRet (mCall f__law_refused (mCons (mB addD (mCall f__law_line (mCons (mB addD (mSl (mV 3) mPn (mPs (mF negF (mCons (mC (.int 1)) mNil)))) (mF lstF (mCons (mF lstF (mCons (mC (.str "'a")) mNil)) (mCons (mF lstF (mCons (mC (.str "'b")) mNil)) mNil)))) mNil)) (mB ixD (mF lstF (mCons (mC (.str " ")) (mCons (mC (.str "")) (mCons (mC (.str "\n")) mNil)))) (mB modD (mV 5) (mC (.int 3))))) mNil)))))))))))))))))))
def f_law : List D → Rs D := fnRun b_law 10 1
structure Txt (K : PySem.W.Frag) (mg : Str → Option Value) : Prop where
  fr_bool : mg "bool" = none
  fr_enumerate : mg "enumerate" = none
  fr_int : mg "int" = none
  fr_isinstance : mg "isinstance" = none
  fr_len : mg "len" = none
  fr_list : mg "list" = none
  fr_range : mg "range" = none
  fr_str : mg "str" = none
  fr_tuple : mg "tuple" = none
  c_MOST_RULES : ∃ t, mg "MOST_RULES" = some (.int 600 t)
  c_MOST_ROW : ∃ t, mg "MOST_ROW" = some (.int 2000 t)
  c_FIGURES : ∃ t, mg "FIGURES" = some (.str "0123456789" t)
  e_BookError : ∃ C, ExcF K mg "BookError" C
  e_NoBook : ∃ C, ExcF K mg "NoBook" C
  d_is_number : Df K mg "is_number" s_is_number ["thing"]
  d_is_symbol : Df K mg "is_symbol" s_is_symbol ["thing", "many"]
  d_is_rule : Df K mg "is_rule" s_is_rule ["thing", "many"]
  d_need_book : Df K mg "need_book" s_need_book ["book"]
  d_symbol_at : Df K mg "symbol_at" s_symbol_at ["line", "at"]
  d_rows_of : Df K mg "rows_of" s_rows_of ["line"]
  d_read : Df K mg "read" s_read ["line"]
  d__law_cell_at : Df K mg "_law_cell_at" s__law_cell_at ["_law_script", "_law_k"]
  d__law_symbol : Df K mg "_law_symbol" s__law_symbol ["_law_cell", "_law_many"]
  d__law_refused : Df K mg "_law_refused" s__law_refused ["_law_line_here"]
  d__law_rows : Df K mg "_law_rows" s__law_rows ["_law_script", "_law_many"]
  d__law_spoilt : Df K mg "_law_spoilt" s__law_spoilt ["_law_rows_here", "_law_cell", "_law_many"]
  d__law_last : Df K mg "_law_last" s__law_last ["_law_rows_here", "_law_cell", "_law_many"]
  d__law_line : Df K mg "_law_line" s__law_line ["_law_rows_here"]
  d__law_cut : Df K mg "_law_cut" s__law_cut ["_law_rows_here"]
  d_law : Df K mg "law" s_law ["_law_script"]
  fr_ValueError : mg "ValueError" = none
  w_r : WR8 K mg
section
variable {P : Program} {w : World} {K : PySem.W.Frag} {mg : Str → Option Value} {base : Heap}
theorem ok_is_number (T : Txt K mg)  : DdN P w K mg base "is_number" 1 ["thing"] f_is_number := by
  refine dd_okN (kk := 0) (body := b_is_number) T.d_is_number sc_is_number rfl rfl fun f cdv A outer s H E hr tk hp hx => ?_
  have nd := sc_is_number.nd
  exact (dss_one (ds_ret (de_and (de_isi kit_int boot_int rfl T.fr_isinstance rfl T.fr_int (dv 0)) (de_and (de_not (de_isi kit_bool boot_bool rfl T.fr_isinstance rfl T.fr_bool (dv 0))) (de_one (de_cmp op_ge f_ge (dv 0) de_int (nomark _)))))))
theorem ok_is_symbol (T : Txt K mg) (h_is_number : DdN P w K mg base "is_number" 1 ["thing"] f_is_number) : DdN P w K mg base "is_symbol" 2 ["thing", "many"] f_is_symbol := by
  refine dd_okN (kk := 1) (body := b_is_symbol) T.d_is_symbol sc_is_symbol rfl rfl fun f cdv A outer s H E hr tk hp hx => ?_
  have nd := sc_is_symbol.nd
  exact (dss_cons (ds_if (dt_v (de_isi kit_str boot_str rfl T.fr_isinstance rfl T.fr_str (dv 0))) (dss_one (ds_ret (de_cmp (op_eqD hr.units) f_eq (de_callB call_len f_len rfl T.fr_len boot_len (da_cons (dv 0) da_nil)) de_int (nomark _)))) dss_nil)
  (dss_one (ds_ret (de_and (de_fnN h_is_number hr (da_cons (dv 0) da_nil) hx) (de_one (de_cmp op_lt f_lt (dv 0) (dv 1) (nomark _)))))))
theorem ok_is_rule (T : Txt K mg) (h_is_symbol : DdN P w K mg base "is_symbol" 2 ["thing", "many"] f_is_symbol) : DdN P w K mg base "is_rule" 3 ["thing", "many"] f_is_rule := by
  refine dd_okN (kk := 2) (body := b_is_rule) T.d_is_rule sc_is_rule rfl rfl fun f cdv A outer s H E hr tk hp hx => ?_
  have nd := sc_is_rule.nd
  exact (dss_cons (ds_if (dw_t (dw_or (dt_not (dt_v (de_isi kit_tup boot_tuple rfl T.fr_isinstance rfl T.fr_tuple (dv 0)))) (dw_or1 (dt_cmp (op_neD hr.units) f_ne (de_callB call_len f_len rfl T.fr_len boot_len (da_cons (dv 0) da_nil)) de_int (nomark _))))) (dss_one (ds_ret de_bl)) dss_nil)
  (dss_one (ds_ret (de_and (de_fnN h_is_symbol hr (da_cons (de_ix (dv 0) de_int) (da_cons (dv 1) da_nil)) hx) (de_one (de_fnN h_is_symbol hr (da_cons (de_ix (dv 0) de_int) (da_cons (dv 1) da_nil)) hx))))))
theorem ok_need_book (T : Txt K mg) (h_is_symbol : DdN P w K mg base "is_symbol" 2 ["thing", "many"] f_is_symbol) (h_is_rule : DdN P w K mg base "is_rule" 3 ["thing", "many"] f_is_rule) : DdN P w K mg base "need_book" 4 ["book"] f_need_book := by
  refine dd_okN (kk := 3) (body := b_need_book) T.d_need_book sc_need_book rfl rfl fun f cdv A outer s H E hr tk hp hx => ?_
  have nd := sc_need_book.nd
  exact (dss_cons (ds_if (dw_t (dw_or (dt_not (dt_v (de_isi kit_tup boot_tuple rfl T.fr_isinstance rfl T.fr_tuple (dv 0)))) (dw_or1 (dt_cmp (op_neD hr.units) f_ne (de_callB call_len f_len rfl T.fr_len boot_len (da_cons (dv 0) da_nil)) de_int (nomark _))))) (dss_one (ds_rsN T.e_NoBook tk)) dss_nil)
  (dss_cons (ds_asg (dv 0) (dg_t rfl (dgs_c (dg_n 2 nd) (dgs_c (dg_n 3 nd) dgs_0))))
  (dss_cons (ds_if (dw_t (dw_or (dt_not (dt_v (de_isi kit_list boot_list rfl T.fr_isinstance rfl T.fr_list (dv 2)))) (dw_or1 (dt_not (dt_v (de_isi kit_list boot_list rfl T.fr_isinstance rfl T.fr_list (dv 3))))))) (dss_one (ds_rsN T.e_NoBook tk)) dss_nil)
  (dss_cons (ds_if (dw_t (dw_or (dt_cmp op_gt f_gt (de_callB call_len f_len rfl T.fr_len boot_len (da_cons (dv 2) da_nil)) (de_gint' T.c_MOST_RULES) (nomark _)) (dw_or1 (dt_cmp op_gt f_gt (de_callB call_len f_len rfl T.fr_len boot_len (da_cons (dv 3) da_nil)) (de_gint' T.c_MOST_ROW) (nomark _))))) (dss_one (ds_rsN T.e_NoBook tk)) dss_nil)
  (dss_cons (ds_for hp rfl (di_enum rfl T.fr_enumerate (da_cons (dv 2) da_nil)) (dg_t rfl (dgs_c (dg_n 4 nd) (dgs_c (dg_n 5 nd) dgs_0)))
  (dss_one (ds_if (dt_not (dt_v (de_fnN h_is_rule hr (da_cons (dv 5) (da_cons (dv 4) da_nil)) hx))) (dss_one (ds_rsN T.e_NoBook tk)) dss_nil)))
  (dss_cons (ds_for hp rfl (di_e (dv 3)) (dg_n 1 nd)
  (dss_one (ds_if (dt_not (dt_v (de_fnN h_is_symbol hr (da_cons (dv 1) (da_cons (de_callB call_len f_len rfl T.fr_len boot_len (da_cons (dv 2) da_nil)) da_nil)) hx))) (dss_one (ds_rsN T.e_NoBook tk)) dss_nil)))
  (dss_one (ds_ret (dv 0)))))))))
theorem ok_symbol_at (T : Txt K mg)  : DdN P w K mg base "symbol_at" 1 ["line", "at"] f_symbol_at := by
  refine dd_okN (kk := 0) (body := b_symbol_at) T.d_symbol_at sc_symbol_at rfl rfl fun f cdv A outer s H E hr tk hp hx => ?_
  have nd := sc_symbol_at.nd
  exact (dss_cons (ds_if (dt_cmp (op_eqD hr.units) f_eq (de_ix (dv 0) (dv 1)) de_str (nomark _)) (dss_cons (ds_if (dt_cmp (op_eqD hr.units) f_eq (de_op op_addA f_add (dv 1) de_int) (de_callB call_len f_len rfl T.fr_len boot_len (da_cons (dv 0) da_nil)) (nomark _)) (dss_one (ds_rsN T.e_NoBook tk)) dss_nil)
  (dss_one (ds_ret (de_tup (da_cons (de_ix (dv 0) (de_op op_addA f_add (dv 1) de_int)) (da_cons (de_op op_addA f_add (dv 1) de_int) da_nil)))))) dss_nil)
  (dss_cons (ds_set 2 nd (dv 1))
  (dss_cons (ds_while (fun _ => 1000000000) hp (dw_t (dw_and (dt_cmp op_lt f_lt (dv 2) (de_callB call_len f_len rfl T.fr_len boot_len (da_cons (dv 0) da_nil)) (nomark _)) (dw_and1 (dt_cmp (op_inA (u65 hr)) f_in (de_ix (dv 0) (dv 2)) (de_gstr' T.c_FIGURES) (by rfl))))) (dss_one (ds_set 2 nd (de_op op_addA f_add (dv 2) de_int))))
  (dss_cons (ds_if (dw_t (dw_or (dt_cmp (op_eqD hr.units) f_eq (dv 2) (dv 1) (nomark _)) (dw_or (dw_t (dw_and (dt_cmp (op_eqD hr.units) f_eq (de_ix (dv 0) (dv 1)) de_str (nomark _)) (dw_and1 (dt_cmp op_gt f_gt (dv 2) (de_op op_addA f_add (dv 1) de_int) (nomark _))))) (dw_or1 (dt_cmp op_gt f_gt (dv 2) (de_op op_addA f_add (dv 1) de_int) (nomark _)))))) (dss_one (ds_rsN T.e_NoBook tk)) dss_nil)
  (dss_one (ds_ret (de_tup (da_cons (de_callTy call_intA f_intA rfl T.fr_int boot_int (da_cons (de_sl (dv 0) (dp_some (dv 1)) (dp_some (dv 2))) da_nil)) (da_cons (dv 2) da_nil)))))))))
theorem ok_rows_of (T : Txt K mg) (h_symbol_at : DdN P w K mg base "symbol_at" 1 ["line", "at"] f_symbol_at) : DdN P w K mg base "rows_of" 2 ["line"] f_rows_of := by
  refine dd_okN (kk := 1) (body := b_rows_of) T.d_rows_of sc_rows_of rfl rfl fun f cdv A outer s H E hr tk hp hx => ?_
  have nd := sc_rows_of.nd
  exact (dss_cons (ds_setN 1 nd)
  (dss_cons (ds_set 2 nd de_int)
  (dss_cons (ds_while (fun _ => 1000000000) hp (dt_cmp op_lt f_lt (dv 2) (de_callB call_len f_len rfl T.fr_len boot_len (da_cons (dv 0) da_nil)) (nomark _)) (dss_cons (ds_asg (de_fnN h_symbol_at hr (da_cons (dv 0) (da_cons (dv 2) da_nil)) hx) (dg_t rfl (dgs_c (dg_n 3 nd) (dgs_c (dg_n 2 nd) dgs_0))))
  (dss_cons (ds_appL 1 (dv 3))
  (dss_one (ds_if (dt_cmp op_lt f_lt (dv 2) (de_callB call_len f_len rfl T.fr_len boot_len (da_cons (dv 0) da_nil)) (nomark _)) (dss_cons (ds_if (dt_cmp (op_eqD hr.units) f_eq (de_ix (dv 0) (dv 2)) de_str (nomark _)) (dss_one (ds_appN 1)) (dss_one (ds_if (dw_t (dw_or (dt_cmp (op_neD hr.units) f_ne (de_ix (dv 0) (dv 2)) de_str (nomark _)) (dw_or1 (dt_cmp (op_eqD hr.units) f_eq (de_op op_addA f_add (dv 2) de_int) (de_callB call_len f_len rfl T.fr_len boot_len (da_cons (dv 0) da_nil)) (nomark _))))) (dss_one (ds_rsN T.e_NoBook tk)) dss_nil)))
  (dss_one (ds_set 2 nd (de_op op_addA f_add (dv 2) de_int)))) dss_nil)))))
  (dss_one (ds_retN2 1)))))
theorem ok_read (T : Txt K mg) (h_need_book : DdN P w K mg base "need_book" 4 ["book"] f_need_book) (h_rows_of : DdN P w K mg base "rows_of" 2 ["line"] f_rows_of) : DdN P w K mg base "read" 5 ["line"] f_read := by
  refine dd_okN (kk := 4) (body := b_read) T.d_read sc_read rfl rfl fun f cdv A outer s H E hr tk hp hx => ?_
  have nd := sc_read.nd
  exact (dss_cons (ds_if (dt_not (dt_v (de_isi kit_str boot_str rfl T.fr_isinstance rfl T.fr_str (dv 0)))) (dss_one (ds_rsN T.e_NoBook tk)) dss_nil)
  (dss_cons (ds_set 1 nd (de_fnN h_rows_of hr (da_cons (dv 0) da_nil) hx))
  (dss_one (ds_ret (de_fnN h_need_book hr (da_cons (de_tup (da_cons (de_lc (own := [("row", 2)]) rfl nd (di_e (de_sl (dv 1) dp_none (dp_some (de_neg de_int)))) (blkOk_by (own := [("row", 2)]) (by show blkC ["line", "rows", "row"] (defScope s_read) _ _ = true; decide +kernel)) (fun _ _ _ _ _ => (dg_n 2 nd)) (fun _ _ _ _ _ => dts_0) (fun _ _ _ _ _ => (de_callTy call_tuple_of f_tuple rfl T.fr_tuple boot_tuple (da_cons (dv 2) da_nil)))) (da_cons (de_ix (dv 1) (de_neg de_int)) da_nil))) da_nil) hx)))))
theorem ok__law_cell_at (T : Txt K mg)  : DdN P w K mg base "_law_cell_at" 1 ["_law_script", "_law_k"] f__law_cell_at := by
  refine dd_okN (kk := 0) (body := b__law_cell_at) T.d__law_cell_at sc__law_cell_at rfl rfl fun f cdv A outer s H E hr tk hp hx => ?_
  have nd := sc__law_cell_at.nd
  exact (dss_cons (ds_if (dt_cmp op_lt f_lt (dv 1) (de_callB call_len f_len rfl T.fr_len boot_len (da_cons (dv 0) da_nil)) (nomark _)) (dss_one (ds_ret (de_ix (dv 0) (dv 1)))) dss_nil)
  (dss_one (ds_ret de_int)))
theorem ok__law_symbol (T : Txt K mg)  : DdN P w K mg base "_law_symbol" 1 ["_law_cell", "_law_many"] f__law_symbol := by
  refine dd_okN (kk := 0) (body := b__law_symbol) T.d__law_symbol sc__law_symbol rfl rfl fun f cdv A outer s H E hr tk hp hx => ?_
  have nd := sc__law_symbol.nd
  exact (dss_cons (ds_if (dw_t (dw_or (dt_cmp (op_eqD hr.units) f_eq (dv 1) de_int (nomark _)) (dw_or1 (dt_cmp (op_eqD hr.units) f_eq (de_op op_mod f_mod (dv 0) de_int) de_int (nomark _))))) (dss_one (ds_ret (de_op op_addA f_add de_str (de_ix de_str (de_op op_mod f_mod (de_op op_fdiv f_fdiv (dv 0) de_int) de_int))))) dss_nil)
  (dss_one (ds_ret (de_callTy call_str_int f_str rfl T.fr_str boot_str (da_cons (de_op op_mod f_mod (de_op op_fdiv f_fdiv (dv 0) de_int) (dv 1)) da_nil)))))
theorem ok__law_rows (T : Txt K mg) (h__law_cell_at : DdN P w K mg base "_law_cell_at" 1 ["_law_script", "_law_k"] f__law_cell_at) (h__law_symbol : DdN P w K mg base "_law_symbol" 1 ["_law_cell", "_law_many"] f__law_symbol) : DdNO P w K mg base "_law_rows" 2 ["_law_script", "_law_many"] f__law_rows := by
  refine dd_okNO (kk := 1) (body := b__law_rows) T.d__law_rows sc__law_rows rfl rfl fun f cdv A outer s H E hr tk hp hx => ?_
  have nd := sc__law_rows.nd
  exact (dsso_cons (ds_setO 2 nd (do_lst da_nil))
  (dsso_cons (ds_for hp rfl (di_rg1 rfl T.fr_range (da_cons (dv 1) da_nil) (one := len1)) (dg_n 3 nd)
  (dss_cons (ds_set 5 nd (de_fnN h__law_symbol hr (da_cons (de_fnN h__law_cell_at hr (da_cons (dv 0) (da_cons (de_op op_addA f_add de_int (de_op op_mulA f_mul de_int (dv 3))) da_nil)) hx) (da_cons (dv 3) da_nil)) hx))
  (dss_one (ds_app 2 (de_lst (da_cons (dv 5) (da_cons (de_fnN h__law_symbol hr (da_cons (de_fnN h__law_cell_at hr (da_cons (dv 0) (da_cons (de_op op_addA f_add de_int (de_op op_mulA f_mul de_int (dv 3))) da_nil)) hx) (da_cons (dv 3) da_nil)) hx) da_nil)))))))
  (dsso_cons (ds_setO 4 nd (do_lst da_nil))
  (dsso_cons (ds_for hp rfl (di_rg1 rfl T.fr_range (da_cons (de_op op_mod f_mod (de_op op_fdiv f_fdiv (de_fnN h__law_cell_at hr (da_cons (dv 0) (da_cons de_int da_nil)) hx) de_int) de_int) da_nil) (one := len1)) (dg_n 3 nd)
  (dss_one (ds_app 4 (de_fnN h__law_symbol hr (da_cons (de_fnN h__law_cell_at hr (da_cons (dv 0) (da_cons (de_op op_addA f_add de_int (dv 3)) da_nil)) hx) (da_cons (dv 1) da_nil)) hx))))
  (dsso_ret (dv 2) (de_lst (da_cons (dv 4) da_nil)))))))
theorem ok__law_spoilt (T : Txt K mg)  : DdN P w K mg base "_law_spoilt" 1 ["_law_rows_here", "_law_cell", "_law_many"] f__law_spoilt := by
  refine dd_okN (kk := 0) (body := b__law_spoilt) T.d__law_spoilt sc__law_spoilt rfl rfl fun f cdv A outer s H E hr tk hp hx => ?_
  have nd := sc__law_spoilt.nd
  exact (dss_cons (ds_set 3 nd (de_op op_mod f_mod (de_op op_fdiv f_fdiv (dv 1) de_int) (dv 2)))
  (dss_cons (ds_set 4 nd (de_op op_mod f_mod (de_op op_fdiv f_fdiv (dv 1) de_int) de_int))
  (dss_cons (ds_set 5 nd (de_ix (de_lst (da_cons de_str (da_cons de_str (da_cons de_str (da_cons de_str (da_cons (de_callTy call_str_int f_str rfl T.fr_str boot_str (da_cons (de_op op_addA f_add (dv 2) (dv 3)) da_nil)) (da_cons de_str (da_cons de_str (da_cons de_str (da_cons (de_callTy call_str_int f_str rfl T.fr_str boot_str (da_cons (dv 3) da_nil)) (da_cons de_str da_nil))))))))))) (de_op op_mod f_mod (dv 1) de_int)))
  (dss_cons (ds_set 6 nd (de_lst (da_cons (dv 5) (da_cons (de_ix (de_ix (dv 0) (dv 3)) de_int) da_nil))))
  (dss_cons (ds_if (dt_cmp (op_eqD hr.units) f_eq (dv 4) de_int (nomark _)) (dss_one (ds_set 6 nd (de_lst (da_cons (de_ix (de_ix (dv 0) (dv 3)) de_int) (da_cons (dv 5) da_nil))))) dss_nil)
  (dss_one (ds_ret (de_op op_addA f_add (de_op op_addA f_add (de_sl (dv 0) dp_none (dp_some (dv 3))) (de_lst (da_cons (dv 6) da_nil))) (de_sl (dv 0) (dp_some (de_op op_addA f_add (dv 3) de_int)) dp_none)))))))))
theorem ok__law_last (T : Txt K mg)  : DdN P w K mg base "_law_last" 1 ["_law_rows_here", "_law_cell", "_law_many"] f__law_last := by
  refine dd_okN (kk := 0) (body := b__law_last) T.d__law_last sc__law_last rfl rfl fun f cdv A outer s H E hr tk hp hx => ?_
  have nd := sc__law_last.nd
  exact (dss_cons (ds_set 3 nd (de_ix (de_lst (da_cons de_str (da_cons de_str (da_cons de_str (da_cons de_str (da_cons (de_callTy call_str_int f_str rfl T.fr_str boot_str (da_cons (dv 2) da_nil)) (da_cons (de_callTy call_str_int f_str rfl T.fr_str boot_str (da_cons (de_op op_addA f_add (dv 2) de_int) da_nil)) (da_cons de_str (da_cons de_str (da_cons de_str (da_cons de_str da_nil))))))))))) (de_op op_mod f_mod (dv 1) de_int)))
  (dss_cons (ds_set 4 nd (de_op op_mod f_mod (de_op op_fdiv f_fdiv (dv 1) de_int) (de_op op_addA f_add (de_callB call_len f_len rfl T.fr_len boot_len (da_cons (de_ix (dv 0) (de_neg de_int)) da_nil)) de_int)))
  (dss_one (ds_ret (de_op op_addA f_add (de_sl (dv 0) dp_none (dp_some (de_neg de_int))) (de_lst (da_cons (de_op op_addA f_add (de_op op_addA f_add (de_sl (de_ix (dv 0) (de_neg de_int)) dp_none (dp_some (dv 4))) (de_lst (da_cons (dv 3) da_nil))) (de_sl (de_ix (dv 0) (de_neg de_int)) (dp_some (dv 4)) dp_none)) da_nil)))))))
theorem ok__law_line (T : Txt K mg)  : DdN P w K mg base "_law_line" 1 ["_law_rows_here"] f__law_line := by
  refine dd_okN (kk := 0) (body := b__law_line) T.d__law_line sc__law_line rfl rfl fun f cdv A outer s H E hr tk hp hx => ?_
  have nd := sc__law_line.nd
  exact (dss_one (ds_ret (de_join de_str (de_lc (own := [("_law_row", 1)]) rfl nd (di_e (dv 0)) (blkOk_by (own := [("_law_row", 1)]) (by show blkC ["_law_rows_here", "_law_row"] (defScope s__law_line) _ _ = true; decide +kernel)) (fun _ _ _ _ _ => (dg_n 1 nd)) (fun _ _ _ _ _ => dts_0) (fun _ _ _ _ _ => (de_join de_str (dv 1)))))))
theorem ok__law_cut (T : Txt K mg) (h__law_refused : DdN P w K mg base "_law_refused" 6 ["_law_line_here"] f__law_refused) (h__law_line : DdN P w K mg base "_law_line" 1 ["_law_rows_here"] f__law_line) : DdN P w K mg base "_law_cut" 7 ["_law_rows_here"] f__law_cut := by
  refine dd_okN (kk := 6) (body := b__law_cut) T.d__law_cut sc__law_cut rfl rfl fun f cdv A outer s H E hr tk hp hx => ?_
  have nd := sc__law_cut.nd
  exact (dss_cons (ds_set 1 nd (de_fnN h__law_line hr (da_cons (dv 0) da_nil) hx))
  (dss_cons (ds_if (dt_not (dt_v (de_fnN h__law_refused hr (da_cons (de_op op_addA f_add (dv 1) de_str) da_nil) hx))) (dss_one (ds_ret de_bl)) dss_nil)
  (dss_cons (ds_if (dw_t (dw_and (dt_cmp op_gt f_gt (de_callB call_len f_len rfl T.fr_len boot_len (da_cons (de_ix (dv 0) (de_neg de_int)) da_nil)) de_int (nomark _)) (dw_and1 (dt_cmp (op_eqD hr.units) f_eq (de_ix (de_ix (de_ix (dv 0) (de_neg de_int)) (de_neg de_int)) de_int) de_str (nomark _))))) (dss_one (ds_ret (de_fnN h__law_refused hr (da_cons (de_sl (dv 1) dp_none (dp_some (de_neg de_int))) da_nil) hx))) dss_nil)
  (dss_one (ds_ret de_bl)))))
theorem okH_is_number (T : Txt K mg)  : DdH P w K mg base "is_number" 1 ["thing"] f_is_number := by
  refine dd_okH (kk := 0) (body := b_is_number) T.d_is_number sc_is_number rfl rfl fun f cdv A outer s H E pp hc hr tk hp hx => ?_
  have nd := sc_is_number.nd
  exact (dss_one (ds_ret (de_and (de_isi kit_int boot_int rfl T.fr_isinstance rfl T.fr_int (dv 0)) (de_and (de_not (de_isi kit_bool boot_bool rfl T.fr_isinstance rfl T.fr_bool (dv 0))) (de_one (de_cmp op_ge f_ge (dv 0) de_int (nomark _)))))))
theorem okH_is_symbol (T : Txt K mg) (hH_is_number : DdH P w K mg base "is_number" 1 ["thing"] f_is_number) : DdH P w K mg base "is_symbol" 2 ["thing", "many"] f_is_symbol := by
  refine dd_okH (kk := 1) (body := b_is_symbol) T.d_is_symbol sc_is_symbol rfl rfl fun f cdv A outer s H E pp hc hr tk hp hx => ?_
  have nd := sc_is_symbol.nd
  exact (dss_cons (ds_if (dt_v (de_isi kit_str boot_str rfl T.fr_isinstance rfl T.fr_str (dv 0))) (dss_one (ds_ret (de_cmp (op_eqD hr.units) f_eq (de_callB call_len f_len rfl T.fr_len boot_len (da_cons (dv 0) da_nil)) de_int (nomark _)))) dss_nil)
  (dss_one (ds_ret (de_and (de_fnH hH_is_number hc hr (da_cons (dv 0) da_nil) hx) (de_one (de_cmp op_lt f_lt (dv 0) (dv 1) (nomark _)))))))
theorem okH_is_rule (T : Txt K mg) (hH_is_symbol : DdH P w K mg base "is_symbol" 2 ["thing", "many"] f_is_symbol) : DdH P w K mg base "is_rule" 3 ["thing", "many"] f_is_rule := by
  refine dd_okH (kk := 2) (body := b_is_rule) T.d_is_rule sc_is_rule rfl rfl fun f cdv A outer s H E pp hc hr tk hp hx => ?_
  have nd := sc_is_rule.nd
  exact (dss_cons (ds_if (dw_t (dw_or (dt_not (dt_v (de_isi kit_tup boot_tuple rfl T.fr_isinstance rfl T.fr_tuple (dv 0)))) (dw_or1 (dt_cmp (op_neD hr.units) f_ne (de_callB call_len f_len rfl T.fr_len boot_len (da_cons (dv 0) da_nil)) de_int (nomark _))))) (dss_one (ds_ret de_bl)) dss_nil)
  (dss_one (ds_ret (de_and (de_fnH hH_is_symbol hc hr (da_cons (de_ix (dv 0) de_int) (da_cons (dv 1) da_nil)) hx) (de_one (de_fnH hH_is_symbol hc hr (da_cons (de_ix (dv 0) de_int) (da_cons (dv 1) da_nil)) hx))))))
theorem okH_need_book (T : Txt K mg) (hH_is_symbol : DdH P w K mg base "is_symbol" 2 ["thing", "many"] f_is_symbol) (hH_is_rule : DdH P w K mg base "is_rule" 3 ["thing", "many"] f_is_rule) : DdH P w K mg base "need_book" 4 ["book"] f_need_bookH := by
  refine dd_okH (kk := 3) (body := b_need_bookH) T.d_need_book sc_need_book rfl rfl fun f cdv A outer s H E pp hc hr tk hp hx => ?_
  have nd := sc_need_book.nd
  exact (dss_cons (ds_if (dw_t (dw_or (dt_not (dt_v (de_isi kit_tup boot_tuple rfl T.fr_isinstance rfl T.fr_tuple (dv 0)))) (dw_or1 (dt_cmp (op_neD hr.units) f_ne (de_callB call_len f_len rfl T.fr_len boot_len (da_cons (dv 0) da_nil)) de_int (nomark _))))) (dss_one (ds_rsH T.e_NoBook tk hc)) dss_nil)
  (dss_cons (ds_asg (dv 0) (dg_tH hc (dgs_c (dg_n 2 nd) (dgs_c (dg_n 3 nd) dgs_0))))
  (dss_cons (ds_if (dw_t (dw_or (dt_not (dt_v (de_isi kit_list boot_list rfl T.fr_isinstance rfl T.fr_list (dv 2)))) (dw_or1 (dt_not (dt_v (de_isi kit_list boot_list rfl T.fr_isinstance rfl T.fr_list (dv 3))))))) (dss_one (ds_rsH T.e_NoBook tk hc)) dss_nil)
  (dss_cons (ds_if (dw_t (dw_or (dt_cmp op_gt f_gt (de_callB call_len f_len rfl T.fr_len boot_len (da_cons (dv 2) da_nil)) (de_gint' T.c_MOST_RULES) (nomark _)) (dw_or1 (dt_cmp op_gt f_gt (de_callB call_len f_len rfl T.fr_len boot_len (da_cons (dv 3) da_nil)) (de_gint' T.c_MOST_ROW) (nomark _))))) (dss_one (ds_rsH T.e_NoBook tk hc)) dss_nil)
  (dss_cons (ds_forH hp hc (di_enumH rfl T.fr_enumerate (da_cons (dv 2) da_nil)) (dg_tH hc (dgs_c (dg_n 4 nd) (dgs_c (dg_n 5 nd) dgs_0)))
  (dss_one (ds_if (dt_not (dt_v (de_fnH hH_is_rule hc hr (da_cons (dv 5) (da_cons (dv 4) da_nil)) hx))) (dss_one (ds_rsH T.e_NoBook tk hc)) dss_nil)))
  (dss_cons (ds_forH hp hc (di_eH (dv 3)) (dg_n 1 nd)
  (dss_one (ds_if (dt_not (dt_v (de_fnH hH_is_symbol hc hr (da_cons (dv 1) (da_cons (de_callB call_len f_len rfl T.fr_len boot_len (da_cons (dv 2) da_nil)) da_nil)) hx))) (dss_one (ds_rsH T.e_NoBook tk hc)) dss_nil)))
  (dss_one (ds_ret (dv 0)))))))))
theorem okH_symbol_at (T : Txt K mg)  : DdH P w K mg base "symbol_at" 1 ["line", "at"] f_symbol_at := by
  refine dd_okH (kk := 0) (body := b_symbol_at) T.d_symbol_at sc_symbol_at rfl rfl fun f cdv A outer s H E pp hc hr tk hp hx => ?_
  have nd := sc_symbol_at.nd
  exact (dss_cons (ds_if (dt_cmp (op_eqD hr.units) f_eq (de_ix (dv 0) (dv 1)) de_str (nomark _)) (dss_cons (ds_if (dt_cmp (op_eqD hr.units) f_eq (de_op op_addA f_add (dv 1) de_int) (de_callB call_len f_len rfl T.fr_len boot_len (da_cons (dv 0) da_nil)) (nomark _)) (dss_one (ds_rsH T.e_NoBook tk hc)) dss_nil)
  (dss_one (ds_ret (de_tup (da_cons (de_ix (dv 0) (de_op op_addA f_add (dv 1) de_int)) (da_cons (de_op op_addA f_add (dv 1) de_int) da_nil)))))) dss_nil)
  (dss_cons (ds_set 2 nd (dv 1))
  (dss_cons (ds_while (fun _ => 1000000000) hp (dw_t (dw_and (dt_cmp op_lt f_lt (dv 2) (de_callB call_len f_len rfl T.fr_len boot_len (da_cons (dv 0) da_nil)) (nomark _)) (dw_and1 (dt_cmp (op_inA hr.u65) f_in (de_ix (dv 0) (dv 2)) (de_gstr' T.c_FIGURES) (by rfl))))) (dss_one (ds_set 2 nd (de_op op_addA f_add (dv 2) de_int))))
  (dss_cons (ds_if (dw_t (dw_or (dt_cmp (op_eqD hr.units) f_eq (dv 2) (dv 1) (nomark _)) (dw_or (dw_t (dw_and (dt_cmp (op_eqD hr.units) f_eq (de_ix (dv 0) (dv 1)) de_str (nomark _)) (dw_and1 (dt_cmp op_gt f_gt (dv 2) (de_op op_addA f_add (dv 1) de_int) (nomark _))))) (dw_or1 (dt_cmp op_gt f_gt (dv 2) (de_op op_addA f_add (dv 1) de_int) (nomark _)))))) (dss_one (ds_rsH T.e_NoBook tk hc)) dss_nil)
  (dss_one (ds_ret (de_tup (da_cons (de_callTy call_intA f_intA rfl T.fr_int boot_int (da_cons (de_sl (dv 0) (dp_some (dv 1)) (dp_some (dv 2))) da_nil)) (da_cons (dv 2) da_nil)))))))))
theorem okH_rows_of (T : Txt K mg) (hH_symbol_at : DdH P w K mg base "symbol_at" 1 ["line", "at"] f_symbol_at) : DdH P w K mg base "rows_of" 2 ["line"] f_rows_of := by
  refine dd_okH (kk := 1) (body := b_rows_of) T.d_rows_of sc_rows_of rfl rfl fun f cdv A outer s H E pp hc hr tk hp hx => ?_
  have nd := sc_rows_of.nd
  exact (dss_cons (ds_setN 1 nd)
  (dss_cons (ds_set 2 nd de_int)
  (dss_cons (ds_while (fun _ => 1000000000) hp (dt_cmp op_lt f_lt (dv 2) (de_callB call_len f_len rfl T.fr_len boot_len (da_cons (dv 0) da_nil)) (nomark _)) (dss_cons (ds_asg (de_fnH hH_symbol_at hc hr (da_cons (dv 0) (da_cons (dv 2) da_nil)) hx) (dg_tH hc (dgs_c (dg_n 3 nd) (dgs_c (dg_n 2 nd) dgs_0))))
  (dss_cons (ds_appL 1 (dv 3))
  (dss_one (ds_if (dt_cmp op_lt f_lt (dv 2) (de_callB call_len f_len rfl T.fr_len boot_len (da_cons (dv 0) da_nil)) (nomark _)) (dss_cons (ds_if (dt_cmp (op_eqD hr.units) f_eq (de_ix (dv 0) (dv 2)) de_str (nomark _)) (dss_one (ds_appN 1)) (dss_one (ds_if (dw_t (dw_or (dt_cmp (op_neD hr.units) f_ne (de_ix (dv 0) (dv 2)) de_str (nomark _)) (dw_or1 (dt_cmp (op_eqD hr.units) f_eq (de_op op_addA f_add (dv 2) de_int) (de_callB call_len f_len rfl T.fr_len boot_len (da_cons (dv 0) da_nil)) (nomark _))))) (dss_one (ds_rsH T.e_NoBook tk hc)) dss_nil)))
  (dss_one (ds_set 2 nd (de_op op_addA f_add (dv 2) de_int)))) dss_nil)))))
  (dss_one (ds_retN2 1)))))
theorem okH_read (T : Txt K mg) (hH_need_book : DdH P w K mg base "need_book" 4 ["book"] f_need_bookH) (hH_rows_of : DdH P w K mg base "rows_of" 2 ["line"] f_rows_of) : DdH P w K mg base "read" 5 ["line"] f_readH := by
  refine dd_okH (kk := 4) (body := b_readH) T.d_read sc_read rfl rfl fun f cdv A outer s H E pp hc hr tk hp hx => ?_
  have nd := sc_read.nd
  exact (dss_cons (ds_if (dt_not (dt_v (de_isi kit_str boot_str rfl T.fr_isinstance rfl T.fr_str (dv 0)))) (dss_one (ds_rsH T.e_NoBook tk hc)) dss_nil)
  (dss_cons (ds_set 1 nd (de_fnH hH_rows_of hc hr (da_cons (dv 0) da_nil) hx))
  (dss_one (ds_ret (de_fnH hH_need_book hc hr (da_cons (de_tup (da_cons (de_lcH (own := [("row", 2)]) hc nd (di_eB (de_sl (dv 1) dp_none (dp_some (de_neg de_int)))) (blkOk_by (own := [("row", 2)]) (by show blkC ["line", "rows", "row"] (defScope s_read) _ _ = true; decide +kernel)) (fun _ _ _ _ _ => (dg_n 2 nd)) (fun _ _ _ _ _ => dts_0) (fun _ _ _ _ _ => (de_callTy call_tuple_of f_tuple rfl T.fr_tuple boot_tuple (da_cons (dv 2) da_nil)))) (da_cons (de_ix (dv 1) (de_neg de_int)) da_nil))) da_nil) hx)))))
theorem ok_suite {f : Addr} {cdv : Value} {A : Around} {outer : List Env} {s : Shared} {H : Hp} {E : XK} {B C : Addr} (tI : mg "isinstance" = none) (tV : mg "ValueError" = none) (c : W8 K B C) (a : Addr) (oe : Obj) (pn : List (Addr × Obj)) (a2 : Addr) (oe2 : Obj) (pn2 : List (Addr × Obj)) (hz : Zc (.ref C) none oe2) (hv : ∃ vs, oe2.data = .fields vs) :
    PSs (((XfN P w K mg base ["_law_line_here", "e"] "_law_refused" s__law_refused f cdv A outer s H E).suite a ((a, oe) :: pn)).suite a2 ((a2, oe2) :: pn2)) (suiteOf (defBody s__law_refused)) (tR 1 a2 2) := by
  have nd := sc__law_refused.nd
  let P1 : L2.St → Prop := fun σ => σ.length = 2 ∧ σ[1]? = some (some (.ref a2))
  refine pss_wk (pss_one (ps_ret (X := (((XfN P w K mg base ["_law_line_here", "e"] "_law_refused" s__law_refused f cdv A outer s H E).suite a ((a, oe) :: pn)).suite a2 ((a2, oe2) :: pn2))) (pev_id (P := P1) (pev_is (X := ((XfN P w K mg base ["_law_line_here", "e"] "_law_refused" s__law_refused f cdv A outer s H E).suite a ((a, oe) :: pn))) c.x hz hv (i := 1) (n := "e") (fun σ h => h.2) rfl tI rfl (.inl rfl) (pe_bltn (v := .ty "ValueError") rfl tV rfl rfl) (fun _ h => h) c.kv)))) fun D σ H h => ?_
  exact h
theorem ok__law_refused (T : Txt K mg) (h_read : DdN P w K mg base "read" 5 ["line"] f_read) (hH_read : DdH P w K mg base "read" 5 ["line"] f_readH) : DdN P w K mg base "_law_refused" 6 ["_law_line_here"] f__law_refused := by
  refine dd_okN (kk := 5) (body := b__law_refused) T.d__law_refused sc__law_refused rfl rfl fun f cdv A outer s H E hr tk hp hx => ?_
  have nd := sc__law_refused.nd
  obtain ⟨B, No, gB, gN, c⟩ := T.w_r
  exact (dss_cons (ds_refused (X := (XfN P w K mg base ["_law_line_here", "e"] "_law_refused" s__law_refused f cdv A outer s H E)) (x1 := "NoBook") (x2 := "BookError") (n := "e") (k := "NoBook") (c1 := No) (c2 := B) (C := No) (i := 1) rfl rfl nd rfl rfl ⟨rfl, by decide, .inl gN⟩ ⟨rfl, by decide, .inl gB⟩ tk
    ((da_cons (dv 0) da_nil) : DA (XfN P w K mg base ["_law_line_here", "e"] "_law_refused" s__law_refused f cdv A outer s H E) ET [.Name "_law_line_here" ⟨0, 0, 0, 0⟩] (mCons (mV 0) mNil)).tn ((da_cons (dv 0) da_nil) : DA (XfN P w K mg base ["_law_line_here", "e"] "_law_refused" s__law_refused f cdv A outer s H E) ET [.Name "_law_line_here" ⟨0, 0, 0, 0⟩] (mCons (mV 0) mNil)).tn
    (fun W pn xe t => ps_callS (X := (XfN P w K mg base ["_law_line_here", "e"] "_law_refused" s__law_refused f cdv A outer s H E).tr pn xe) h_read hr t (da_cons (dv 0) da_nil))
    (fun a oe pn W pn2 xe hc t => ps_callSH (X := ((XfN P w K mg base ["_law_line_here", "e"] "_law_refused" s__law_refused f cdv A outer s H E).suite a ((a, oe) :: pn)).tr pn2 xe) (kr := 5) hH_read hc ⟨hr.dp, hr.un⟩ t (da_cons (dv 0) da_nil))
    gN c.n c.m (fun a oe pn a2 oe2 pn2 hz hv => ok_suite T.fr_isinstance T.fr_ValueError c a oe pn a2 oe2 pn2 hz hv))
  (dss_one (ds_ret de_bl)))
theorem ok_law {f : Addr} {fd : FuncData} (F : Fun K "law" "law" s_law f fd) (T : Txt K mg) (h_read : DdN P w K mg base "read" 5 ["line"] f_read) (h__law_cell_at : DdN P w K mg base "_law_cell_at" 1 ["_law_script", "_law_k"] f__law_cell_at) (h__law_refused : DdN P w K mg base "_law_refused" 6 ["_law_line_here"] f__law_refused) (h__law_rows : DdNO P w K mg base "_law_rows" 2 ["_law_script", "_law_many"] f__law_rows) (h__law_spoilt : DdN P w K mg base "_law_spoilt" 1 ["_law_rows_here", "_law_cell", "_law_many"] f__law_spoilt) (h__law_last : DdN P w K mg base "_law_last" 1 ["_law_rows_here", "_law_cell", "_law_many"] f__law_last) (h__law_line : DdN P w K mg base "_law_line" 1 ["_law_rows_here"] f__law_line) (h__law_cut : DdN P w K mg base "_law_cut" 7 ["_law_rows_here"] f__law_cut) : FnOk P w K mg base (L2N.CX P w) 8 f fd ["_law_script"] (spD K mg f_law) := by
  refine dd_atN (kk := 7) (body := b_law) F sc_law rfl rfl fun f cdv A outer s H E hr tk hp hx => ?_
  have nd := sc_law.nd
  exact (dss_cons (ds_set 1 nd (de_op op_addA f_add de_int (de_op op_mod f_mod (de_fnN h__law_cell_at hr (da_cons (dv 0) (da_cons de_int da_nil)) hx) de_int)))
  (dss_cons (ds_set 2 nd (de_fnN h__law_cell_at hr (da_cons (dv 0) (da_cons de_int da_nil)) hx))
  (dss_cons (ds_setO 3 nd (do_fnN h__law_rows hr (da_cons (dv 0) (da_cons (dv 1) da_nil)) hx))
  (dss_cons (ds_set 4 nd (de_ix (de_lst (da_cons de_int (da_cons de_int (da_cons de_int (da_cons de_int (da_cons de_int (da_cons de_int (da_cons de_int (da_cons de_int (da_cons de_int da_nil)))))))))) (de_op op_mod f_mod (dv 2) de_int)))
  (dss_cons (ds_set 5 nd (de_op op_fdiv f_fdiv (dv 2) de_int))
  (dss_cons (ds_if (dt_cmp (op_eqD hr.units) f_eq (dv 4) de_int (nomark _)) (dss_cons (ds_set 8 nd (de_fnN h_read hr (da_cons (de_fnN h__law_line hr (da_cons (dv 3) da_nil) hx) da_nil) hx))
  (dss_one (ds_ret (de_and (de_isi kit_tup boot_tuple rfl T.fr_isinstance rfl T.fr_tuple (dv 8)) (de_and (de_cmp (op_eqD hr.units) f_eq (de_callB call_len f_len rfl T.fr_len boot_len (da_cons (de_ix (dv 8) de_int) da_nil)) (dv 1) (nomark _)) (de_one (de_cmp (op_eqD hr.units) f_eq (de_callB call_len f_len rfl T.fr_len boot_len (da_cons (de_ix (dv 8) de_int) da_nil)) (de_callB call_len f_len rfl T.fr_len boot_len (da_cons (de_ixO 3 (de_neg de_int)) da_nil)) (nomark _)))))))) dss_nil)
  (dss_cons (ds_if (dt_cmp (op_eqD hr.units) f_eq (dv 4) de_int (nomark _)) (dss_one (ds_ret (de_fnN h__law_refused hr (da_cons (de_ix (de_lst (da_cons de_non (da_cons de_int (da_cons (de_lst (da_cons de_str da_nil)) (da_cons (de_tup (da_cons de_str (da_cons de_str da_nil))) (da_cons de_bl (da_cons (de_lst da_nil) da_nil))))))) (de_op op_mod f_mod (dv 5) de_int)) da_nil) hx))) dss_nil)
  (dss_cons (ds_if (dw_t (dw_and (dt_cmp (op_eqD hr.units) f_eq (dv 4) de_int (nomark _)) (dw_and1 (dt_cmp (op_eqD hr.units) f_eq (de_op op_mod f_mod (dv 5) de_int) de_int (nomark _))))) (dss_one (ds_ret (de_and (de_fnN h__law_refused hr (da_cons (de_fnN h__law_line hr (da_cons (de_fnN h__law_last hr (da_cons (dv 3) (da_cons (de_op op_fdiv f_fdiv (dv 5) de_int) (da_cons (dv 1) da_nil))) hx) da_nil) hx) da_nil) hx) (de_one (de_fnN h__law_cut hr (da_cons (dv 3) da_nil) hx))))) dss_nil)
  (dss_cons (ds_if (dt_cmp (op_eqD hr.units) f_eq (dv 4) de_int (nomark _)) (dss_one (ds_ret (de_fnN h__law_refused hr (da_cons (de_fnN h__law_line hr (da_cons (de_fnN h__law_spoilt hr (da_cons (dv 3) (da_cons (de_op op_fdiv f_fdiv (dv 5) de_int) (da_cons (dv 1) da_nil))) hx) da_nil) hx) da_nil) hx))) dss_nil)
  (dss_cons (ds_set 6 nd (de_op op_mod f_mod (de_op op_fdiv f_fdiv (dv 5) de_int) (dv 1)))
  (dss_cons (ds_if (dt_cmp (op_eqD hr.units) f_eq (dv 4) de_int (nomark _)) (dss_cons (ds_setIx 3 (de_op op_addA f_add (de_sl (de_ixO 3 (dv 6)) dp_none (dp_some de_int)) (de_sl (de_lst (da_cons de_str (da_cons de_str da_nil))) dp_none (dp_some (de_op op_mulA f_mul de_int (de_op op_mod f_mod (dv 5) de_int))))) (dv 6))
  (dss_one (ds_ret (de_fnN h__law_refused hr (da_cons (de_fnN h__law_line hr (da_cons (dv 3) da_nil) hx) da_nil) hx)))) dss_nil)
  (dss_cons (ds_set 7 nd (de_fnN h__law_line hr (da_cons (dv 3) da_nil) hx))
  (dss_cons (ds_if (dt_cmp (op_eqD hr.units) f_eq (dv 4) de_int (nomark _)) (dss_cons (ds_if (dw_t (dw_and (dt_cmp (op_eqD hr.units) f_eq (de_op op_mod f_mod (dv 5) de_int) de_int (nomark _)) (dw_and1 (dt_cmp (op_neD hr.units) f_ne (de_callB call_len f_len rfl T.fr_len boot_len (da_cons (de_ixO 3 (de_neg de_int)) da_nil)) de_int (nomark _))))) (dss_one (ds_ret (de_fnN h__law_refused hr (da_cons (de_op op_addA f_add (dv 7) de_str) da_nil) hx))) dss_nil)
  (dss_one (ds_ret (de_fnN h__law_refused hr (da_cons (de_ix (de_lst (da_cons (de_op op_addA f_add de_str (dv 7)) (da_cons (de_op op_addA f_add de_str (dv 7)) (da_cons (de_op op_addA f_add de_str (dv 7)) (da_cons (de_op op_addA f_add de_str (dv 7)) da_nil))))) (de_op op_mod f_mod (dv 5) de_int)) da_nil) hx)))) dss_nil)
  (dss_cons (ds_if (dt_cmp (op_eqD hr.units) f_eq (de_op op_mod f_mod (dv 5) de_int) de_int (nomark _)) (dss_cons (ds_set 9 nd (de_ixO 3 (dv 6)))
  (dss_cons (ds_setIx 3 (de_ix (de_lst (da_cons (de_lst (da_cons (de_op op_addA f_add (de_ix (dv 9) de_int) de_str) (da_cons (de_ix (dv 9) de_int) da_nil))) (da_cons (de_lst (da_cons (de_op op_addA f_add (de_ix (dv 9) de_int) (de_ix (dv 9) de_int)) da_nil)) (da_cons (de_lst (da_cons (de_op op_addA f_add de_str (de_ix (dv 9) de_int)) (da_cons (de_ix (dv 9) de_int) da_nil))) da_nil)))) (de_op op_mod f_mod (de_op op_fdiv f_fdiv (dv 5) de_int) de_int)) (dv 6))
  (dss_one (ds_ret (de_fnN h__law_refused hr (da_cons (de_fnN h__law_line hr (da_cons (dv 3) da_nil) hx) da_nil) hx))))) dss_nil)
  (dss_cons (ds_if (dt_cmp (op_eqD hr.units) f_eq (de_op op_mod f_mod (dv 5) de_int) de_int (nomark _)) (dss_one (ds_ret (de_and (de_fnN h__law_refused hr (da_cons (de_op op_addA f_add (dv 7) de_str) da_nil) hx) (de_one (de_or (de_cmp (op_eqD hr.units) f_eq (de_callB call_len f_len rfl T.fr_len boot_len (da_cons (de_ixO 3 (de_neg de_int)) da_nil)) de_int (nomark _)) (de_one (de_fnN h__law_refused hr (da_cons (de_op op_addA f_add (dv 7) de_str) da_nil) hx))))))) dss_nil)
  (dss_cons (ds_if (dt_cmp (op_eqD hr.units) f_eq (de_op op_mod f_mod (dv 5) de_int) de_int (nomark _)) (dss_one (ds_ret (de_fnN h__law_refused hr (da_cons (de_ix (de_lst (da_cons (de_op op_mulA f_mul de_str de_int) (da_cons (de_op op_addA f_add (de_op op_addA f_add de_str (de_op op_mulA f_mul de_str de_int)) de_str) da_nil))) (de_op op_mod f_mod (de_op op_fdiv f_fdiv (dv 5) de_int) de_int)) da_nil) hx))) dss_nil)
  (dss_one (ds_ret (de_fnN h__law_refused hr (da_cons (de_op op_addA f_add (de_fnN h__law_line hr (da_cons (de_op op_addA f_add (de_sl (dv 3) dp_none (dp_some (de_neg de_int))) (de_lst (da_cons (de_lst (da_cons de_str da_nil)) (da_cons (de_lst (da_cons de_str da_nil)) da_nil)))) da_nil) hx) (de_ix (de_lst (da_cons de_str (da_cons de_str (da_cons de_str da_nil)))) (de_op op_mod f_mod (dv 5) de_int))) da_nil) hx)))))))))))))))))))
theorem ok_all {f : Addr} {fd : FuncData} (F : Fun K "law" "law" s_law f fd) (T : Txt K mg) : FnOk P w K mg base (L2N.CX P w) 8 f fd ["_law_script"] (spD K mg f_law) :=
  have h_is_number := ok_is_number (P := P) (w := w) (base := base) T 
  have h_is_symbol := ok_is_symbol (P := P) (w := w) (base := base) T h_is_number
  have h_is_rule := ok_is_rule (P := P) (w := w) (base := base) T h_is_symbol
  have h_need_book := ok_need_book (P := P) (w := w) (base := base) T h_is_symbol h_is_rule
  have h_symbol_at := ok_symbol_at (P := P) (w := w) (base := base) T 
  have h_rows_of := ok_rows_of (P := P) (w := w) (base := base) T h_symbol_at
  have h_read := ok_read (P := P) (w := w) (base := base) T h_need_book h_rows_of
  have h__law_cell_at := ok__law_cell_at (P := P) (w := w) (base := base) T 
  have h__law_symbol := ok__law_symbol (P := P) (w := w) (base := base) T 
  have hH_is_number := okH_is_number (P := P) (w := w) (base := base) T 
  have hH_is_symbol := okH_is_symbol (P := P) (w := w) (base := base) T hH_is_number
  have hH_is_rule := okH_is_rule (P := P) (w := w) (base := base) T hH_is_symbol
  have hH_need_book := okH_need_book (P := P) (w := w) (base := base) T hH_is_symbol hH_is_rule
  have hH_symbol_at := okH_symbol_at (P := P) (w := w) (base := base) T 
  have hH_rows_of := okH_rows_of (P := P) (w := w) (base := base) T hH_symbol_at
  have hH_read := okH_read (P := P) (w := w) (base := base) T hH_need_book hH_rows_of
  have h__law_refused := ok__law_refused (P := P) (w := w) (base := base) T h_read hH_read
  have h__law_rows := ok__law_rows (P := P) (w := w) (base := base) T h__law_cell_at h__law_symbol
  have h__law_spoilt := ok__law_spoilt (P := P) (w := w) (base := base) T 
  have h__law_last := ok__law_last (P := P) (w := w) (base := base) T 
  have h__law_line := ok__law_line (P := P) (w := w) (base := base) T 
  have h__law_cut := ok__law_cut (P := P) (w := w) (base := base) T h__law_refused h__law_line
  ok_law F T h_read h__law_cell_at h__law_refused h__law_rows h__law_spoilt h__law_last h__law_line h__law_cut
end
def hFn : List He.FnD := [⟨("is_number", none), "is_number", "is_number", defArgs s_is_number, defBody s_is_number, defScope s_is_number⟩, ⟨("is_symbol", none), "is_symbol", "is_symbol", defArgs s_is_symbol, defBody s_is_symbol, defScope s_is_symbol⟩, ⟨("is_rule", none), "is_rule", "is_rule", defArgs s_is_rule, defBody s_is_rule, defScope s_is_rule⟩, ⟨("need_book", none), "need_book", "need_book", defArgs s_need_book, defBody s_need_book, defScope s_need_book⟩, ⟨("symbol_at", none), "symbol_at", "symbol_at", defArgs s_symbol_at, defBody s_symbol_at, defScope s_symbol_at⟩, ⟨("rows_of", none), "rows_of", "rows_of", defArgs s_rows_of, defBody s_rows_of, defScope s_rows_of⟩, ⟨("read", none), "read", "read", defArgs s_read, defBody s_read, defScope s_read⟩, ⟨("_law_cell_at", none), "_law_cell_at", "_law_cell_at", defArgs s__law_cell_at, defBody s__law_cell_at, defScope s__law_cell_at⟩, ⟨("_law_symbol", none), "_law_symbol", "_law_symbol", defArgs s__law_symbol, defBody s__law_symbol, defScope s__law_symbol⟩, ⟨("_law_refused", none), "_law_refused", "_law_refused", defArgs s__law_refused, defBody s__law_refused, defScope s__law_refused⟩, ⟨("_law_rows", none), "_law_rows", "_law_rows", defArgs s__law_rows, defBody s__law_rows, defScope s__law_rows⟩, ⟨("_law_spoilt", none), "_law_spoilt", "_law_spoilt", defArgs s__law_spoilt, defBody s__law_spoilt, defScope s__law_spoilt⟩, ⟨("_law_last", none), "_law_last", "_law_last", defArgs s__law_last, defBody s__law_last, defScope s__law_last⟩, ⟨("_law_line", none), "_law_line", "_law_line", defArgs s__law_line, defBody s__law_line, defScope s__law_line⟩, ⟨("_law_cut", none), "_law_cut", "_law_cut", defArgs s__law_cut, defBody s__law_cut, defScope s__law_cut⟩, ⟨("law", none), "law", "law", defArgs s_law, defBody s_law, defScope s_law⟩]
def hFa : List He.Fa := [.glo "is_number", .keep "is_number", .glo "is_symbol", .keep "is_symbol", .glo "is_rule", .keep "is_rule", .glo "need_book", .keep "need_book", .glo "symbol_at", .keep "symbol_at", .glo "rows_of", .keep "rows_of", .glo "read", .keep "read", .glo "_law_cell_at", .keep "_law_cell_at", .glo "_law_symbol", .keep "_law_symbol", .glo "_law_refused", .keep "_law_refused", .glo "_law_rows", .keep "_law_rows", .glo "_law_spoilt", .keep "_law_spoilt", .glo "_law_last", .keep "_law_last", .glo "_law_line", .keep "_law_line", .glo "_law_cut", .keep "_law_cut", .glo "law", .keep "law", .glo "BookError", .exc "BookError", .glo "NoBook", .exc "NoBook", .int "MOST_RULES" 600, .int "MOST_ROW" 2000, .str "FIGURES" "0123456789", .free "bool", .free "enumerate", .free "int", .free "isinstance", .free "len", .free "list", .free "range", .free "str", .free "tuple", .free "ValueError"]
theorem txt_mk {K : PySem.W.Frag} {h : Heap} {mg : Str → Option Value} (X : K.In h) (G : h.Ns mainGlobals mg) (c : He.SaysE hFa hFn K) (xw : exR8 K = true) : Txt K mg := ⟨He.free_ok X G (c.fact 39 (f := .free "bool") rfl),
  He.free_ok X G (c.fact 40 (f := .free "enumerate") rfl),
  He.free_ok X G (c.fact 41 (f := .free "int") rfl),
  He.free_ok X G (c.fact 42 (f := .free "isinstance") rfl),
  He.free_ok X G (c.fact 43 (f := .free "len") rfl),
  He.free_ok X G (c.fact 44 (f := .free "list") rfl),
  He.free_ok X G (c.fact 45 (f := .free "range") rfl),
  He.free_ok X G (c.fact 46 (f := .free "str") rfl),
  He.free_ok X G (c.fact 47 (f := .free "tuple") rfl),
  He.int_ok X G (c.fact 36 (f := .int "MOST_RULES" 600) rfl),
  He.int_ok X G (c.fact 37 (f := .int "MOST_ROW" 2000) rfl),
  He.str_ok X G (c.fact 38 (f := .str "FIGURES" "0123456789") rfl),
  exc_mk X G c "BookError" 32 33,
  exc_mk X G c "NoBook" 34 35,
  df_mk X G c "is_number" s_is_number ["thing"] 0 0 1 (fun _ _ _ _ _ _ us hl => match us, hl with | [_], _ => rfl),
  df_mk X G c "is_symbol" s_is_symbol ["thing", "many"] 1 2 3 (fun _ _ _ _ _ _ us hl => match us, hl with | [_, _], _ => rfl),
  df_mk X G c "is_rule" s_is_rule ["thing", "many"] 2 4 5 (fun _ _ _ _ _ _ us hl => match us, hl with | [_, _], _ => rfl),
  df_mk X G c "need_book" s_need_book ["book"] 3 6 7 (fun _ _ _ _ _ _ us hl => match us, hl with | [_], _ => rfl),
  df_mk X G c "symbol_at" s_symbol_at ["line", "at"] 4 8 9 (fun _ _ _ _ _ _ us hl => match us, hl with | [_, _], _ => rfl),
  df_mk X G c "rows_of" s_rows_of ["line"] 5 10 11 (fun _ _ _ _ _ _ us hl => match us, hl with | [_], _ => rfl),
  df_mk X G c "read" s_read ["line"] 6 12 13 (fun _ _ _ _ _ _ us hl => match us, hl with | [_], _ => rfl),
  df_mk X G c "_law_cell_at" s__law_cell_at ["_law_script", "_law_k"] 7 14 15 (fun _ _ _ _ _ _ us hl => match us, hl with | [_, _], _ => rfl),
  df_mk X G c "_law_symbol" s__law_symbol ["_law_cell", "_law_many"] 8 16 17 (fun _ _ _ _ _ _ us hl => match us, hl with | [_, _], _ => rfl),
  df_mk X G c "_law_refused" s__law_refused ["_law_line_here"] 9 18 19 (fun _ _ _ _ _ _ us hl => match us, hl with | [_], _ => rfl),
  df_mk X G c "_law_rows" s__law_rows ["_law_script", "_law_many"] 10 20 21 (fun _ _ _ _ _ _ us hl => match us, hl with | [_, _], _ => rfl),
  df_mk X G c "_law_spoilt" s__law_spoilt ["_law_rows_here", "_law_cell", "_law_many"] 11 22 23 (fun _ _ _ _ _ _ us hl => match us, hl with | [_, _, _], _ => rfl),
  df_mk X G c "_law_last" s__law_last ["_law_rows_here", "_law_cell", "_law_many"] 12 24 25 (fun _ _ _ _ _ _ us hl => match us, hl with | [_, _, _], _ => rfl),
  df_mk X G c "_law_line" s__law_line ["_law_rows_here"] 13 26 27 (fun _ _ _ _ _ _ us hl => match us, hl with | [_], _ => rfl),
  df_mk X G c "_law_cut" s__law_cut ["_law_rows_here"] 14 28 29 (fun _ _ _ _ _ _ us hl => match us, hl with | [_], _ => rfl),
  df_mk X G c "law" s_law ["_law_script"] 15 30 31 (fun _ _ _ _ _ _ us hl => match us, hl with | [_], _ => rfl),
  He.free_ok X G (c.fact 48 (f := .free "ValueError") rfl),
  wr8_mk xw (He.glo_ok X G (c.fact 32 (f := .glo "BookError") rfl)) (He.glo_ok X G (c.fact 34 (f := .glo "NoBook") rfl))⟩
abbrev hLoose : List PySem.Str := ((["BookError", "NoBook", "MOST_RULES", "MOST_ROW", "is_number", "is_symbol", "is_rule", "need_book", "FIGURES", "symbol_at", "rows_of", "read", "_law_cell_at", "_law_symbol", "_law_refused", "_law_rows", "_law_spoilt", "_law_last", "_law_cut", "_law_line"] : List PySem.Str))
abbrev hR : PySem.W.OpenRow := PySem.W.OpenLaw.row PySem.Challenge.rw_pairrules_k08_texts_refused
abbrev hK : PySem.W.Hook := hookX 4 exR8 hFa hFn
def hOb (s : PySem.W.SharedT) : AlX := obsXG 4 exR8 hFa hFn (HandSHeadRun.getT s)
theorem hOb_eq (s : PySem.W.SharedT) : hOb s = hK.obs s.abs := obsX_eq (HandSHeadRun.getT_eq s)

end PL

set_option Elab.async false
set_option linter.all false
set_option maxRecDepth 100000
set_option maxHeartbeats 4000000
namespace PL
open PySem PySem.Spec PyProof.Rows L2
/-! ### the books' own functions -/
theorem e_is_number (s : Sy) : f_is_number [s.d] = .ok (.bool (!s.isS)) := by
  refine fn_of rfl ?_
  cases s <;> simp [b_is_number, Sy.isS]
theorem e_is_symbol {s : Sy} {m : Nat} (h : s.ok m) : f_is_symbol [s.d, .int m] = .ok (.bool true) := by
  refine fn_of rfl ?_
  cases s with
  | s c => simp [b_is_symbol]
  | n k =>
    have e := e_is_number (.n k)
    simp at e h
    simp [b_is_symbol, e, Sy.isS, h]
theorem e_is_rule {r : Sy × Sy} {m : Nat} (h1 : r.1.ok m) (h2 : r.2.ok m) : f_is_rule [rlD r, .int m] = .ok (.bool true) := by
  refine fn_of rfl ?_
  simp [b_is_rule, e_is_symbol h1, e_is_symbol h2, rlD]
theorem e_need_book {rs : List (Sy × Sy)} {row : List Sy} (h : BkOk rs row) : f_need_book [bkD rs row] = .ok (bkD rs row) := by
  refine fn_of rfl ?_
  have h1 : ¬ (600 : Int) < (rs.length : Int) := by have := h.n1; omega
  have h2 : ¬ (2000 : Int) < (row.length : Int) := by have := h.n2; omega
  simp [b_need_book, bkD, h1, h2, enumD_map]
  refine forL_P rs.zipIdx _ (fun _ ρ => ∃ a b, ρ = [.im (bkD rs row), .un, .im (.list (rs.map rlD)), .im (.list (row.map Sy.d)), a, b]) ⟨_, _, rfl⟩ ?_ ?_
  · rintro done ⟨r, i⟩ rest ρ e ⟨a, b, rfl⟩
    obtain ⟨e1, e2⟩ := zipIdx_at e
    have ho := h.hr _ _ e2
    simp at e1; subst e1
    simp [e_is_rule ho.1 ho.2]
  · rintro ρ ⟨a, b, rfl⟩
    simp
    refine forL_P row _ (fun _ ρ => ∃ c, ρ = [.im (bkD rs row), c, .im (.list (rs.map rlD)), .im (.list (row.map Sy.d)), a, b]) ⟨_, rfl⟩ ?_ ?_
    · rintro done s rest ρ e ⟨c, rfl⟩
      simp [e_is_symbol (h.ho s (mem_mid e))]
    · rintro ρ ⟨c, rfl⟩
      simp [bkD]
/-! ### notes -/
theorem str_q : PyData.str ("'" : Str) = ch 39 := by unfold ch; congr 1
theorem str_0 : PyData.str ("0" : Str) = ch 48 := by unfold ch; congr 1
theorem str_nl : PyData.str ("\n" : Str) = ch 10 := by unfold ch; congr 1
theorem str_sp : PyData.str (" " : Str) = ch 32 := by unfold ch; congr 1
theorem eq_ch {a b : Nat} (ha : a < 1114112) (hb : b < 1114112) : eqD (ch a) (ch b) = some (.bool (decide (a = b))) := by
  have := eq_tx (a := [a]) (b := [b]) (by simpa using ha) (by simpa using hb)
  rw [← ch_tx, ← ch_tx] at this
  simpa using this
theorem ne_ch {a b : Nat} (ha : a < 1114112) (hb : b < 1114112) : neD (ch a) (ch b) = some (.bool (!decide (a = b))) := by
  have := ne_tx (a := [a]) (b := [b]) (by simpa using ha) (by simpa using hb)
  rw [← ch_tx, ← ch_tx] at this
  simpa using this
def sqD (b : Bool) (t : List Sy) : D := if b = true then .list (t.map Sy.d) else .tuple (t.map Sy.d)
theorem figs_eq : ("0123456789" : Str).cps.toList = [48, 49, 50, 51, 52, 53, 54, 55, 56, 57] := by decide +kernel
theorem in_figs (c : Nat) : inD (ch c) (.str ("0123456789" : Str)) = some (.bool (decide (48 ≤ c ∧ c ≤ 57))) := by
  have h : inB (ch c) (.str ("0123456789" : Str)) = some (decide (c ∈ ("0123456789" : Str).cps.toList)) := nr rfl
  unfold inD
  rw [h, figs_eq]
  simp only [Option.map_some]
  congr 2
  apply decide_eq_decide.mpr
  simp only [List.mem_cons, List.not_mem_nil, or_false]
  omega

theorem e_sym {T : List Nat} {p : Nat} (hT : T.length ≤ 100000) (hTk : ∀ c ∈ T, c < 1114112) (hp : p < T.length) :
    f_symbol_at [tx T, .int p] = match sym (T.drop p) with
      | some (s, t') => .ok (.tuple [s.d, .int (T.length - t'.length : Nat)])
      | none => .ex "NoBook" := by
  have hl := len_tx (l := T) (by omega)
  obtain ⟨c0, r, hd⟩ : ∃ c r, T.drop p = c :: r := by
    cases h : T.drop p with
    | nil =>
      have := congrArg List.length h
      simp at this; omega
    | cons c r => exact ⟨c, r, rfl⟩
  have hlen : T.length - p = 1 + r.length := by
    have := congrArg List.length hd
    simp at this; omega
  have hat : ∀ i, T[p + i]? = (c0 :: r)[i]? := fun i => by rw [← hd, List.getElem?_drop]
  have ix : ∀ (i c : Nat), (c0 :: r)[i]? = some c → ixD (tx T) (.int ((p : Int) + (i : Int))) = some (ch c) ∧ c < 1114112 := fun i c h => by
    have h2 : T[((p : Int) + (i : Int)).toNat]? = some c := by
      rw [show ((p : Int) + (i : Int)).toNat = p + i by omega, hat]; exact h
    exact ⟨ix_tx (by omega) (by omega) h2, hTk c (List.mem_of_getElem? h2)⟩
  have x0 := ix 0 c0 rfl
  simp only [Int.natCast_zero, Int.add_zero] at x0
  have q := eq_ch (a := c0) (b := 39) x0.2 (by omega)
  rw [hd]
  by_cases c39 : c0 = 39
  · subst c39
    cases r with
    | nil =>
      have e : (p : Int) + 1 = (T.length : Int) := by simp at hlen; omega
      have es : sym [39] = none := rfl
      rw [es]
      refine fn_of rfl ?_
      simp [b_symbol_at, x0.1, str_q, q, hl, e, IsFn, Fl.fn]
    | cons d r' =>
      have x1 := (ix 1 d rfl).1
      have e : ¬ (p : Int) + 1 = (T.length : Int) := by simp at hlen; omega
      have es : sym (39 :: d :: r') = some (.s d, r') := rfl
      rw [es]
      refine fn_of rfl ?_
      have el : (p : Int) + 2 = ((T.length - r'.length : Nat) : Int) := by simp at hlen; omega
      have x1 : ixD (tx T) (.int ((p : Int) + 1)) = some (ch d) := x1
      simp [b_symbol_at, x0.1, str_q, q, hl, e, x1]
      omega
  · have es : sym (c0 :: r) = if (figs (c0 :: r)).length = 0 ∨ (c0 = 48 ∧ 1 < (figs (c0 :: r)).length) ∨ 3 < (figs (c0 :: r)).length then none else some (.n (nv (figs (c0 :: r))), (c0 :: r).drop (figs (c0 :: r)).length) := by
      show (if c0 = 39 then _ else _) = _
      rw [if_neg c39]
    rw [es]
    have pre := figs_pre (c0 :: r)
    have stp := fun c => figs_stop (t := c0 :: r) (c := c)
    have fm := fun c => figs_mem (t := c0 :: r) (c := c)
    have fle : (figs (c0 :: r)).length ≤ 1 + r.length := by
      have := congrArg List.length pre
      simp at this; omega
    have hsl : slD (some (p : Int)) (some ((p : Int) + ((figs (c0 :: r)).length : Int))) (tx T) = some (tx (figs (c0 :: r))) := by
      have ht : (c0 :: r).take (figs (c0 :: r)).length = figs (c0 :: r) := by
        have := congrArg (List.take (figs (c0 :: r)).length) pre
        rw [List.take_left] at this
        exact this.symm
      rw [sl_tx (by omega), show ((p : Int) + ((figs (c0 :: r)).length : Int)) = ((p + (figs (c0 :: r)).length : Nat) : Int) by omega, cutL_nn, Nat.add_sub_cancel_left, hd, ht]
    have q48 := eq_ch (a := c0) (b := 48) x0.2 (by omega)
    have hdl : ((c0 :: r).drop (figs (c0 :: r)).length).length = 1 + r.length - (figs (c0 :: r)).length := by simp; omega
    have hv := fun h1 h3 => int_tx (f := figs (c0 :: r)) fm h1 h3
    have hgi : ∀ i, i < (figs (c0 :: r)).length → ∃ c, (c0 :: r)[i]? = some c ∧ isFig c = true := fun i hi => by
      refine ⟨(figs (c0 :: r))[i], ?_, fm _ (List.getElem_mem hi)⟩
      conv => lhs; rw [← pre]
      rw [List.getElem?_append_left hi, List.getElem?_eq_getElem hi]
    have hend : ∀ c, (c0 :: r)[(figs (c0 :: r)).length]? = some c → isFig c = false := fun c hc => by
      refine stp c ?_
      rw [List.head?_drop]; exact hc
    generalize hk : (figs (c0 :: r)).length = k at *
    refine fn_of rfl ?_
    simp [b_symbol_at, x0.1, str_q, q, c39]
    refine whileL_P (σ := Nat) (fun i ρ => ρ = [.im (tx T), .im (.int p), .im (.int ((p : Int) + (i : Int)))] ∧ i ≤ k) (fun i => k - i) ?_ _ 0 _ ⟨by simp, Nat.zero_le _⟩ (by omega)
    rintro i ρ ⟨rfl, hi⟩
    by_cases c : i < k
    · obtain ⟨d, g1, g2⟩ := hgi i c
      have xi := (ix i d g1).1
      have lt : (p : Int) + (i : Int) < (T.length : Int) := by omega
      have fg : 48 ≤ d ∧ d ≤ 57 := by simpa [isFig] using g2
      refine ⟨true, by simp [hl, lt, xi, in_figs, fg], fun _ => ?_, fun e => by cases e⟩
      simp
      exact ⟨i + 1, by show k - (i + 1) < k - i; omega, by simp; omega, by omega⟩
    · have e : i = k := by omega
      subst e
      have stop : mTand (mTv (mB ltD (mV 2) (mF lenF (mCons (mV 0) mNil)))) (mTv (mB inD (mB ixD (mV 0) (mV 2)) (mC (.str "0123456789")))) [.im (tx T), .im (.int p), .im (.int ((p : Int) + (i : Int)))] = .ok false := by
        by_cases lt : (p : Int) + (i : Int) < (T.length : Int)
        · obtain ⟨d, hd2⟩ : ∃ d, (c0 :: r)[i]? = some d := ⟨_, List.getElem?_eq_getElem (by simp; omega)⟩
          have xi := (ix i d hd2).1
          have nf := hend d hd2
          have fg : ¬ (48 ≤ d ∧ d ≤ 57) := by simpa [isFig] using nf
          have fg2 : decide (48 ≤ d ∧ d ≤ 57) = false := decide_eq_false fg
          simp only [v_mTand, v_mTv, v_mB, v_mV, v_mF, v_mCons, v_mNil, v_mC]
          simp [hl, lt, xi, in_figs]
          simpa using fg
        · simp [hl, lt]
      refine ⟨false, stop, (fun e => by cases e), fun _ => ?_⟩
      have n1 : ((p : Int) + (i : Int) = (p : Int)) ↔ i = 0 := by omega
      have n4 : ((p : Int) + 1 < (p : Int) + (i : Int)) ↔ 1 < i := by omega
      have n3 : ((p : Int) + 3 < (p : Int) + (i : Int)) ↔ 3 < i := by omega
      by_cases bad : i = 0 ∨ (c0 = 48 ∧ 1 < i) ∨ 3 < i
      · rw [if_pos bad]
        by_cases z0 : i = 0
        · simp [n1, z0, IsFn, Fl.fn]
        · by_cases z1 : c0 = 48
          · by_cases z2 : 1 < i
            · have z2' : (1 : Int) < (i : Int) := by omega
              subst z1
              simp [n1, z0, str_0, q48, x0.1, n4, z2, z2', IsFn, Fl.fn]
            · omega
          · have z3 : 3 < i := by omega
            have z3' : (3 : Int) < (i : Int) := by omega
            simp [n1, z0, str_0, q48, z1, x0.1, n3, z3, z3', IsFn, Fl.fn]
      · rw [if_neg bad]
        have z0 : ¬ i = 0 := by omega
        have hi3 := hv (by omega) (by omega)
        have z3 : ¬ 3 < i := by omega
        have z3' : ¬ (3 : Int) < (i : Int) := by omega
        have el : ((T.length - ((c0 :: r).drop i).length : Nat) : Int) = (p : Int) + (i : Int) := by rw [hdl]; omega
        change IsFn (.ok (.tuple [(Sy.n (nv (figs (c0 :: r)))).d, .int (T.length - ((c0 :: r).drop i).length : Nat)])) _
        rw [el]
        by_cases z1 : c0 = 48
        · have z2 : ¬ 1 < i := by omega
          have z2' : ¬ (1 : Int) < (i : Int) := by omega
          subst z1
          simp [n1, z0, str_0, q48, x0.1, n4, z2, z2', n3, z3, z3', hsl, hi3, IsFn, Fl.fn, Sy.d]
        · simp [n1, z0, str_0, q48, z1, x0.1, n3, z3, z3', hsl, hi3, IsFn, Fl.fn, Sy.d]

def ltD2 (r : List Sy) : List D := r.map Sy.d
theorem at_last {α : Type} (X : List α) (c : α) : (X ++ [c])[(X ++ [c]).length - 1]? = some c := by simp
theorem sym_drop {t t' : List Nat} {s : Sy} (h : sym t = some (s, t')) : ∃ k, 1 ≤ k ∧ k ≤ t.length ∧ t' = t.drop k := by
  cases t with
  | nil => cases h
  | cons c r =>
    by_cases q : c = 39
    · subst q
      cases r with
      | nil => cases h
      | cons d r' =>
        have e : sym (39 :: d :: r') = some (.s d, r') := rfl
        rw [e] at h
        injection h with h
        injection h with h1 h2
        exact ⟨2, by omega, by simp, h2.symm⟩
    · have es : sym (c :: r) = if (figs (c :: r)).length = 0 ∨ (c = 48 ∧ 1 < (figs (c :: r)).length) ∨ 3 < (figs (c :: r)).length then none else some (.n (nv (figs (c :: r))), (c :: r).drop (figs (c :: r)).length) := by
        show (if c = 39 then _ else _) = _
        rw [if_neg q]
      rw [es] at h
      have fle : (figs (c :: r)).length ≤ (c :: r).length := by
        have := congrArg List.length (figs_pre (c :: r))
        simp only [List.length_append] at this; omega
      split at h
      · cases h
      · rename_i b
        injection h with h
        injection h with h1 h2
        exact ⟨_, by omega, fle, h2.symm⟩
structure RS8 where
  R : List (List Sy)
  r : List Sy
  p : Nat
  f : Nat
theorem e_rows8 {T : List Nat} (hT : T.length ≤ 100000) (hTk : ∀ c ∈ T, c < 1114112) : f_rows_of [tx T] = match pr (T.length + 1) [] [] T with
    | some RR => .ok (.list (RR.map fun r => .list (r.map Sy.d)))
    | none => .ex "NoBook" := by
  generalize hres : pr (T.length + 1) [] [] T = res
  refine fn_of rfl ?_
  have hl := len_tx (l := T) (by omega)
  simp [b_rows_of]
  refine whileL_P (σ := RS8) (fun st ρ => (∃ u, ρ = [.im (tx T), .nl (st.R.map ltD2 ++ [ltD2 st.r]), .im (.int st.p), u]) ∧ st.p ≤ T.length ∧ st.R.length + st.r.length ≤ st.p ∧ T.length - st.p < st.f ∧ pr st.f st.R st.r (T.drop st.p) = res) (fun st => T.length - st.p) ?_ _ ⟨[], [], 0, T.length + 1⟩ _ ⟨⟨.un, by simp [ltD2]⟩, by simp, by simp, by simp, by simpa using hres⟩ (by simp only; omega)
  rintro ⟨R, r, p, f⟩ ρ ⟨⟨u, rfl⟩, le, hlen, hf, hpr⟩
  simp only at le hlen hf hpr
  obtain ⟨f, rfl⟩ : ∃ g, f = g + 1 := ⟨f - 1, by omega⟩
  by_cases hp : p = T.length
  · have hp' : ¬ (p : Int) < (T.length : Int) := by omega
    have hd : T.drop p = [] := by rw [hp]; simp
    rw [hd] at hpr
    have : res = some (R ++ [r]) := hpr.symm
    subst this
    refine ⟨false, by simp [hl, hp'], (fun e => by cases e), fun _ => ?_⟩
    simp [ltD2]
  · have hp1 : p < T.length := by omega
    have hp' : (p : Int) < (T.length : Int) := by omega
    refine ⟨true, by simp [hl, hp'], fun _ => ?_, fun e => by cases e⟩
    have es := e_sym hT hTk hp1
    obtain ⟨c0, r0, hd⟩ : ∃ c r, T.drop p = c :: r := by
      cases h : T.drop p with
      | nil =>
        have := congrArg List.length h
        simp at this; omega
      | cons c r => exact ⟨c, r, rfl⟩
    have al := at_last (R.map ltD2) (ltD2 r)
    have cl : (ltD2 r).length < sizeLine := small_lt (by unfold ltD2; simp; omega)
    have ln : R.length + 1 < sizeLine := small_lt (by omega)
    cases hs : sym (T.drop p) with
    | none =>
      rw [hs] at es
      have : res = none := by
        rw [← hpr, hd] 
        rw [hd] at hs
        simp [pr, hs]
      subst this
      simp [es, IsFn, Fl.fn]
    | some q =>
      obtain ⟨s, t'⟩ := q
      rw [hs] at es
      obtain ⟨k, k1, k2, rfl⟩ := sym_drop hs
      rw [List.length_drop] at k2
      rw [List.drop_drop] at es hs
      simp only at es
      have e1 : T.length - (T.drop (p + k)).length = p + k := by simp; omega
      rw [e1] at es
      have app : ltD2 r ++ [s.d] = ltD2 (r ++ [s]) := by unfold ltD2; simp
      have ec : ((p + k : Nat) : Int) = (p : Int) + (k : Int) := by omega
      rw [ec] at es
      cases ht : T.drop (p + k) with
      | nil =>
        have e2 : p + k = T.length := by
          have := congrArg List.length ht
          simp at this; omega
        have hq : ¬ ((p : Int) + (k : Int)) < (T.length : Int) := by omega
        have : res = some (R ++ [r ++ [s]]) := by
          rw [← hpr, hd]
          rw [hd, ht] at hs
          simp [pr, hs]
        subst this
        simp [es, hl, hq, cl, app]
        exact ⟨⟨R, r ++ [s], p + k, T.length + 1⟩, by simp only; omega, ⟨_, by simp; rfl⟩, by simp only; omega, by simp; omega, by simp only; omega, by simp only; rw [ht]; rfl⟩
      | cons c t'' =>
        have e2 : T.length - (p + k) = 1 + t''.length := by
          have := congrArg List.length ht
          simp at this; omega
        have hq : ((p : Int) + (k : Int)) < (T.length : Int) := by omega
        have h2 : T[((p : Int) + (k : Int)).toNat]? = some c := by
          have e3 : ((p : Int) + (k : Int)).toNat = p + k := by omega
          have := congrArg (fun l => l[0]?) ht
          rw [e3]
          simpa using this
        have x2 := ix_tx (t := T) (p := (p : Int) + (k : Int)) (c := c) (by omega) (by omega) h2
        have ck := hTk c (List.mem_of_getElem? h2)
        have q := eq_ch (a := c) (b := 10) ck (by omega)
        have q2 := ne_ch (a := c) (b := 32) ck (by omega)
        have hres2 : res = if c = 10 then pr f (R ++ [r ++ [s]]) [] t'' else if c = 32 ∧ t'' ≠ [] then pr f R (r ++ [s]) t'' else none := by
          rw [← hpr, hd]
          rw [hd, ht] at hs
          simp only [pr, hs]
        have hd2 : T.drop (p + k + 1) = t'' := by
          have := congrArg (fun l => l.drop 1) ht
          simp only [List.drop_drop] at this
          rw [this]; rfl
        by_cases c10 : c = 10
        · subst c10
          rw [if_pos rfl] at hres2
          simp [es, hl, hq, cl, app, x2, str_nl, q, ln]
          exact ⟨⟨R ++ [r ++ [s]], [], p + k + 1, f⟩, by simp only; omega, ⟨_, by simp [ltD2]; rfl⟩, by simp only; omega, by simp; omega, by simp only; omega, by simp only; rw [hd2, hres2]⟩
        · rw [if_neg c10] at hres2
          by_cases c32 : c = 32
          · subst c32
            by_cases te : t'' = []
            · rw [if_neg (by simp [te])] at hres2
              subst hres2
              have n1 : ((p : Int) + (k : Int) + 1 = (T.length : Int)) := by rw [te] at e2; simp at e2; omega
              simp [es, hl, hq, cl, app, x2, str_nl, str_sp, q, q2, n1, IsFn, Fl.fn]
            · rw [if_pos ⟨rfl, te⟩] at hres2
              have : 0 < t''.length := List.length_pos_iff.mpr te
              have n1 : ¬ ((p : Int) + (k : Int) + 1 = (T.length : Int)) := by omega
              simp [es, hl, hq, cl, app, x2, str_nl, str_sp, q, q2, n1]
              exact ⟨⟨R, r ++ [s], p + k + 1, f⟩, by simp only; omega, ⟨_, by simp; rfl⟩, by simp only; omega, by simp; omega, by simp only; omega, by simp only; rw [hd2, hres2]⟩
          · rw [if_neg (by simp [c32])] at hres2
            subst hres2
            simp [es, hl, hq, cl, app, x2, str_nl, str_sp, q, q2, c10, c32, IsFn, Fl.fn]

/-! ### books refused -/
@[simp] theorem v_mIterL {m : Rho → Rs TD} {ρ : Rho} : mIterL m ρ = (m ρ).bind fun q => (match q.1 with
  | .list ds => .ok (ds, q.2)
  | _ => .no) := nr rfl
section
variable {α : Type} {enc : α → D} {g : D → Rho → Option Rho} {body : Rho → Fl} {ρ : Rho} {c : Str}
theorem forL_bad (xs : List α) (inv : List α → Rho → Prop) (h0 : inv [] ρ)
    (st : ∀ done x rest ρ, xs = done ++ x :: rest → inv done ρ → ∃ ρ1, g (enc x) ρ = some ρ1 ∧ NX (inv (done ++ [x])) (body ρ1))
    {d : D} {rest : List D} (hb : ∀ ρ, inv xs ρ → ∃ ρ1, g d ρ = some ρ1 ∧ body ρ1 = .ex c) : forL g body (xs.map enc ++ d :: rest) ρ = .ex c := by
  have aux : ∀ (ys done : List α) (ρ : Rho), xs = done ++ ys → inv done ρ → forL g body (ys.map enc ++ d :: rest) ρ = .ex c := by
    intro ys
    induction ys with
    | nil =>
      intro done ρ e h
      rw [List.append_nil] at e; subst e
      obtain ⟨ρ1, h1, h2⟩ := hb ρ h
      rw [List.map_nil, List.nil_append, forL, h1]
      simp only [v_opfl, h2]
    | cons x ys ih =>
      intro done ρ e h
      obtain ⟨ρ1, h1, h2⟩ := st done x ys ρ e h
      rw [List.map_cons, List.cons_append, forL, h1]
      simp only [v_opfl]
      have e' : xs = (done ++ [x]) ++ ys := by rw [e]; simp
      cases q : body ρ1 with
      | nx ρ2 => rw [q] at h2; exact ih _ ρ2 e' h2
      | ct ρ2 => rw [q] at h2; exact ih _ ρ2 e' h2
      | bk ρ2 => rw [q] at h2; exact h2.elim
      | rt d => rw [q] at h2; exact h2.elim
      | ex c => rw [q] at h2; exact h2.elim
      | no => rw [q] at h2; exact h2.elim
  exact aux xs [] ρ rfl h0
end

theorem e_nb1 {d : D} (h : isTup d = false ∨ ∃ ds, d = .tuple ds ∧ ds.length ≠ 2) : f_need_book [d] = .ex "NoBook" := by
  refine fn_of rfl ?_
  rcases h with h | ⟨ds, rfl, h⟩
  · simp [b_need_book, h, IsFn, Fl.fn]
  · have h2 : ¬ (ds.length : Int) = 2 := by omega
    simp [b_need_book, h2, IsFn, Fl.fn]
theorem e_nb2 {x y : D} (h : isList x = false ∨ isList y = false) : f_need_book [.tuple [x, y]] = .ex "NoBook" := by
  refine fn_of rfl ?_
  rcases h with h | h
  · simp [b_need_book, h, IsFn, Fl.fn]
  · by_cases q : isList x = true
    · simp [b_need_book, h, q, IsFn, Fl.fn]
    · simp [b_need_book, q, IsFn, Fl.fn]
theorem e_nb3 {ds es : List D} (h : 600 < ds.length ∨ 2000 < es.length) : f_need_book [.tuple [.list ds, .list es]] = .ex "NoBook" := by
  refine fn_of rfl ?_
  by_cases q : (600 : Int) < (ds.length : Int)
  · simp [b_need_book, q, IsFn, Fl.fn]
  · have q2 : (2000 : Int) < (es.length : Int) := by omega
    simp [b_need_book, q, q2, IsFn, Fl.fn]
theorem e_nb4 {rs : List (Sy × Sy)} {bad : D} {rest es : List D} (hr : RsOk rs) (hb : f_is_rule [bad, .int rs.length] = .ok (.bool false)) : f_need_book [.tuple [.list (rs.map rlD ++ bad :: rest), .list es]] = .ex "NoBook" := by
  by_cases big : 600 < (rs.map rlD ++ bad :: rest).length ∨ 2000 < es.length
  · exact e_nb3 big
  refine fn_of rfl ?_
  have q : ¬ (600 : Int) < ((rs.map rlD ++ bad :: rest).length : Int) := by omega
  have q2 : ¬ (2000 : Int) < (es.length : Int) := by omega
  have he : enumD (rs.map rlD ++ bad :: rest) = (rs.zipIdx.map fun p => PyData.tuple [.int (p.2 : Nat), rlD p.1]) ++ PyData.tuple [.int (rs.length : Nat), bad] :: (rest.zipIdx (rs.length + 1)).map fun p => PyData.tuple [.int (p.2 : Nat), p.1] := by
    unfold enumD
    rw [List.zipIdx_append, List.map_append, List.zipIdx_map, List.map_map, List.zipIdx_cons, List.map_cons]
    simp [Function.comp]
  generalize rs.map rlD ++ bad :: rest = L at *
  generalize (rest.zipIdx (rs.length + 1)).map (fun p => PyData.tuple [.int (p.2 : Nat), p.1]) = R at *
  have key : ∀ u v : Sl, forL (gT 2 (gsC (gN 4) (gsC (gN 5) gs0))) (mIf (mTnot (mTv (mCall f_is_rule (mCons (mV 5) (mCons (mV 4) mNil))))) (fun _ => .ex "NoBook") mNext) (enumD L) [.im (.tuple [.list L, .list es]), .un, .im (.list L), .im (.list es), u, v] = .ex "NoBook" := fun u v => by
    rw [he]
    refine forL_bad rs.zipIdx (fun _ ρ => ∃ u v, ρ = [.im (.tuple [.list L, .list es]), .un, .im (.list L), .im (.list es), u, v]) ⟨u, v, rfl⟩ ?_ ?_
    · rintro done ⟨r, i⟩ rest ρ e ⟨u, v, rfl⟩
      obtain ⟨e1, e2⟩ := zipIdx_at e
      have ho := hr _ _ e2
      simp at e1; subst e1
      refine ⟨_, rfl, ?_⟩
      simp [e_is_rule ho.1 ho.2]
    · rintro ρ ⟨u, v, rfl⟩
      refine ⟨_, rfl, ?_⟩
      simp [hb]
  simp [b_need_book, q, q2]
  rw [key .un .un]
  rfl
theorem e_nb5 {rs : List (Sy × Sy)} {row : List Sy} {bad : D} {rest : List D} (hr : RsOk rs) (ho : RoOk rs.length row) (hb : f_is_symbol [bad, .int rs.length] = .ok (.bool false)) : f_need_book [.tuple [.list (rs.map rlD), .list (row.map Sy.d ++ bad :: rest)]] = .ex "NoBook" := by
  by_cases big : 600 < (rs.map rlD).length ∨ 2000 < (row.map Sy.d ++ bad :: rest).length
  · exact e_nb3 big
  refine fn_of rfl ?_
  have q : ¬ (600 : Int) < (rs.length : Int) := by simp at big; omega
  have q2 : ¬ (2000 : Int) < ((row.map Sy.d ++ bad :: rest).length : Int) := by omega
  have key : ∀ u v a : Sl, forL (gN 1) (mIf (mTnot (mTv (mCall f_is_symbol (mCons (mV 1) (mCons (mF lenF (mCons (mV 2) mNil)) mNil))))) (fun _ => .ex "NoBook") mNext) (row.map Sy.d ++ bad :: rest) [.im (.tuple [.list (rs.map rlD), .list (row.map Sy.d ++ bad :: rest)]), a, .im (.list (rs.map rlD)), .im (.list (row.map Sy.d ++ bad :: rest)), u, v] = .ex "NoBook" := fun u v a => by
    generalize PyData.list (row.map Sy.d ++ bad :: rest) = LL
    refine forL_bad row (fun _ ρ => ∃ a, ρ = [.im (.tuple [.list (rs.map rlD), LL]), a, .im (.list (rs.map rlD)), .im LL, u, v]) ⟨a, rfl⟩ ?_ ?_
    · rintro done s rest ρ e ⟨a, rfl⟩
      refine ⟨_, rfl, ?_⟩
      simp [e_is_symbol (ho s (mem_mid e))]
    · rintro ρ ⟨a, rfl⟩
      refine ⟨_, rfl, ?_⟩
      simp [hb]
  generalize row.map Sy.d ++ bad :: rest = L at *
  simp [b_need_book, q, q2, enumD_map]
  refine forL_P rs.zipIdx _ (fun _ ρ => ∃ a b, ρ = [.im (.tuple [.list (rs.map rlD), .list L]), .un, .im (.list (rs.map rlD)), .im (.list L), a, b]) ⟨_, _, rfl⟩ ?_ ?_
  · rintro done ⟨r, i⟩ rest ρ e ⟨a, b, rfl⟩
    obtain ⟨e1, e2⟩ := zipIdx_at e
    have ho := hr _ _ e2
    simp at e1; subst e1
    refine ⟨_, rfl, ?_⟩
    simp [e_is_rule ho.1 ho.2]
  · rintro ρ ⟨a, b, rfl⟩
    have k := key a b .un
    simp only [v_mSeq, v_mFor, v_mIter, v_mIterL, v_mV]
    simp [k, IsFn, Fl.fn]

theorem e_nbH1 {d : D} (h : isTup d = false ∨ ∃ ds, d = .tuple ds ∧ ds.length ≠ 2) : f_need_bookH [d] = .ex "NoBook" := by
  refine fn_of rfl ?_
  rcases h with h | ⟨ds, rfl, h⟩
  · simp [b_need_bookH, h, IsFn, Fl.fn]
  · have h2 : ¬ (ds.length : Int) = 2 := by omega
    simp [b_need_bookH, h2, IsFn, Fl.fn]
theorem e_nbH2 {x y : D} (h : isList x = false ∨ isList y = false) : f_need_bookH [.tuple [x, y]] = .ex "NoBook" := by
  refine fn_of rfl ?_
  rcases h with h | h
  · simp [b_need_bookH, h, IsFn, Fl.fn]
  · by_cases q : isList x = true
    · simp [b_need_bookH, h, q, IsFn, Fl.fn]
    · simp [b_need_bookH, q, IsFn, Fl.fn]
theorem e_nbH3 {ds es : List D} (h : 600 < ds.length ∨ 2000 < es.length) : f_need_bookH [.tuple [.list ds, .list es]] = .ex "NoBook" := by
  refine fn_of rfl ?_
  by_cases q : (600 : Int) < (ds.length : Int)
  · simp [b_need_bookH, q, IsFn, Fl.fn]
  · have q2 : (2000 : Int) < (es.length : Int) := by omega
    simp [b_need_bookH, q, q2, IsFn, Fl.fn]
theorem e_nbH4 {rs : List (Sy × Sy)} {bad : D} {rest es : List D} (hr : RsOk rs) (hb : f_is_rule [bad, .int rs.length] = .ok (.bool false)) : f_need_bookH [.tuple [.list (rs.map rlD ++ bad :: rest), .list es]] = .ex "NoBook" := by
  by_cases big : 600 < (rs.map rlD ++ bad :: rest).length ∨ 2000 < es.length
  · exact e_nbH3 big
  refine fn_of rfl ?_
  have q : ¬ (600 : Int) < ((rs.map rlD ++ bad :: rest).length : Int) := by omega
  have q2 : ¬ (2000 : Int) < (es.length : Int) := by omega
  have he : enumD (rs.map rlD ++ bad :: rest) = (rs.zipIdx.map fun p => PyData.tuple [.int (p.2 : Nat), rlD p.1]) ++ PyData.tuple [.int (rs.length : Nat), bad] :: (rest.zipIdx (rs.length + 1)).map fun p => PyData.tuple [.int (p.2 : Nat), p.1] := by
    unfold enumD
    rw [List.zipIdx_append, List.map_append, List.zipIdx_map, List.map_map, List.zipIdx_cons, List.map_cons]
    simp [Function.comp]
  generalize rs.map rlD ++ bad :: rest = L at *
  generalize (rest.zipIdx (rs.length + 1)).map (fun p => PyData.tuple [.int (p.2 : Nat), p.1]) = R at *
  have key : ∀ u v : Sl, forL (gT 2 (gsC (gN 4) (gsC (gN 5) gs0))) (mIf (mTnot (mTv (mCall f_is_rule (mCons (mV 5) (mCons (mV 4) mNil))))) (fun _ => .ex "NoBook") mNext) (enumD L) [.im (.tuple [.list L, .list es]), .un, .im (.list L), .im (.list es), u, v] = .ex "NoBook" := fun u v => by
    rw [he]
    refine forL_bad rs.zipIdx (fun _ ρ => ∃ u v, ρ = [.im (.tuple [.list L, .list es]), .un, .im (.list L), .im (.list es), u, v]) ⟨u, v, rfl⟩ ?_ ?_
    · rintro done ⟨r, i⟩ rest ρ e ⟨u, v, rfl⟩
      obtain ⟨e1, e2⟩ := zipIdx_at e
      have ho := hr _ _ e2
      simp at e1; subst e1
      refine ⟨_, rfl, ?_⟩
      simp [e_is_rule ho.1 ho.2]
    · rintro ρ ⟨u, v, rfl⟩
      refine ⟨_, rfl, ?_⟩
      simp [hb]
  simp [b_need_bookH, q, q2]
  rw [key .un .un]
  rfl
theorem e_nbH5 {rs : List (Sy × Sy)} {row : List Sy} {bad : D} {rest : List D} (hr : RsOk rs) (ho : RoOk rs.length row) (hb : f_is_symbol [bad, .int rs.length] = .ok (.bool false)) : f_need_bookH [.tuple [.list (rs.map rlD), .list (row.map Sy.d ++ bad :: rest)]] = .ex "NoBook" := by
  by_cases big : 600 < (rs.map rlD).length ∨ 2000 < (row.map Sy.d ++ bad :: rest).length
  · exact e_nbH3 big
  refine fn_of rfl ?_
  have q : ¬ (600 : Int) < (rs.length : Int) := by simp at big; omega
  have q2 : ¬ (2000 : Int) < ((row.map Sy.d ++ bad :: rest).length : Int) := by omega
  have key : ∀ u v a : Sl, forL (gN 1) (mIf (mTnot (mTv (mCall f_is_symbol (mCons (mV 1) (mCons (mF lenF (mCons (mV 2) mNil)) mNil))))) (fun _ => .ex "NoBook") mNext) (row.map Sy.d ++ bad :: rest) [.im (.tuple [.list (rs.map rlD), .list (row.map Sy.d ++ bad :: rest)]), a, .im (.list (rs.map rlD)), .im (.list (row.map Sy.d ++ bad :: rest)), u, v] = .ex "NoBook" := fun u v a => by
    generalize PyData.list (row.map Sy.d ++ bad :: rest) = LL
    refine forL_bad row (fun _ ρ => ∃ a, ρ = [.im (.tuple [.list (rs.map rlD), LL]), a, .im (.list (rs.map rlD)), .im LL, u, v]) ⟨a, rfl⟩ ?_ ?_
    · rintro done s rest ρ e ⟨a, rfl⟩
      refine ⟨_, rfl, ?_⟩
      simp [e_is_symbol (ho s (mem_mid e))]
    · rintro ρ ⟨a, rfl⟩
      refine ⟨_, rfl, ?_⟩
      simp [hb]
  generalize row.map Sy.d ++ bad :: rest = L at *
  simp [b_need_bookH, q, q2, enumD_map]
  refine forL_P rs.zipIdx _ (fun _ ρ => ∃ a b, ρ = [.im (.tuple [.list (rs.map rlD), .list L]), .un, .im (.list (rs.map rlD)), .im (.list L), a, b]) ⟨_, _, rfl⟩ ?_ ?_
  · rintro done ⟨r, i⟩ rest ρ e ⟨a, b, rfl⟩
    obtain ⟨e1, e2⟩ := zipIdx_at e
    have ho := hr _ _ e2
    simp at e1; subst e1
    refine ⟨_, rfl, ?_⟩
    simp [e_is_rule ho.1 ho.2]
  · rintro ρ ⟨a, b, rfl⟩
    have k := key a b .un
    simp only [v_mSeq, v_mFor, v_mIter, v_mIterL, v_mV]
    simp [k, IsFn, Fl.fn]

def Bad (d : D) : Prop := f_need_book [d] = .ex "NoBook" ∧ f_need_bookH [d] = .ex "NoBook"
theorem bad3 {ds es : List D} (h : 600 < ds.length ∨ 2000 < es.length) : Bad (.tuple [.list ds, .list es]) := ⟨e_nb3 h, e_nbH3 h⟩
theorem bad4 {rs : List (Sy × Sy)} {bad : D} {rest es : List D} (hr : RsOk rs) (hb : f_is_rule [bad, .int rs.length] = .ok (.bool false)) : Bad (.tuple [.list (rs.map rlD ++ bad :: rest), .list es]) := ⟨e_nb4 hr hb, e_nbH4 hr hb⟩
theorem bad5 {rs : List (Sy × Sy)} {row : List Sy} {bad : D} {rest : List D} (hr : RsOk rs) (ho : RoOk rs.length row) (hb : f_is_symbol [bad, .int rs.length] = .ok (.bool false)) : Bad (.tuple [.list (rs.map rlD), .list (row.map Sy.d ++ bad :: rest)]) := ⟨e_nb5 hr ho hb, e_nbH5 hr ho hb⟩
/-- a text that is refused -/
def NoBk (d : D) : Prop := f_read [d] = .ex "NoBook" ∧ f_readH [d] = .ex "NoBook"
theorem nobk_yes {d : D} (h : NoBk d) : f__law_refused [d] = .ok (.bool true) := by
  have h1 := h.1
  have h2 := h.2
  refine fn_of rfl ?_
  simp [b__law_refused, mRefW, h1, h2]
theorem nobk_notext {d : D} (h : isStr d = false) : NoBk d := by
  constructor
  · refine fn_of rfl ?_
    simp [b_read, h, IsFn, Fl.fn]
  · refine fn_of rfl ?_
    simp [b_readH, h, IsFn, Fl.fn]
theorem cutL_m1 {α : Type} (xs : List α) : cutL xs none (some (-1)) = xs.dropLast := by
  unfold cutL
  have e : HT.sIx xs.length xs.length (some (-1)) = xs.length - 1 := by
    unfold HT.sIx
    simp
    omega
  rw [e, HT.sIx_none, List.drop_zero, Nat.sub_zero, List.dropLast_eq_take]
theorem nobk_none {T : List Nat} (hT : T.length ≤ 100000) (hTk : ∀ c ∈ T, c < 1114112) (h : pr (T.length + 1) [] [] T = none) : NoBk (tx T) := by
  have er := e_rows8 hT hTk
  rw [h] at er
  simp only at er
  constructor
  · refine fn_of rfl ?_
    simp [b_read, er, IsFn, Fl.fn]
  · refine fn_of rfl ?_
    simp [b_readH, er, IsFn, Fl.fn]
theorem nobk_rows {T : List Nat} {RR : List (List Sy)} {last : List Sy} (hT : T.length ≤ 100000) (hTk : ∀ c ∈ T, c < 1114112) (h : pr (T.length + 1) [] [] T = some (RR ++ [last])) (hl : RR.length ≤ 1000000)
    (hb : Bad (.tuple [.list (RR.map fun r => PyData.tuple (r.map Sy.d)), .list (last.map Sy.d)])) : NoBk (tx T) := by
  have er := e_rows8 hT hTk
  rw [h] at er
  simp only [List.map_append, List.map_cons, List.map_nil] at er
  have negm : negF [.int 1] = some (.int (-1)) := rfl
  have ec : cutL (RR.map (fun r => PyData.list (r.map Sy.d)) ++ [PyData.list (last.map Sy.d)]) none (some (-1)) = RR.map fun r => PyData.list (r.map Sy.d) := by rw [cutL_m1, List.dropLast_concat]
  have ea : atI (RR.map (fun r => PyData.list (r.map Sy.d)) ++ [PyData.list (last.map Sy.d)]) (-1) = some (PyData.list (last.map Sy.d)) := atI_m1 (by simp)
  have h1 := hb.1
  have h2 := hb.2
  constructor
  · refine fn_of rfl ?_
    simp [b_read, er, negm, ec, ea]
    rw [compL_all (enc := fun r : List Sy => PyData.list (r.map Sy.d)) (fun r : List Sy => PyData.tuple (r.map Sy.d)) RR fun r hr => ⟨_, rfl, by simp [tupleF]⟩]
    simp [compF_of, small_le (show RR.length ≤ 10000000 by omega), h1, IsFn, Fl.fn]
  · refine fn_of rfl ?_
    simp [b_readH, er, negm, ec, ea]
    rw [compL_all (enc := fun r : List Sy => PyData.list (r.map Sy.d)) (fun r : List Sy => PyData.tuple (r.map Sy.d)) RR fun r hr => ⟨_, rfl, by simp [tupleF]⟩]
    simp [compF_of, small_le (show RR.length ≤ 10000000 by omega), h2, IsFn, Fl.fn]

/-! ### the law's own rows -/
/-- rows of texts -/
def rwD (L : List (List (List Nat))) : List D := L.map fun r => .list (r.map tx)
def rwsD (L : List (List (List Nat))) : D := .list (rwD L)
theorem e_line8 {L : List (List (List Nat))} (hr : ∀ r ∈ L, r.flatten.length + r.length ≤ 10000) (hl : L.length ≤ 100) : f__law_line [rwsD L] = .ok (tx (lineT L)) := by
  refine fn_of rfl ?_
  have hb : (L.map (inter [32])).flatten.length ≤ L.length * 10000 := by
    clear hl
    induction L with
    | nil => simp
    | cons r L ih =>
      have h1 := ih fun x hx => hr x (List.mem_cons_of_mem _ hx)
      have h2 := hr r (by simp)
      have h3 := inter_len [32] r
      simp only [List.length_singleton] at h3
      simp only [List.map_cons, List.flatten_cons, List.length_append, List.length_cons]
      omega
  have hj := join_at (sep := [10]) (ls := L.map (inter [32])) (by simp only [List.length_map, List.length_singleton]; omega)
  have hj : joinD (.str ("\n" : Str)) (.list ((L.map (inter [32])).map tx)) = some (tx (lineT L)) := by rw [str_nl, ch_tx]; exact hj
  rw [List.map_map] at hj
  have hc : compL (gN 1) tOne (mJ (mC (.str " ")) (mV 1)) [.im (rwsD L), .un] (L.map fun r => PyData.list (r.map tx)) = .ok (L.map fun r => tx (inter [32] r)) :=
    compL_all (enc := fun r : List (List Nat) => PyData.list (r.map tx)) (fun r => tx (inter [32] r)) L fun r h => ⟨_, rfl, by
      have h2 := hr r h
      have hj := join_at (sep := [32]) (ls := r) (by simp only [List.length_singleton]; omega)
      have hj : joinD (.str (" " : Str)) (.list (r.map tx)) = some (tx (inter [32] r)) := by rw [str_sp, ch_tx]; exact hj
      simp [hj]⟩
  unfold rwsD rwD at hc
  have hj : joinD (.str ("\n" : Str)) (.list (L.map fun r => tx (inter [32] r))) = some (tx (lineT L)) := hj
  simp [b__law_line, rwsD, rwD, hc, compF_of, small_le (show L.length ≤ 10000000 by omega), hj]
def c36 : List Nat := ("abcdefghijklmnopqrstuvwxyz0123456789" : Str).cps.toList
def lsy (cell : Int) (m : Nat) : Sy := if m = 0 ∨ cell % 2 = 0 then .s (c36.getD (cell / 2 % 36).toNat 0) else .n (cell / 2 % (m : Int)).toNat
theorem c36_ok : ∀ i, i < 36 → c36[i]? = some (c36.getD i 0) ∧ c36.getD i 0 < 1114112 := by decide +kernel
theorem lsy_ok (cell : Int) (m : Nat) : (lsy cell m).ok m := by
  unfold lsy
  split
  · exact (c36_ok _ (by omega)).2
  · rename_i h
    have h0 : 0 < m := by omega
    have h1 := Int.emod_lt_of_pos (cell / 2) (show (0 : Int) < m by omega)
    have h2 := Int.emod_nonneg (cell / 2) (show (m : Int) ≠ 0 by omega)
    show (cell / 2 % (m : Int)).toNat < m
    omega
theorem e_lsymbol (cell : Int) {m : Nat} (hm : m ≤ 600) : f__law_symbol [.int cell, .int m] = .ok (tx (syT (lsy cell m))) := by
  have i36 := c36_ok (cell / 2 % 36).toNat (by omega)
  have x36 : ixD (.str ("abcdefghijklmnopqrstuvwxyz0123456789" : Str)) (.int (cell / 2 % 36)) = some (ch (c36.getD (cell / 2 % 36).toNat 0)) := by
    rw [str_lit]
    exact ix_tx (by decide +kernel) (by omega) i36.1
  have a36 : addD (.str ("'" : Str)) (ch (c36.getD (cell / 2 % 36).toNat 0)) = some (tx [39, c36.getD (cell / 2 % 36).toNat 0]) := by
    rw [str_q, ch_tx, ch_tx, add_tx (by simp)]; rfl
  have m2 : modD (.int cell) (.int 2) = some (.int (cell % 2)) := mod_int (by decide)
  have d2 : fdivD (.int cell) (.int 2) = some (.int (cell / 2)) := fdiv_int (by decide)
  have m36 : modD (.int (cell / 2)) (.int 36) = some (.int (cell / 2 % 36)) := mod_int (by decide)
  refine fn_of rfl ?_
  unfold lsy
  generalize c36.getD (cell / 2 % 36).toNat 0 = g at *
  by_cases h0 : m = 0
  · rw [if_pos (.inl h0)]
    simp [b__law_symbol, h0, d2, m36, x36, a36, syT]
  · by_cases h1 : cell % 2 = 0
    · rw [if_pos (.inr h1)]
      simp [b__law_symbol, h0, m2, h1, d2, m36, x36, a36, syT]
    · rw [if_neg (by simp [h0, h1])]
      have h4 := Int.emod_lt_of_pos (cell / 2) (show (0 : Int) < m by omega)
      have h5 := Int.emod_nonneg (cell / 2) (show (m : Int) ≠ 0 by omega)
      have mm : modD (.int (cell / 2)) (.int m) = some (.int (cell / 2 % (m : Int))) := mod_int (by omega)
      have st := str_dg (n := (cell / 2 % (m : Int)).toNat) (by omega)
      rw [show (((cell / 2 % (m : Int)).toNat : Nat) : Int) = cell / 2 % (m : Int) by omega] at st
      generalize cell / 2 % (m : Int) = z at *
      simp [b__law_symbol, h0, m2, h1, d2, mm, st, syT]

def ru8 (ns : List Int) (j : Nat) : Sy × Sy := (lsy (ns.getD (2 + 2 * j) 0) j, lsy (ns.getD (3 + 2 * j) 0) j)
def rs8 (ns : List Int) (m : Nat) : List (Sy × Sy) := (List.range m).map (ru8 ns)
def n8 (ns : List Int) : Nat := (ns.getD 1 0 / 7 % 6).toNat
def row8 (ns : List Int) (m : Nat) : List Sy := (List.range (n8 ns)).map fun j => lsy (ns.getD (20 + j) 0) m
theorem rs8_ok (ns : List Int) (m : Nat) : RsOk (rs8 ns m) := fun i r h => by
  unfold rs8 at h
  rw [List.getElem?_map] at h
  have : i < m := by
    rcases Nat.lt_or_ge i m with q | q
    · exact q
    · rw [List.getElem?_eq_none (by simpa using q)] at h; cases h
  rw [List.getElem?_eq_getElem (by simpa using this), List.getElem_range] at h
  injection h with h
  subst h
  exact ⟨lsy_ok _ _, lsy_ok _ _⟩
theorem row8_ok (ns : List Int) (m : Nat) : RoOk m (row8 ns m) := fun s h => by
  obtain ⟨j, _, rfl⟩ := List.mem_map.mp h
  exact lsy_ok _ _
theorem book8_ok (ns : List Int) {m : Nat} (hm : m ≤ 8) : BkOk (rs8 ns m) (row8 ns m) := by
  have l : (rs8 ns m).length = m := by simp [rs8]
  refine ⟨rs8_ok ns m, by rw [l]; exact row8_ok ns m, by omega, ?_⟩
  unfold row8 n8
  simp; omega

/-! ### the law's own book -/
theorem e_cell_at (ns : List Int) (k : Nat) : f__law_cell_at [scrD ns, .int k] = .ok (.int (ns.getD k 0)) := by
  refine fn_of rfl ?_
  by_cases h : k < ns.length
  · simp [b__law_cell_at, h]
  · simp [b__law_cell_at, h]
def done9 (ns : List Int) (m : Nat) : List D := (List.range m).map fun j => .list [tx (syT (ru8 ns j).1), tx (syT (ru8 ns j).2)]
theorem e_lrows (ns : List Int) {m : Nat} (hm : m ≤ 8) : f__law_rows [scrD ns, .int m] = .ok (rwD ((rowsL (rs8 ns m) (row8 ns m)).map (List.map syT))) := by
  refine fnO_of rfl ?_
  have r1 := rgR_1 (n := m) (by omega)
  have c1 : f__law_cell_at [scrD ns, .int 1] = .ok (.int (ns.getD 1 0)) := e_cell_at ns 1
  have d7 : fdivD (.int (ns.getD 1 0)) (.int 7) = some (.int (ns.getD 1 0 / 7)) := fdiv_int (by decide)
  have m6 : modD (.int (ns.getD 1 0 / 7)) (.int 6) = some (.int ((n8 ns : Nat) : Int)) := by
    rw [show modD (.int (ns.getD 1 0 / 7)) (.int 6) = some (.int (ns.getD 1 0 / 7 % 6)) from mod_int (by decide)]
    unfold n8
    rw [show (((ns.getD 1 0 / 7 % 6).toNat : Nat) : Int) = ns.getD 1 0 / 7 % 6 by omega]
  have hn : n8 ns ≤ 5 := by unfold n8; omega
  have r2 := rgR_1 (n := n8 ns) (by omega)
  generalize hnn : n8 ns = n at *
  simp only [List.getD_eq_getElem?_getD] at c1 d7 m6
  simp [b__law_rows, r1]
  refine forL_O (List.range m) (fun done ρ => ∃ a b c, ρ = [.im (scrD ns), .im (.int m), .ow (done.map fun j => .list [tx (syT (ru8 ns j).1), tx (syT (ru8 ns j).2)]), a, b, c] ∧ done.length ≤ 8) ⟨_, _, _, rfl, by simp⟩ ?_ ?_
  · rintro done j rest ρ e ⟨a, b, c, rfl, hd⟩
    have hj : j < m := List.mem_range.mp (mem_mid e)
    have k2 := e_cell_at ns (2 + 2 * j)
    have k3 := e_cell_at ns (3 + 2 * j)
    have dl : done.length < 8 := by
      have := congrArg List.length e
      simp at this; omega
    have h1 : done.length < sizeLine := small_lt (by omega)
    have s1 := e_lsymbol (ns.getD (2 + 2 * j) 0) (m := j) (by omega)
    have s2 := e_lsymbol (ns.getD (3 + 2 * j) 0) (m := j) (by omega)
    rw [show (((2 + 2 * j : Nat)) : Int) = 2 + 2 * (j : Int) by omega] at k2
    rw [show (((3 + 2 * j : Nat)) : Int) = 3 + 2 * (j : Int) by omega] at k3
    simp only [List.getD_eq_getElem?_getD] at k2 k3 s1 s2
    refine ⟨_, rfl, ?_⟩
    have mu : mulD (.int 2) (.int (j : Int)) = some (.int (2 * (j : Int))) := mul_int (by omega)
    simp [mu, k2, k3, s1, s2, h1, ru8]
    omega
  · rintro ρ ⟨a, b, c, rfl, hd⟩
    simp [c1, d7, m6, r2]
    refine forL_O (List.range n) (fun dn ρ => ∃ a c, ρ = [.im (scrD ns), .im (.int m), .ow (done9 ns m), a, .ow (dn.map fun j => tx (syT (lsy (ns.getD (20 + j) 0) m))), c] ∧ dn.length ≤ 5) ⟨_, _, rfl, by simp⟩ ?_ ?_
    · rintro dn j rest ρ e ⟨a, c, rfl, hd⟩
      have dl : dn.length < 5 := by
        have := congrArg List.length e
        simp at this; omega
      have h1 : dn.length < sizeLine := small_lt (by omega)
      have k2 := e_cell_at ns (20 + j)
      have s1 := e_lsymbol (ns.getD (20 + j) 0) (m := m) (by omega)
      rw [show (((20 + j : Nat)) : Int) = 20 + (j : Int) by omega] at k2
      simp only [List.getD_eq_getElem?_getD] at k2 s1
      refine ⟨_, rfl, ?_⟩
      simp [k2, s1, h1]
      omega
    · rintro ρ ⟨a, c, rfl, hd⟩
      have ha : done9 ns m ++ [PyData.list ((List.range n).map fun j => tx (syT (lsy (ns.getD (20 + j) 0) m)))] = rwD ((rowsL (rs8 ns m) (row8 ns m)).map (List.map syT)) := by
        unfold rwD rowsL rs8 row8 done9
        rw [hnn]
        simp [pairL, Function.comp]
      have hl : (done9 ns m).length + 1 ≤ sizeLine := few (by simp [done9]; omega)
      rw [← ha]
      generalize ((List.range n).map fun j => tx (syT (lsy (ns.getD (20 + j) 0) m))) = X at *
      generalize done9 ns m = Y at *
      simp [hl]

def NoSy (m : Nat) (d : D) : Prop := f_is_symbol [d, .int m] = .ok (.bool false)
theorem nosy_int {i : Int} {m : Nat} (h : i < 0 ∨ (m : Int) ≤ i) : NoSy m (.int i) := by
  have e : f_is_number [.int i] = .ok (.bool (decide (0 ≤ i))) := by
    refine fn_of rfl ?_
    simp [b_is_number]
  refine fn_of rfl ?_
  by_cases q : 0 ≤ i
  · have q2 : ¬ i < (m : Int) := by omega
    simp [b_is_symbol, e, q, q2]
  · simp [b_is_symbol, e, q]
theorem nosy_big {k m : Nat} (h : m ≤ k) : NoSy m (Sy.n k).d := nosy_int (.inr (by omega))
theorem norule1 {ds : List D} {m : Nat} (h : ds.length ≠ 2) : f_is_rule [.tuple ds, .int m] = .ok (.bool false) := by
  refine fn_of rfl ?_
  have h2 : ¬ (ds.length : Int) = 2 := by omega
  simp [b_is_rule, h2]
theorem norule2 {a b : D} {m : Nat} (h : NoSy m a ∨ (f_is_symbol [a, .int m] = .ok (.bool true) ∧ NoSy m b)) : f_is_rule [.tuple [a, b], .int m] = .ok (.bool false) := by
  refine fn_of rfl ?_
  rcases h with h | ⟨h1, h2⟩
  · have h : f_is_symbol [a, .int m] = .ok (.bool false) := h
    simp [b_is_rule, h]
  · have h2 : f_is_symbol [b, .int m] = .ok (.bool false) := h2
    simp [b_is_rule, h1, h2]
/-- a row that is no rule -/
def NoRu (m : Nat) (r : List Sy) : Prop := r.length ≠ 2 ∨ (∃ k b, r = [.n k, b] ∧ m ≤ k) ∨ ∃ a k, r = [a, .n k] ∧ a.ok m ∧ m ≤ k
theorem bad_row {pre : List (Sy × Sy)} {r : List Sy} {post : List (List Sy)} {es : List D} (hp : RsOk pre) (h : NoRu pre.length r) : Bad (.tuple [.list ((pre.map pairL ++ r :: post).map fun r => PyData.tuple (r.map Sy.d)), .list es]) := by
  have e : (pre.map pairL ++ r :: post).map (fun r => PyData.tuple (r.map Sy.d)) = pre.map rlD ++ PyData.tuple (r.map Sy.d) :: post.map fun r => PyData.tuple (r.map Sy.d) := by
    simp [pairL, rlD, Function.comp]
  rw [e]
  refine bad4 hp ?_
  rcases h with h | ⟨k, b, rfl, h⟩ | ⟨a, k, rfl, h1, h2⟩
  · exact norule1 (by simpa using h)
  · exact norule2 (.inl (nosy_big h))
  · exact norule2 (.inr ⟨e_is_symbol h1, nosy_big h2⟩)
theorem bad_last {rs : List (Sy × Sy)} {a b : List Sy} {k : Nat} (hp : RsOk rs) (ho : RoOk rs.length a) (h : rs.length ≤ k) : Bad (.tuple [.list ((rs.map pairL).map fun r => PyData.tuple (r.map Sy.d)), .list ((a ++ .n k :: b).map Sy.d)]) := by
  have e : (rs.map pairL).map (fun r => PyData.tuple (r.map Sy.d)) = rs.map rlD := by
    simp [pairL, rlD, Function.comp]
  rw [e, List.map_append, List.map_cons]
  exact bad5 hp ho (nosy_big h)

/-! ### texts that are refused -/
theorem nb_none {T : List Nat} (ht : Tn 100000 T) (h : PrIs [] [] T none) : f__law_refused [tx T] = .ok (.bool true) :=
  nobk_yes (nobk_none ht.1 ht.2 (h _ (Nat.lt_succ_self _)))
theorem nb_rows {T : List Nat} {RR : List (List Sy)} {last : List Sy} (ht : Tn 100000 T) (h : PrIs [] [] T (some (RR ++ [last]))) (hl : RR.length ≤ 1000000)
    (hb : Bad (.tuple [.list (RR.map fun r => PyData.tuple (r.map Sy.d)), .list (last.map Sy.d)])) : f__law_refused [tx T] = .ok (.bool true) :=
  nobk_yes (nobk_rows ht.1 ht.2 (h _ (Nat.lt_succ_self _)) hl hb)
theorem gd_rs {rs : List (Sy × Sy)} (h : RsOk rs) (hl : rs.length ≤ 600) : GdR (rs.map pairL) := fun r hr => by
  obtain ⟨x, hx, rfl⟩ := List.mem_map.mp hr
  obtain ⟨i, hi⟩ := List.mem_iff_getElem?.mp hx
  have h1 := (List.getElem?_eq_some_iff.mp hi).1
  have o := h i x hi
  refine ⟨by simp [pairL], fun s hs => ?_⟩
  simp [pairL] at hs
  rcases hs with rfl | rfl
  · exact o.1.mono (by omega)
  · exact o.2.mono (by omega)
theorem gd_app {A B : List (List Sy)} (h1 : GdR A) (h2 : GdR B) : GdR (A ++ B) := fun r hr => (List.mem_append.mp hr).elim (h1 r) (h2 r)
theorem gd_one {r : List Sy} (h1 : r ≠ []) (h2 : ∀ x ∈ r, x.ok 600) : GdR [r] := fun x hx => by
  rw [List.mem_singleton.mp hx]; exact ⟨h1, h2⟩
/-- good rules, then what cannot be read -/
theorem nb_after {pre : List (Sy × Sy)} {X : List Nat} (hr : RsOk pre) (hl : pre.length ≤ 600) (ht : Tn 100000 (rowsT (pre.map pairL) ++ X)) (h : PrIs (pre.map pairL) [] X none) : f__law_refused [tx (rowsT (pre.map pairL) ++ X)] = .ok (.bool true) :=
  nb_none ht (pi_rows _ [] (gd_rs hr hl) (by rw [List.nil_append]; exact h))
/-- rows that can be read, one of which is no rule -/
theorem nb_rule {pre : List (Sy × Sy)} {r : List Sy} {post : List (List Sy)} {last : List Sy} {T : List Nat} (hr : RsOk pre) (hl : pre.length + post.length ≤ 1000) (ht : Tn 100000 T)
    (h : PrIs [] [] T (some ((pre.map pairL ++ r :: post) ++ [last]))) (hn : NoRu pre.length r) : f__law_refused [tx T] = .ok (.bool true) :=
  nb_rows ht h (by simp; omega) (bad_row hr hn)

/-! ### the spoilers -/
theorem str_em : PyData.str ("" : Str) = tx [] := by unfold tx; congr 1
theorem str_x : PyData.str ("x" : Str) = tx [120] := by unfold tx; congr 1
theorem str_qx : PyData.str ("' x" : Str) = tx [39, 32, 120] := by unfold tx; congr 1
theorem str_00 : PyData.str ("00" : Str) = tx [48, 48] := by unfold tx; congr 1
theorem str_ab : PyData.str ("'ab" : Str) = tx [39, 97, 98] := by unfold tx; congr 1
theorem str_m1 : PyData.str ("-1" : Str) = tx [45, 49] := by unfold tx; congr 1
theorem str_1p : PyData.str ("1." : Str) = tx [49, 46] := by unfold tx; congr 1
theorem str_as : PyData.str ("'a " : Str) = tx [39, 97, 32] := by unfold tx; congr 1
theorem str_am : PyData.str ("'a '" : Str) = tx [39, 97, 32, 39] := by unfold tx; congr 1
theorem str_tab : PyData.str ("\t" : Str) = tx [9] := by unfold tx; congr 1
theorem at_ten {α : Type} {P : α → Prop} {c : Int} {a0 a1 a2 a3 a4 a5 a6 a7 a8 a9 : α} (h0 : P a0) (h1 : P a1) (h2 : P a2) (h3 : P a3) (h4 : P a4) (h5 : P a5) (h6 : P a6) (h7 : P a7) (h8 : P a8) (h9 : P a9) :
    ∃ d, atI [a0, a1, a2, a3, a4, a5, a6, a7, a8, a9] (c % 10) = some d ∧ P d := by
  rcases (show c % 10 = 0 ∨ c % 10 = 1 ∨ c % 10 = 2 ∨ c % 10 = 3 ∨ c % 10 = 4 ∨ c % 10 = 5 ∨ c % 10 = 6 ∨ c % 10 = 7 ∨ c % 10 = 8 ∨ c % 10 = 9 by omega) with e | e | e | e | e | e | e | e | e | e <;> rw [e]
  · exact ⟨_, atI_0, h0⟩
  · exact ⟨_, atI_1, h1⟩
  · exact ⟨_, atI_2, h2⟩
  · exact ⟨_, atI_3, h3⟩
  · exact ⟨_, atI_4, h4⟩
  · exact ⟨_, atI_ok (k := 5) rfl, h5⟩
  · exact ⟨_, atI_ok (k := 6) rfl, h6⟩
  · exact ⟨_, atI_ok (k := 7) rfl, h7⟩
  · exact ⟨_, atI_ok (k := 8) rfl, h8⟩
  · exact ⟨_, atI_ok (k := 9) rfl, h9⟩
/-- an odd thing in a rule's symbol's place: none, or a number that is too great -/
def OddR (at_ : Nat) (o : List Nat) : Prop := o ∈ Odd0 ∨ ∃ k, at_ ≤ k ∧ k < 600 ∧ o = syT (.n k)
theorem e_spoilt8 {L : List (List (List Nat))} {m : Nat} (cell : Int) (hm : 0 < m) (hm8 : m ≤ 8) (hl : L.length ≤ 20) (h2 : ∀ i, i < m → ∃ x y, L[i]? = some [x, y]) :
    ∃ i o x y, i < m ∧ L[i]? = some [x, y] ∧ OddR i o ∧ (f__law_spoilt [rwsD L, .int cell, .int m] = .ok (rwsD (L.take i ++ [o, y] :: L.drop (i + 1))) ∨ f__law_spoilt [rwsD L, .int cell, .int m] = .ok (rwsD (L.take i ++ [x, o] :: L.drop (i + 1)))) := by
  obtain ⟨i, hi, mi⟩ : ∃ i : Nat, i < m ∧ modD (.int (cell / 10)) (.int (m : Int)) = some (.int (i : Int)) := by
    have a := Int.emod_nonneg (cell / 10) (b := (m : Int)) (by omega)
    have b := Int.emod_lt_of_pos (cell / 10) (b := (m : Int)) (by omega)
    exact ⟨(cell / 10 % (m : Int)).toNat, by omega, by rw [mod_int (by omega)]; congr 2; omega⟩
  obtain ⟨x, y, hxy⟩ := h2 i hi
  have d10 : fdivD (.int cell) (.int 10) = some (.int (cell / 10)) := fdiv_int (by decide)
  have d80 : fdivD (.int cell) (.int 80) = some (.int (cell / 80)) := fdiv_int (by decide)
  have m2 : modD (.int (cell / 80)) (.int 2) = some (.int (cell / 80 % 2)) := mod_int (by decide)
  have m10 : modD (.int cell) (.int 10) = some (.int (cell % 10)) := mod_int (by decide)
  have s1 : strF [.int ((m : Int) + (i : Int))] = some (tx (dg (m + i))) := str_dg (n := m + i) (by omega)
  have s2 : strF [.int (i : Int)] = some (tx (dg i)) := str_dg (n := i) (by omega)
  obtain ⟨d, hat, o, rfl, ho⟩ := at_ten (c := cell) (P := fun d : D => ∃ o, d = tx o ∧ OddR i o) (a0 := .str ("" : Str)) (a1 := .str ("x" : Str)) (a2 := .str ("' x" : Str)) (a3 := .str ("00" : Str)) (a4 := tx (dg (m + i))) (a5 := .str ("'ab" : Str)) (a6 := .str ("-1" : Str)) (a7 := .str ("1." : Str)) (a8 := tx (dg i)) (a9 := .str ("'a " : Str))
    ⟨_, str_em, .inl (by simp [Odd0])⟩ ⟨_, str_x, .inl (by simp [Odd0])⟩ ⟨_, str_qx, .inl (by simp [Odd0])⟩ ⟨_, str_00, .inl (by simp [Odd0])⟩ ⟨_, rfl, .inr ⟨m + i, by omega, by omega, rfl⟩⟩ ⟨_, str_ab, .inl (by simp [Odd0])⟩ ⟨_, str_m1, .inl (by simp [Odd0])⟩ ⟨_, str_1p, .inl (by simp [Odd0])⟩ ⟨_, rfl, .inr ⟨i, by omega, by omega, rfl⟩⟩ ⟨_, str_as, .inl (by simp [Odd0])⟩
  refine ⟨i, o, x, y, hi, hxy, ho, ?_⟩
  have hat2 : atI (rwD L) (i : Int) = some (.list [tx x, tx y]) := atI_ok (by simp [rwD, hxy])
  have c1 : slD none (some (i : Int)) (.list (rwD L)) = some (.list ((rwD L).take i)) := by rw [sl_list, cutL_0n]
  have c2 : slD (some ((i : Int) + 1)) none (.list (rwD L)) = some (.list ((rwD L).drop (i + 1))) := by rw [sl_list]; exact congrArg (fun z => some (PyData.list z)) (cutL_n (rwD L) (i + 1))
  have lr : (rwD L).length = L.length := by simp [rwD]
  have a1 : ∀ p : D, addD (.list ((rwD L).take i)) (.list [p]) = some (.list ((rwD L).take i ++ [p])) := fun p => add_list (by simp; omega)
  have a2 : ∀ p : D, addD (.list ((rwD L).take i ++ [p])) (.list ((rwD L).drop (i + 1))) = some (.list ((rwD L).take i ++ [p] ++ (rwD L).drop (i + 1))) := fun p => add_list (by simp; omega)
  have fin : ∀ a b, (rwD L).take i ++ [PyData.list [tx a, tx b]] ++ (rwD L).drop (i + 1) = rwD (L.take i ++ [a, b] :: L.drop (i + 1)) := fun a b => by
    simp [rwD, List.map_take, List.map_drop]
  have i0 : ∀ p q : D, atI [p, q] 0 = some p := fun _ _ => rfl
  have i1 : ∀ p q : D, atI [p, q] 1 = some q := fun _ _ => rfl
  unfold rwsD
  rcases (show cell / 80 % 2 = 0 ∨ cell / 80 % 2 = 1 by omega) with e | e
  · left
    have b1 := a1 (.list [tx o, tx y])
    have b2 := a2 (.list [tx o, tx y])
    rw [fin] at b2
    clear a1 a2 fin lr
    refine fn_of rfl ?_
    generalize rwD (L.take i ++ [o, y] :: L.drop (i + 1)) = A2 at *
    generalize (rwD L).take i ++ [.list [tx o, tx y]] = A1 at *
    generalize (rwD L).take i = A at *
    generalize (rwD L).drop (i + 1) = B at *
    generalize rwD L = Q at *
    simp only [b__law_spoilt, v_mSeq, v_mAsg]
    simp [d10, mi, d80, m2, m10, s1, s2, hat, hat2, i1, e, -sl_list, c1, c2, b1, b2]
  · right
    have b1 := a1 (.list [tx x, tx o])
    have b2 := a2 (.list [tx x, tx o])
    rw [fin] at b2
    clear a1 a2 fin lr
    refine fn_of rfl ?_
    generalize rwD (L.take i ++ [x, o] :: L.drop (i + 1)) = A2 at *
    generalize (rwD L).take i ++ [.list [tx x, tx o]] = A1 at *
    generalize (rwD L).take i = A at *
    generalize (rwD L).drop (i + 1) = B at *
    generalize rwD L = Q at *
    simp only [b__law_spoilt, v_mSeq, v_mAsg]
    simp [d10, mi, d80, m2, m10, s1, s2, hat, hat2, i0, i1, e, -sl_list, c1, c2, b1, b2]

/-- an odd thing in the row -/
def OddL (m : Nat) (o : List Nat) : Prop := (o ∈ Odd0 ∧ o ≠ []) ∨ o = [39, 97, 32, 39] ∨ ∃ k, m ≤ k ∧ k < 600 ∧ o = syT (.n k)
theorem rw_snoc (A : List (List (List Nat))) (z : List (List Nat)) : rwD (A ++ [z]) = rwD A ++ [.list (z.map tx)] := by simp [rwD]
theorem e_last8 {A : List (List (List Nat))} {z : List (List Nat)} {m : Nat} (cell : Int) (hm : m ≤ 8) (hl : A.length ≤ 20) (hz : z.length ≤ 20) :
    ∃ p o, p ≤ z.length ∧ OddL m o ∧ f__law_last [rwsD (A ++ [z]), .int cell, .int m] = .ok (rwsD (A ++ [z.take p ++ o :: z.drop p])) := by
  obtain ⟨p, hp, mp⟩ : ∃ p : Nat, p ≤ z.length ∧ modD (.int (cell / 10)) (.int ((z.length : Int) + 1)) = some (.int (p : Int)) := by
    have a := Int.emod_nonneg (cell / 10) (b := (z.length : Int) + 1) (by omega)
    have b := Int.emod_lt_of_pos (cell / 10) (b := (z.length : Int) + 1) (by omega)
    exact ⟨(cell / 10 % ((z.length : Int) + 1)).toNat, by omega, by rw [mod_int (by omega)]; congr 2; omega⟩
  have d10 : fdivD (.int cell) (.int 10) = some (.int (cell / 10)) := fdiv_int (by decide)
  have m10 : modD (.int cell) (.int 10) = some (.int (cell % 10)) := mod_int (by decide)
  have s1 : strF [.int (m : Int)] = some (tx (dg m)) := str_dg (n := m) (by omega)
  have s2 : strF [.int ((m : Int) + 7)] = some (tx (dg (m + 7))) := str_dg (n := m + 7) (by omega)
  obtain ⟨d, hat, o, rfl, ho⟩ := at_ten (c := cell) (P := fun d : D => ∃ o, d = tx o ∧ OddL m o) (a0 := .str ("\t" : Str)) (a1 := .str ("x" : Str)) (a2 := .str ("' x" : Str)) (a3 := .str ("00" : Str)) (a4 := tx (dg m)) (a5 := tx (dg (m + 7))) (a6 := .str ("'ab" : Str)) (a7 := .str ("-1" : Str)) (a8 := .str ("1." : Str)) (a9 := .str ("'a '" : Str))
    ⟨_, str_tab, .inl (by simp [Odd0])⟩ ⟨_, str_x, .inl (by simp [Odd0])⟩ ⟨_, str_qx, .inl (by simp [Odd0])⟩ ⟨_, str_00, .inl (by simp [Odd0])⟩ ⟨_, rfl, .inr (.inr ⟨m, by omega, by omega, rfl⟩)⟩ ⟨_, rfl, .inr (.inr ⟨m + 7, by omega, by omega, rfl⟩)⟩ ⟨_, str_ab, .inl (by simp [Odd0])⟩ ⟨_, str_m1, .inl (by simp [Odd0])⟩ ⟨_, str_1p, .inl (by simp [Odd0])⟩ ⟨_, str_am, .inr (.inl rfl)⟩
  refine ⟨p, o, hp, ho, ?_⟩
  have negm : negF [.int 1] = some (.int (-1)) := rfl
  have x1 : atI (rwD A ++ [.list (z.map tx)]) (-1) = some (.list (z.map tx)) := atI_m1 (by simp)
  have c0 : slD none (some (-1)) (.list (rwD A ++ [.list (z.map tx)])) = some (.list (rwD A)) := by rw [sl_list, cutL_m1, List.dropLast_concat]
  have c1 : slD none (some (p : Int)) (.list (z.map tx)) = some (.list ((z.map tx).take p)) := by rw [sl_list, cutL_0n]
  have c2 : slD (some (p : Int)) none (.list (z.map tx)) = some (.list ((z.map tx).drop p)) := by rw [sl_list, cutL_n]
  have lz : lenF [.list (z.map tx)] = some (.int z.length) := by rw [len_list, List.length_map]
  have lA : (rwD A).length = A.length := by simp [rwD]
  have a1 : addD (.list ((z.map tx).take p)) (.list [tx o]) = some (.list ((z.map tx).take p ++ [tx o])) := add_list (by simp; omega)
  have a2 : addD (.list ((z.map tx).take p ++ [tx o])) (.list ((z.map tx).drop p)) = some (.list ((z.map tx).take p ++ [tx o] ++ (z.map tx).drop p)) := add_list (by simp; omega)
  have a3 : addD (.list (rwD A)) (.list [.list ((z.map tx).take p ++ [tx o] ++ (z.map tx).drop p)]) = some (.list (rwD A ++ [.list ((z.map tx).take p ++ [tx o] ++ (z.map tx).drop p)])) := add_list (by simp; omega)
  have fin : rwD A ++ [PyData.list ((z.map tx).take p ++ [tx o] ++ (z.map tx).drop p)] = rwD (A ++ [z.take p ++ o :: z.drop p]) := by
    rw [rw_snoc]
    simp [List.map_take, List.map_drop]
  rw [fin] at a3
  unfold rwsD
  rw [rw_snoc A z]
  refine fn_of rfl ?_
  clear fin
  generalize rwD (A ++ [z.take p ++ o :: z.drop p]) = A3 at *
  generalize (z.map tx).take p ++ [tx o] ++ (z.map tx).drop p = A2 at *
  generalize (z.map tx).take p ++ [tx o] = A1 at *
  generalize (z.map tx).take p = Z1 at *
  generalize (z.map tx).drop p = Z2 at *
  generalize rwD A ++ [.list (z.map tx)] = Q at *
  generalize rwD A = QA at *
  generalize z.map tx = Z at *
  simp only [b__law_last, v_mSeq, v_mAsg]
  simp [d10, m10, s1, s2, hat, negm, x1, -sl_list, -len_list, c0, c1, c2, lz, mp, a1, a2, a3]
theorem str_sq : PyData.str (" '" : Str) = tx [32, 39] := by unfold tx; congr 1
theorem e_cut8 {A : List (List (List Nat))} {z : List (List Nat)} (ok : RwOk (A ++ [z])) (hz : ∀ t ∈ z, t ≠ [])
    (h1 : f__law_refused [tx (lineT (A ++ [z]) ++ [32, 39])] = .ok (.bool true))
    (h2 : ∀ z' t, z = z' ++ [39 :: t] → f__law_refused [tx (lineT (A ++ [z])).dropLast] = .ok (.bool true)) : f__law_cut [rwsD (A ++ [z])] = .ok (.bool true) := by
  have tn := line_tn ok
  have el : f__law_line [rwsD (A ++ [z])] = .ok (tx (lineT (A ++ [z]))) := e_line8 (fun r hr => by
    have a := flat_len (n := 20) r fun l hl => ((ok.2 r hr).2 l hl).1
    have b := (ok.2 r hr).1
    have : r.length * 20 ≤ 20 * 20 := Nat.mul_le_mul_right 20 b
    omega) (by have := ok.1; omega)
  generalize lineT (A ++ [z]) = T at *
  have ad : addD (tx T) (.str (" '" : Str)) = some (tx (T ++ [32, 39])) := by
    rw [str_sq, add_tx]
    have := tn.1
    simp only [List.length_cons, List.length_nil]; omega
  have negm : negF [.int 1] = some (.int (-1)) := rfl
  have x1 : atI (rwD A ++ [.list (z.map tx)]) (-1) = some (.list (z.map tx)) := atI_m1 (by simp)
  have sl : slD none (some (-1)) (tx T) = some (tx T.dropLast) := by
    rw [sl_tx (by have := tn.1; omega), cutL_m1]
  have lz : lenF [.list (z.map tx)] = some (.int z.length) := by rw [len_list, List.length_map]
  unfold rwsD at el ⊢
  rw [rw_snoc] at el ⊢
  refine fn_of rfl ?_
  rcases List.eq_nil_or_concat z with e | ⟨z', t, e⟩
  · subst e
    generalize rwD A ++ [.list (([] : List (List Nat)).map tx)] = Q at *
    simp [b__law_cut, el, ad, h1, negm, x1]
  · rw [List.concat_eq_append] at e
    have zl : 0 < z.length := by rw [e]; simp
    have x2 : atI (z.map tx) (-1) = some (tx t) := atI_m1 (by rw [e]; simp)
    have tne := hz t (by rw [e]; simp)
    obtain ⟨c, u, rfl⟩ : ∃ c u, t = c :: u := by
      cases t with
      | nil => exact absurd rfl tne
      | cons c u => exact ⟨c, u, rfl⟩
    have tk : ∀ x ∈ c :: u, x < 1114112 := ((ok.2 z (by simp)).2 (c :: u) (by rw [e]; simp)).2
    have tl : (c :: u).length ≤ 20 := ((ok.2 z (by simp)).2 (c :: u) (by rw [e]; simp)).1
    have x3 : ixD (tx (c :: u)) (.int 0) = some (ch c) := ix_tx (by omega) (by omega) rfl
    have q := eq_ch (a := c) (b := 39) (tk c (by simp)) (by omega)
    generalize rwD A ++ [.list (z.map tx)] = Q at *
    generalize hZ : z.map tx = Z at *
    by_cases c39 : c = 39
    · subst c39
      have h2 := h2 z' u e
      simp [b__law_cut, el, ad, h1, negm, x1, lz, -len_list, zl, x2, x3, str_q, q, sl, h2]
    · simp [b__law_cut, el, ad, h1, negm, x1, lz, -len_list, zl, x2, x3, str_q, q, c39]

/-! ### the ways of the law -/
def Tm (r : List Sy) : List (List Nat) := r.map syT
theorem Tn.mono {a b : Nat} {T : List Nat} (h : Tn a T) (hl : a ≤ b) : Tn b T := ⟨Nat.le_trans h.1 hl, h.2⟩
/-- a text of a symbol's place -/
def TkOk (t : List Nat) : Prop := t.length ≤ 20 ∧ ∀ c ∈ t, c < 1114112
def RowOk (r : List (List Nat)) : Prop := r.length ≤ 20 ∧ ∀ t ∈ r, TkOk t
theorem tk_sy {s : Sy} (h : s.ok 600) : TkOk (syT s) := ⟨by have := (syT_len (m := 600) (by omega) h).2; omega, syT_ok (m := 600) (by omega) h⟩
theorem tk_odd0 : ∀ {o : List Nat}, o ∈ Odd0 → TkOk o := fun {o} h => by
  have : ∀ o ∈ Odd0, o.length ≤ 20 ∧ ∀ c ∈ o, c < 1114112 := by decide
  exact this o h
theorem rk_sy {r : List Sy} (hl : r.length ≤ 20) (h : ∀ x ∈ r, x.ok 600) : RowOk (Tm r) := ⟨by simpa [Tm] using hl, fun t ht => by
  obtain ⟨s, hs, rfl⟩ := List.mem_map.mp ht
  exact tk_sy (h s hs)⟩
theorem rk_two {x y : List Nat} (hx : TkOk x) (hy : TkOk y) : RowOk [x, y] := ⟨by simp, fun t ht => by
  simp at ht
  rcases ht with rfl | rfl
  · exact hx
  · exact hy⟩
theorem rk_one {x : List Nat} (hx : TkOk x) : RowOk [x] := ⟨by simp, fun t ht => by
  rw [List.mem_singleton.mp ht]; exact hx⟩
theorem rw_of {L : List (List (List Nat))} (hl : L.length ≤ 20) (h : ∀ r ∈ L, RowOk r) : RwOk L := ⟨hl, h⟩
/-- the rows of good symbols -/
def SyOk (RR : List (List Sy)) : Prop := ∀ r ∈ RR, r.length ≤ 20 ∧ ∀ x ∈ r, x.ok 600
theorem rk_all {RR : List (List Sy)} (h : SyOk RR) : ∀ r ∈ RR.map Tm, RowOk r := fun r hr => by
  obtain ⟨q, hq, rfl⟩ := List.mem_map.mp hr
  exact rk_sy (h q hq).1 (h q hq).2
theorem sy_rs {rs : List (Sy × Sy)} (h : RsOk rs) (hl : rs.length ≤ 600) : SyOk (rs.map pairL) := fun r hr => by
  have g := gd_rs h hl r hr
  obtain ⟨x, _, rfl⟩ := List.mem_map.mp hr
  exact ⟨by simp [pairL], g.2⟩
theorem sy_app {A B : List (List Sy)} (h1 : SyOk A) (h2 : SyOk B) : SyOk (A ++ B) := fun r hr => (List.mem_append.mp hr).elim (h1 r) (h2 r)
theorem sy_one {r : List Sy} (h1 : r.length ≤ 20) (h2 : ∀ x ∈ r, x.ok 600) : SyOk [r] := fun x hx => by
  rw [List.mem_singleton.mp hx]; exact ⟨h1, h2⟩
theorem gd_sy {A : List (List Sy)} (h : GdR A) (hl : ∀ r ∈ A, r.length ≤ 20) : SyOk A := fun r hr => ⟨hl r hr, (h r hr).2⟩
theorem lineT_book (RR : List (List Sy)) (row : List Sy) : lineT ((RR ++ [row]).map Tm) = rowsT RR ++ rowT row := by
  rw [List.map_append]
  exact lineT_pre RR (X := [row.map syT]) (by simp)
theorem tn_sy {RR : List (List Sy)} (hl : RR.length ≤ 20) (h : SyOk RR) : Tn 10000 (lineT (RR.map Tm)) := line_tn (rw_of (by simpa using hl) (rk_all h))
/-- small rows whose text is refused -/
def RF (L : List (List (List Nat))) : Prop := RwOk L ∧ f__law_refused [tx (lineT L)] = .ok (.bool true)
/-- rows that can be read, one of them no rule -/
theorem nb_badrow {pre : List (Sy × Sy)} {r : List Sy} {post : List (List Sy)} {row : List Sy} (hr : RsOk pre) (hl : pre.length + post.length ≤ 15) (h1 : r ≠ []) (h2 : SyOk [r]) (h3 : GdR post) (h4 : SyOk post) (h5 : SyOk [row]) (hn : NoRu pre.length r) :
    RF ((pre.map pairL ++ r :: post ++ [row]).map Tm) := by
  have g : GdR (pre.map pairL ++ r :: post) := gd_app (gd_rs hr (by omega)) (gd_app (gd_one h1 (h2 r (by simp)).2) h3)
  have s : SyOk (pre.map pairL ++ r :: post) := sy_app (sy_rs hr (by omega)) (sy_app (A := [r]) h2 h4)
  have rw0 : RwOk ((pre.map pairL ++ r :: post ++ [row]).map Tm) := rw_of (by simp; omega) (rk_all (sy_app s h5))
  have tn := line_tn rw0
  refine ⟨rw0, ?_⟩
  rw [lineT_book] at tn ⊢
  exact nb_rule hr (by omega) (tn.mono (by omega)) (pi_book g (h5 row (by simp)).2) hn
/-- good rules, then rows that cannot be read -/
theorem nb_mid {pre : List (Sy × Sy)} {Y : List (List (List Nat))} (hr : RsOk pre) (hl : pre.length + Y.length ≤ 20) (ne : Y ≠ []) (hy : ∀ r ∈ Y, RowOk r) (h : PrIs (pre.map pairL) [] (lineT Y) none) :
    RF ((pre.map pairL).map Tm ++ Y) := by
  have rw0 : RwOk ((pre.map pairL).map Tm ++ Y) := rw_of (by simp; omega) fun r hr2 => (List.mem_append.mp hr2).elim (rk_all (sy_rs hr (by omega)) r) (hy r)
  have tn := line_tn rw0
  refine ⟨rw0, ?_⟩
  have e : lineT ((pre.map pairL).map Tm ++ Y) = rowsT (pre.map pairL) ++ lineT Y := lineT_pre _ ne
  rw [e] at tn ⊢
  exact nb_after hr (by omega) (tn.mono (by omega)) h
theorem tm_pair (a b : Sy) : Tm (pairL (a, b)) = [syT a, syT b] := rfl
/-- a rule's place in the book -/
theorem split_at {rs : List (Sy × Sy)} {i : Nat} (h : i < rs.length) : ∃ pre a b post, rs = pre ++ (a, b) :: post ∧ pre.length = i := by
  have e := List.take_append_drop i rs
  rw [List.drop_eq_getElem_cons h] at e
  exact ⟨_, rs[i].1, rs[i].2, _, e.symm, by simp; omega⟩
structure B8 (rs : List (Sy × Sy)) (row : List Sy) : Prop where
  hr : RsOk rs
  ho : RoOk rs.length row
  n : rs.length ≤ 8
  l : row.length ≤ 5
section
variable {rs pre post : List (Sy × Sy)} {row : List Sy} {a b : Sy}
theorem B8.row6 (h : B8 rs row) : ∀ x ∈ row, x.ok 600 := fun x hx => (h.ho x hx).mono (by have := h.n; omega)
theorem B8.syrow (h : B8 rs row) : SyOk [row] := sy_one (by have := h.l; omega) h.row6
theorem B8.sy (h : B8 rs row) : SyOk (rs.map pairL) := sy_rs h.hr (by have := h.n; omega)
theorem B8.gd (h : B8 rs row) : GdR (rs.map pairL) := gd_rs h.hr (by have := h.n; omega)
theorem B8.rpre (h : B8 rs row) (e : rs = pre ++ (a, b) :: post) : RsOk pre := h.hr.pre e
theorem B8.at (h : B8 rs row) (e : rs = pre ++ (a, b) :: post) : a.ok pre.length ∧ b.ok pre.length ∧ pre.length + post.length + 1 ≤ 8 := by
  have o := h.hr.at e
  have := h.n
  rw [e] at this
  simp at this
  exact ⟨o.1, o.2, by omega⟩
theorem B8.gpost (h : B8 rs row) (e : rs = pre ++ (a, b) :: post) : GdR (post.map pairL) := fun r hr => h.gd r (by rw [e]; simp at hr ⊢; right; right; exact hr)
theorem B8.spost (h : B8 rs row) (e : rs = pre ++ (a, b) :: post) : SyOk (post.map pairL) := gd_sy (h.gpost e) fun r hr => by
  obtain ⟨x, _, rfl⟩ := List.mem_map.mp hr
  simp [pairL]
/-- the book's rows -/
def L0 (rs : List (Sy × Sy)) (row : List Sy) : List (List (List Nat)) := (rowsL rs row).map Tm
theorem L0_at (e : rs = pre ++ (a, b) :: post) : L0 rs row = (pre.map pairL).map Tm ++ [syT a, syT b] :: L0 post row := by
  unfold L0 rowsL
  rw [e]
  simp [tm_pair]
theorem L0_ok (h : B8 rs row) : RwOk (L0 rs row) := rw_of (by have := h.n; simp [L0, rowsL]; omega) (rk_all (sy_app h.sy h.syrow))
theorem Z_ok (h : B8 rs row) (e : rs = pre ++ (a, b) :: post) : ∀ r ∈ L0 post row, RowOk r := rk_all (sy_app (h.spost e) h.syrow)
theorem Z_len : (L0 post row).length = post.length + 1 := by simp [L0, rowsL]
theorem Z_ne : L0 post row ≠ [] := fun e => by have := Z_len (post := post) (row := row); rw [e] at this; cases this
/-- with another row in a rule's place -/
theorem put_none (h : B8 rs row) (e : rs = pre ++ (a, b) :: post) {q : List (List Nat)} (hq : RowOk q) (k : ∀ R, PrIs R [] (inter [32] q ++ 10 :: lineT (L0 post row)) none) :
    RF ((pre.map pairL).map Tm ++ q :: L0 post row) := by
  have o := h.at e
  refine nb_mid (h.rpre e) (by rw [List.length_cons, Z_len]; omega) (by simp) (fun r hr => ?_) ?_
  · rcases List.mem_cons.mp hr with rfl | hr
    · exact hq
    · exact Z_ok h e r hr
  · rw [lineT_cc _ Z_ne]; exact k _
theorem put_bad (h : B8 rs row) (e : rs = pre ++ (a, b) :: post) {r : List Sy} (h1 : r ≠ []) (h2 : SyOk [r]) (hn : NoRu pre.length r) :
    RF ((pre.map pairL).map Tm ++ Tm r :: L0 post row) := by
  have o := h.at e
  have := nb_badrow (h.rpre e) (r := r) (post := post.map pairL) (row := row) (by simp; omega) h1 h2 (h.gpost e) (h.spost e) h.syrow hn
  have e2 : (pre.map pairL).map Tm ++ Tm r :: L0 post row = (pre.map pairL ++ r :: post.map pairL ++ [row]).map Tm := by
    unfold L0 rowsL
    simp
  rw [e2]; exact this
/-- way 2: an odd thing in a rule -/
theorem way_spoilt (h : B8 rs row) (e : rs = pre ++ (a, b) :: post) {o : List Nat} (ho : OddR pre.length o) :
    RF ((pre.map pairL).map Tm ++ [o, syT b] :: L0 post row) ∧ RF ((pre.map pairL).map Tm ++ [syT a, o] :: L0 post row) := by
  have q := h.at e
  have a6 : a.ok 600 := q.1.mono (by omega)
  have b6 : b.ok 600 := q.2.1.mono (by omega)
  rcases ho with ho | ⟨k, k1, k2, rfl⟩
  · constructor
    · refine put_none h e (rk_two (tk_odd0 ho) (tk_sy b6)) fun R => ?_
      rw [inter_two, List.append_assoc, List.append_assoc]
      exact odd_none ho (.inl ⟨32, _, rfl, .inr rfl⟩) R []
    · refine put_none h e (rk_two (tk_sy a6) (tk_odd0 ho)) fun R => ?_
      rw [inter_two, List.append_assoc, List.append_assoc]
      exact pi_tok a6 (by simp) (odd_none ho (.inl ⟨10, _, rfl, .inl rfl⟩) R _)
  · constructor
    · exact put_bad h e (r := [.n k, b]) (by simp) (sy_one (by simp) fun x hx => by
        simp at hx
        rcases hx with rfl | rfl
        · exact k2
        · exact b6) (.inr (.inl ⟨k, b, rfl, k1⟩))
    · exact put_bad h e (r := [a, .n k]) (by simp) (sy_one (by simp) fun x hx => by
        simp at hx
        rcases hx with rfl | rfl
        · exact a6
        · exact k2) (.inr (.inr ⟨a, k, rfl, q.1, k1⟩))
/-- way 3: a row of one or three -/
theorem way_three (h : B8 rs row) (e : rs = pre ++ (a, b) :: post) :
    RF ((pre.map pairL).map Tm ++ [syT a] :: L0 post row) ∧ RF ((pre.map pairL).map Tm ++ [syT a, [39, 97], [39, 98]] :: L0 post row) := by
  have q := h.at e
  have a6 : a.ok 600 := q.1.mono (by omega)
  constructor
  · exact put_bad h e (r := [a]) (by simp) (sy_one (by simp) fun x hx => by
      simp at hx; rw [hx]; exact a6) (.inl (by simp))
  · exact put_bad h e (r := [a, .s 97, .s 98]) (by simp) (sy_one (by simp) fun x hx => by
      simp at hx
      rcases hx with rfl | rfl | rfl
      · exact a6
      · show 97 < 1114112; omega
      · show 98 < 1114112; omega) (.inl (by simp))
theorem Tk_app {x y : List Nat} (h1 : x.length ≤ 3) (h2 : ∀ c ∈ x, c < 1114112) (h3 : y.length ≤ 3) (h4 : ∀ c ∈ y, c < 1114112) : TkOk (x ++ y) := ⟨by simp; omega, fun c hc => (List.mem_append.mp hc).elim (h2 c) (h4 c)⟩
/-- way 5, 3: a blank more, or none -/
theorem way_blank (h : B8 rs row) (e : rs = pre ++ (a, b) :: post) :
    RF ((pre.map pairL).map Tm ++ [syT a ++ [32], syT b] :: L0 post row) ∧ RF ((pre.map pairL).map Tm ++ [syT a ++ syT b] :: L0 post row) ∧
    RF ((pre.map pairL).map Tm ++ [[32] ++ syT a, syT b] :: L0 post row) := by
  have q := h.at e
  have a6 : a.ok 600 := q.1.mono (by omega)
  have b6 : b.ok 600 := q.2.1.mono (by omega)
  have la := (syT_len (m := 600) (by omega) a6).2
  have lb := (syT_len (m := 600) (by omega) b6).2
  have ca := syT_ok (m := 600) (by omega) a6
  have cb := syT_ok (m := 600) (by omega) b6
  refine ⟨?_, ?_, ?_⟩
  · refine put_none h e (rk_two (Tk_app la ca (by simp) (by simp)) (tk_sy b6)) fun R => ?_
    rw [inter_two, List.append_assoc, List.append_assoc, List.append_assoc]
    exact pi_tok a6 (by simp) (pi_bad (by simp) (sym_odd (by omega) fig32))
  · rcases glued (a := a) (b := b) (q.1.mono (by omega)) (q.2.1.mono (by omega)) (lineT (L0 post row)) with g | ⟨k, k1, g⟩
    · refine put_none h e (rk_one (Tk_app la ca lb cb)) fun R => ?_
      rw [inter_one]
      exact g R []
    · rw [g]
      exact put_bad h e (r := [.n k]) (by simp) (sy_one (by simp) fun x hx => by
        simp at hx; rw [hx]; show k < 600; omega) (.inl (by simp))
  · refine put_none h e (rk_two (Tk_app (by simp) (by simp) la ca) (tk_sy b6)) fun R => ?_
    rw [inter_two, List.append_assoc, List.append_assoc, List.append_assoc]
    exact pi_bad (by simp) (sym_odd (by omega) fig32)
theorem L0_text (rs : List (Sy × Sy)) (row : List Sy) : lineT (L0 rs row) = rowsT (rs.map pairL) ++ rowT row := lineT_book _ _
theorem L0_tn (h : B8 rs row) : Tn 10000 (lineT (L0 rs row)) := line_tn (L0_ok h)
theorem tn_few {x : List Nat} (h1 : x.length ≤ 100) (h2 : ∀ c ∈ x, c < 1114112) : Tn 100 x := ⟨h1, h2⟩
/-- a row's text as symbols with a blank each, and the last one -/
theorem rowT_snoc (a : List Sy) (s : Sy) : rowT (a ++ [s]) = (a.map fun s => syT s ++ [32]).flatten ++ syT s := by
  unfold rowT
  rw [List.map_append, List.map_cons, List.map_nil, inter_pre _ _ (by simp), inter_one, List.map_map]
  rfl
/-- behind a row that is not empty -/
theorem behind (h : B8 rs row) {X : List Nat} (hX : Tn 100 X) (k : (row = [] ∧ ∀ R, PrIs R [] X none) ∨ ∃ z s, row = z ++ [s] ∧ ∀ R r, PrIs R r (syT s ++ X) none) : f__law_refused [tx (lineT (L0 rs row) ++ X)] = .ok (.bool true) := by
  have tn := (L0_tn h).app hX (n := 100000) (by omega)
  rw [L0_text] at tn ⊢
  have := h.n
  rcases k with ⟨rfl, k⟩ | ⟨z, s, rfl, k⟩
  · have e : rowT ([] : List Sy) = [] := rfl
    rw [e, List.append_nil] at tn ⊢
    exact nb_after h.hr (by omega) tn (k _)
  · have r6 := h.row6
    rw [rowT_snoc, List.append_assoc, List.append_assoc] at tn ⊢
    refine nb_after h.hr (by omega) tn (pi_toks z [] (fun x hx => r6 x (by simp [hx])) ?_ (k _ _))
    intro e
    exact syT_ne (r6 s (by simp)) (List.append_eq_nil_iff.mp e).1
theorem snoc_or (row : List Sy) : row = [] ∨ ∃ z s, row = z ++ [s] := by
  rcases List.eq_nil_or_concat row with e | ⟨z, s, e⟩
  · exact .inl e
  · exact .inr ⟨z, s, by rw [e, List.concat_eq_append]⟩
/-- a mark at the end -/
theorem way_mark (h : B8 rs row) : f__law_refused [tx (lineT (L0 rs row) ++ [32, 39])] = .ok (.bool true) := by
  refine behind h (tn_few (by simp) (by simp)) ?_
  rcases snoc_or row with rfl | ⟨z, s, rfl⟩
  · exact .inl ⟨rfl, fun R => pi_bad (by simp) (sym_odd (by omega) fig32)⟩
  · refine .inr ⟨z, s, rfl, fun R r => pi_tok (h.row6 s (by simp)) (by simp) (pi_bad (by simp) rfl)⟩
/-- a blank at the end -/
theorem way_sp (h : B8 rs row) : f__law_refused [tx (lineT (L0 rs row) ++ [32])] = .ok (.bool true) := by
  refine behind h (tn_few (by simp) (by simp)) ?_
  rcases snoc_or row with rfl | ⟨z, s, rfl⟩
  · exact .inl ⟨rfl, fun R => pi_bad (by simp) (sym_odd (by omega) fig32)⟩
  · refine .inr ⟨z, s, rfl, fun R r => pi_odd (sym_good (h.row6 s (by simp)) (by simp [isFig])) (by omega) (.inr rfl)⟩
/-- a line end at the end, and good symbols -/
theorem way_nl (h : B8 rs row) (h2 : row.length ≠ 2) {last : List Sy} (hl : SyOk [last]) : f__law_refused [tx (lineT (L0 rs row) ++ 10 :: rowT last)] = .ok (.bool true) := by
  have n := h.n
  have tl : Tn 10000 (lineT ([last].map Tm)) := tn_sy (RR := [last]) (by simp) hl
  have e0 : lineT ([last].map Tm) = rowT last := lineT_book [] last
  rw [e0] at tl
  have tn : Tn 100000 (lineT (L0 rs row) ++ 10 :: rowT last) := (L0_tn h).app (Tn.app (a := 1) (b := 10000) (n := 10001) (S := [10]) ⟨by simp, by simp⟩ tl (by omega)) (by omega)
  rw [L0_text] at tn ⊢
  by_cases e : row = []
  · subst e
    have e : rowT ([] : List Sy) = [] := rfl
    rw [e, List.append_nil] at tn ⊢
    exact nb_after h.hr (by omega) tn (pi_bad (by simp) (sym_odd (by omega) fig10))
  · obtain ⟨s, r, rfl⟩ : ∃ s r, row = s :: r := by
      cases row with
      | nil => exact absurd rfl e
      | cons s r => exact ⟨s, r, rfl⟩
    rw [List.append_assoc] at tn ⊢
    refine nb_rule (pre := rs) (r := s :: r) (post := []) (last := last) h.hr (by simp; omega) tn (pi_rows _ [] h.gd ?_) (.inl h2)
    rw [List.nil_append]
    have := pi_row (R := rs.map pairL) (rest := rowT last) (res := some ((rs.map pairL ++ [s :: r]) ++ [last])) r s [] h.row6 (by
      rw [List.nil_append]; exact pi_lastA (hl last (by simp)).2)
    exact this
/-- ahead of all -/
theorem way_head (h : B8 rs row) {c : Nat} (hc : c = 10 ∨ c = 32) : f__law_refused [tx ([c] ++ lineT (L0 rs row))] = .ok (.bool true) := by
  have tn : Tn 100000 ([c] ++ lineT (L0 rs row)) := Tn.app (a := 1) (b := 10000) ⟨by simp, by simp; omega⟩ (L0_tn h) (by omega)
  refine nb_none tn (pi_bad (by simp) ?_)
  rcases hc with rfl | rfl
  · exact sym_odd (by omega) fig10
  · exact sym_odd (by omega) fig32
theorem way_head2 (h : B8 rs row) : f__law_refused [tx ([39, 97, 10] ++ lineT (L0 rs row))] = .ok (.bool true) := by
  have n := h.n
  have := nb_badrow (pre := []) (r := [.s 97]) (post := rs.map pairL) (row := row) RsOk.nil (by simp; omega) (by simp) (sy_one (by simp) fun x hx => by
    simp at hx; rw [hx]; show 97 < 1114112; omega) h.gd h.sy h.syrow (.inl (by simp))
  have e : lineT ((([] : List (Sy × Sy)).map pairL ++ [.s 97] :: rs.map pairL ++ [row]).map Tm) = [39, 97, 10] ++ lineT (L0 rs row) := by
    have : (([] : List (Sy × Sy)).map pairL ++ [.s 97] :: rs.map pairL ++ [row]).map Tm = [[39, 97]] :: L0 rs row := by
      unfold L0 rowsL
      simp [Tm, syT]
    rw [this, lineT_cc _ Z_ne]
    rfl
  rw [← e]; exact this.2
/-- way 2: the row -/
theorem way_last (h : B8 rs row) {p : Nat} {o : List Nat} (ho : OddL rs.length o) :
    RF ((rs.map pairL).map Tm ++ [(Tm row).take p ++ o :: (Tm row).drop p]) := by
  have n := h.n
  have r6 := h.row6
  have ok1 : ∀ x ∈ row.take p, x.ok 600 := fun x hx => r6 x (List.mem_of_mem_take hx)
  have ok2 : ∀ x ∈ row.drop p, x.ok 600 := fun x hx => r6 x (List.mem_of_mem_drop hx)
  have ok3 : ∀ s ∈ row.take p, s.ok rs.length := fun x hx => h.ho x (List.mem_of_mem_take hx)
  have l := h.l
  have l1 : (row.take p).length ≤ 5 := by simp; omega
  have l2 : (row.drop p).length ≤ 5 := by simp; omega
  have e1 : (Tm row).take p = Tm (row.take p) := by unfold Tm; rw [List.map_take]
  have e2 : (Tm row).drop p = Tm (row.drop p) := by unfold Tm; rw [List.map_drop]
  rw [e1, e2]
  generalize row.take p = A at *
  generalize row.drop p = B at *
  have txt : ∀ o, inter [32] (Tm A ++ o :: Tm B) = (A.map fun s => syT s ++ [32]).flatten ++ (o ++ (B.map fun s => 32 :: syT s).flatten) := fun o => by
    rw [inter_pre _ _ (by simp), inter_cons]
    unfold Tm
    rw [List.map_map, List.map_map]
    rfl
  have tail : (B.map fun s => 32 :: syT s).flatten = [] ∨ ∃ s t, (B.map fun s => 32 :: syT s).flatten = 32 :: (syT s ++ t) ∧ s.ok 600 := by
    cases B with
    | nil => exact .inl rfl
    | cons s B => exact .inr ⟨s, _, by rw [List.map_cons, List.flatten_cons, List.cons_append], ok2 s (by simp)⟩
  have none1 : ∀ o, TkOk o → (∀ R r, PrIs R r (o ++ (B.map fun s => 32 :: syT s).flatten) none) → o ≠ [] → RF ((rs.map pairL).map Tm ++ [Tm A ++ o :: Tm B]) := fun o tk k ne => by
    refine nb_mid h.hr (by simp; omega) (by simp) (fun r hr => ?_) ?_
    · rw [List.mem_singleton.mp hr]
      refine ⟨by simp [Tm]; omega, fun t ht => ?_⟩
      rcases List.mem_append.mp ht with q | q
      · obtain ⟨s, hs, rfl⟩ := List.mem_map.mp q
        exact tk_sy (ok1 s hs)
      · rcases List.mem_cons.mp q with rfl | q
        · exact tk
        · obtain ⟨s, hs, rfl⟩ := List.mem_map.mp q
          exact tk_sy (ok2 s hs)
    · rw [lineT_one, txt]
      exact pi_toks A [] ok1 (fun e => ne (List.append_eq_nil_iff.mp e).1) (k _ _)
  rcases ho with ⟨ho, ne⟩ | rfl | ⟨k, k1, k2, rfl⟩
  · refine none1 o (tk_odd0 ho) (fun R r => odd_none ho ?_ R r) ne
    rcases tail with e | ⟨s, t, e, _⟩
    · exact .inr ⟨e, ne⟩
    · exact .inl ⟨32, _, e, .inr rfl⟩
  · exact none1 [39, 97, 32, 39] ⟨by simp, by simp⟩ (fun R r => odd_mark tail R r) (by simp)
  · have e : (rs.map pairL).map Tm ++ [Tm A ++ syT (.n k) :: Tm B] = (rs.map pairL ++ [A ++ .n k :: B]).map Tm := by
      simp [Tm]
    have okr : ∀ x ∈ A ++ .n k :: B, x.ok 600 := fun x hx => by
      rcases List.mem_append.mp hx with q | q
      · exact ok1 x q
      · rcases List.mem_cons.mp q with rfl | q
        · exact k2
        · exact ok2 x q
    rw [e]
    have rw0 : RwOk ((rs.map pairL ++ [A ++ .n k :: B]).map Tm) := rw_of (by simp; omega) (rk_all (sy_app h.sy (sy_one (by simp; omega) okr)))
    have tn := line_tn rw0
    refine ⟨rw0, ?_⟩
    rw [lineT_book] at tn ⊢
    exact nb_rows (tn.mono (by omega)) (pi_book h.gd okr) (by simp; omega) (bad_last h.hr ok3 k1)
/-- the row's last sign lacks -/
theorem way_cut (h : B8 rs row) {z : List Sy} {c : Nat} (e : row = z ++ [.s c]) : f__law_refused [tx (lineT (L0 rs row)).dropLast] = .ok (.bool true) := by
  have tn := L0_tn h
  have n := h.n
  have r6 := h.row6
  have e1 : (lineT (L0 rs row)).dropLast = rowsT (rs.map pairL) ++ ((z.map fun s => syT s ++ [32]).flatten ++ [39]) := by
    rw [L0_text, e, rowT_snoc]
    have : rowsT (rs.map pairL) ++ ((z.map fun s => syT s ++ [32]).flatten ++ syT (.s c)) = (rowsT (rs.map pairL) ++ ((z.map fun s => syT s ++ [32]).flatten ++ [39])) ++ [c] := by
      simp [syT]
    rw [this, List.dropLast_concat]
  have tn2 : Tn 100000 (lineT (L0 rs row)).dropLast := ⟨by have := tn.1; rw [List.length_dropLast]; omega, fun x hx => tn.2 x (by rw [List.dropLast_eq_take] at hx; exact List.mem_of_mem_take hx)⟩
  rw [e1] at tn2 ⊢
  exact nb_after h.hr (by omega) tn2 (pi_toks z [] (fun x hx => r6 x (by rw [e]; simp [hx])) (by simp) (pi_bad (by simp) rfl))
/-- two rows more, of one sign each -/
theorem way_more (h : B8 rs row) {X : List Nat} (hX : X = [32] ∨ X = [] ∨ X = [10]) : RwOk ((rs.map pairL).map Tm ++ [[[39, 97]], [[39, 98]]]) ∧ f__law_refused [tx (lineT ((rs.map pairL).map Tm ++ [[[39, 97]], [[39, 98]]]) ++ X)] = .ok (.bool true) := by
  have n := h.n
  have a6 : ∀ x ∈ [Sy.s 97], x.ok 600 := fun x hx => by simp at hx; rw [hx]; show 97 < 1114112; omega
  have b6 : ∀ x ∈ [Sy.s 98], x.ok 600 := fun x hx => by simp at hx; rw [hx]; show 98 < 1114112; omega
  have e : (rs.map pairL).map Tm ++ [[[39, 97]], [[39, 98]]] = (rs.map pairL ++ [[Sy.s 97]] ++ [[Sy.s 98]]).map Tm := by simp [Tm, syT]
  have rw0 : RwOk ((rs.map pairL ++ [[Sy.s 97]] ++ [[Sy.s 98]]).map Tm) := rw_of (by simp; omega) (rk_all (sy_app (sy_app h.sy (sy_one (by simp) a6)) (sy_one (by simp) b6)))
  have tn0 := line_tn rw0
  have g1 : GdR (rs.map pairL ++ [[.s 97]]) := gd_app h.gd (gd_one (by simp) a6)
  have g2 : GdR (rs.map pairL ++ [[.s 97], [.s 98]]) := gd_app h.gd (gd_app (A := [[.s 97]]) (gd_one (by simp) a6) (gd_one (by simp) b6))
  rw [e]
  refine ⟨rw0, ?_⟩
  have tX : Tn 1 X := by rcases hX with rfl | rfl | rfl <;> exact ⟨by simp, by simp⟩
  have tn := tn0.app tX (n := 100000) (by omega)
  rw [lineT_book, List.append_assoc] at tn ⊢
  rcases hX with rfl | rfl | rfl
  · refine nb_none tn (pi_rows _ [] g1 ?_)
    exact pi_odd (s := .s 98) (c := 32) (rest := []) rfl (by omega) (.inr rfl)
  · rw [List.append_nil] at tn ⊢
    exact nb_rule (pre := rs) (r := [.s 97]) (post := []) (last := [.s 98]) h.hr (by simp; omega) tn (pi_book g1 b6) (.inl (by simp))
  · have e2 : rowsT (rs.map pairL ++ [[.s 97]]) ++ (rowT [.s 98] ++ [10]) = rowsT (rs.map pairL ++ [[.s 97], [.s 98]]) ++ rowT [] := by
      unfold rowsT
      simp [rowT, inter]
    rw [e2] at tn ⊢
    exact nb_rule (pre := rs) (r := [.s 97]) (post := [[.s 98]]) (last := []) h.hr (by simp; omega) tn (pi_book g2 (by simp)) (.inl (by simp))
end
/-! too much -/
theorem ab6 : ∀ x ∈ [Sy.s 97, Sy.s 98], x.ok 600 := fun x hx => by
  simp at hx
  rcases hx with rfl | rfl
  · show 97 < 1114112; omega
  · show 98 < 1114112; omega
theorem flat_rep_mem {l : List Nat} {n c : Nat} (h : c ∈ (List.replicate n l).flatten) : c ∈ l := by
  obtain ⟨x, hx, hc⟩ := List.mem_flatten.mp h
  rw [List.eq_of_mem_replicate hx] at hc
  exact hc
theorem way_rules : f__law_refused [tx (List.replicate 601 [39, 97, 32, 39, 98, 10]).flatten] = .ok (.bool true) := by
  have e : (List.replicate 601 [39, 97, 32, 39, 98, 10]).flatten = rowsT (List.replicate 601 [.s 97, .s 98]) ++ [] := by
    unfold rowsT
    rw [List.map_replicate, List.append_nil]
    rfl
  have tn : Tn 100000 (List.replicate 601 [39, 97, 32, 39, 98, 10]).flatten := by
    refine ⟨by simp, fun c hc => ?_⟩
    have := flat_rep_mem hc
    simp at this
    omega
  rw [e] at tn ⊢
  refine nb_rows (RR := List.replicate 601 [.s 97, .s 98]) (last := []) tn (pi_rows _ [] (fun r hr => ?_) ?_) (by simp) (bad3 (.inl (by simp)))
  · rw [List.eq_of_mem_replicate hr]
    exact ⟨by simp, ab6⟩
  · rw [List.nil_append]; exact pi_end
theorem way_long : f__law_refused [tx ([39, 97, 32, 39, 98, 10] ++ (List.replicate 2000 [48, 32]).flatten ++ [48])] = .ok (.bool true) := by
  have e : [39, 97, 32, 39, 98, 10] ++ (List.replicate 2000 [48, 32]).flatten ++ [48] = rowsT [[.s 97, .s 98]] ++ rowT (List.replicate 2000 (.n 0) ++ [.n 0]) := by
    rw [rowT_snoc, List.map_replicate, List.append_assoc]
    rfl
  have tn : Tn 100000 ([39, 97, 32, 39, 98, 10] ++ (List.replicate 2000 [48, 32]).flatten ++ [48]) := by
    refine ⟨by simp, fun c hc => ?_⟩
    rcases List.mem_append.mp hc with q | q
    · rcases List.mem_append.mp q with q | q
      · simp at q; omega
      · have := flat_rep_mem q
        simp at this
        omega
    · simp at q; omega
  rw [e] at tn ⊢
  refine nb_rows (RR := [[.s 97, .s 98]]) (last := List.replicate 2000 (.n 0) ++ [.n 0]) tn (pi_book (fun r hr => ?_) fun x hx => ?_) (by simp) (bad3 (.inr (by simp)))
  · rw [List.mem_singleton.mp hr]
    exact ⟨by simp, ab6⟩
  · rcases List.mem_append.mp hx with q | q
    · rw [List.eq_of_mem_replicate q]; show 0 < 600; omega
    · rw [List.mem_singleton.mp q]; show 0 < 600; omega
/-! all is good -/
theorem e_read8 {rs : List (Sy × Sy)} {row : List Sy} (h : B8 rs row) : f_read [tx (lineT (L0 rs row))] = .ok (bkD rs row) := by
  have tn := L0_tn h
  have bk : BkOk rs row := ⟨h.hr, h.ho, by have := h.n; omega, by have := h.l; omega⟩
  have pb := pi_book h.gd h.row6
  rw [← L0_text] at pb
  have er := e_rows8 (T := lineT (L0 rs row)) (by have := tn.1; omega) tn.2
  rw [pb _ (Nat.lt_succ_self _)] at er
  generalize lineT (L0 rs row) = T at *
  simp only [List.map_append, List.map_cons, List.map_nil] at er
  have n := h.n
  have eb : PyData.tuple [.list ((rs.map pairL).map fun r => PyData.tuple (r.map Sy.d)), .list (row.map Sy.d)] = bkD rs row := by
    unfold bkD
    simp [pairL, rlD, Function.comp]
  have hl : (rs.map pairL).length ≤ 10000000 := by simp; omega
  generalize rs.map pairL = RR at *
  generalize row = last at *
  have negm : negF [.int 1] = some (.int (-1)) := rfl
  have ec : cutL (RR.map (fun r => PyData.list (r.map Sy.d)) ++ [PyData.list (last.map Sy.d)]) none (some (-1)) = RR.map fun r => PyData.list (r.map Sy.d) := by rw [cutL_m1, List.dropLast_concat]
  have ea : atI (RR.map (fun r => PyData.list (r.map Sy.d)) ++ [PyData.list (last.map Sy.d)]) (-1) = some (PyData.list (last.map Sy.d)) := atI_m1 (by simp)
  refine fn_of rfl ?_
  simp [b_read, er, negm, ec, ea]
  rw [compL_all (enc := fun r : List Sy => PyData.list (r.map Sy.d)) (fun r : List Sy => PyData.tuple (r.map Sy.d)) RR fun r hr => ⟨_, rfl, by simp [tupleF]⟩]
  simp [compF_of, small_le hl, eb, e_need_book bk]

def k08S1 : Rho → Fl := (mAsg (mB addD (mC (.int 2)) (mB modD (mCall f__law_cell_at (mCons (mV 0) (mCons (mC (.int 1)) mNil))) (mC (.int 7)))) (gN 1))
def k08S2 : Rho → Fl := (mAsg (mCall f__law_cell_at (mCons (mV 0) (mCons (mC (.int 0)) mNil))) (gN 2))
def k08S3 : Rho → Fl := (mSetO 3 (mCallO f__law_rows (mCons (mV 0) (mCons (mV 1) mNil))))
def k08S4 : Rho → Fl := (mAsg (mB ixD (mF lstF (mCons (mC (.int 0)) (mCons (mC (.int 1)) (mCons (mC (.int 2)) (mCons (mC (.int 3)) (mCons (mC (.int 4)) (mCons (mC (.int 5)) (mCons (mC (.int 2)) (mCons (mC (.int 5)) (mCons (mC (.int 2)) mNil)))))))))) (mB modD (mV 2) (mC (.int 9)))) (gN 4))
def k08S5 : Rho → Fl := (mAsg (mB fdivD (mV 2) (mC (.int 9))) (gN 5))
def k08S6 : Rho → Fl := (mIf (mTv (mB eqD (mV 4) (mC (.int 0)))) (mSeq (mAsg (mCall f_read (mCons (mCall f__law_line (mCons (mV 3) mNil)) mNil)) (gN 8))
  (mRet (mAnd (mIsi isTup (mV 8)) (mAnd (mB eqD (mF lenF (mCons (mB ixD (mV 8) (mC (.int 0))) mNil)) (mV 1)) (mB eqD (mF lenF (mCons (mB ixD (mV 8) (mC (.int 1))) mNil)) (mF lenF (mCons (mIxO 3 (mF negF (mCons (mC (.int 1)) mNil))) mNil))))))) mNext)
def k08S7 : Rho → Fl := (mIf (mTv (mB eqD (mV 4) (mC (.int 1)))) (mRet (mCall f__law_refused (mCons (mB ixD (mF lstF (mCons (mC .none) (mCons (mC (.int 5)) (mCons (mF lstF (mCons (mC (.str "'a")) mNil)) (mCons (mF tupF (mCons (mC (.str "'a")) (mCons (mC (.str "'b")) mNil))) (mCons (mC (.bool true)) (mCons (mF lstF mNil) mNil))))))) (mB modD (mV 5) (mC (.int 6)))) mNil))) mNext)
def k08S8 : Rho → Fl := (mIf (mTand (mTv (mB eqD (mV 4) (mC (.int 2)))) (mTv (mB eqD (mB modD (mV 5) (mC (.int 3))) (mC (.int 1))))) (mRet (mAnd (mCall f__law_refused (mCons (mCall f__law_line (mCons (mCall f__law_last (mCons (mV 3) (mCons (mB fdivD (mV 5) (mC (.int 3))) (mCons (mV 1) mNil)))) mNil)) mNil)) (mCall f__law_cut (mCons (mV 3) mNil)))) mNext)
def k08S9 : Rho → Fl := (mIf (mTv (mB eqD (mV 4) (mC (.int 2)))) (mRet (mCall f__law_refused (mCons (mCall f__law_line (mCons (mCall f__law_spoilt (mCons (mV 3) (mCons (mB fdivD (mV 5) (mC (.int 3))) (mCons (mV 1) mNil)))) mNil)) mNil))) mNext)
def k08S10 : Rho → Fl := (mAsg (mB modD (mB fdivD (mV 5) (mC (.int 4))) (mV 1)) (gN 6))
def k08S11 : Rho → Fl := (mIf (mTv (mB eqD (mV 4) (mC (.int 3)))) (mSeq (mSetIx 3 (mB addD (mSl (mIxO 3 (mV 6)) mPn (mPs (mC (.int 1)))) (mSl (mF lstF (mCons (mC (.str "'a")) (mCons (mC (.str "'b")) mNil))) mPn (mPs (mB mulD (mC (.int 2)) (mB modD (mV 5) (mC (.int 2))))))) (mV 6))
  (mRet (mCall f__law_refused (mCons (mCall f__law_line (mCons (mV 3) mNil)) mNil)))) mNext)
def k08S12 : Rho → Fl := (mAsg (mCall f__law_line (mCons (mV 3) mNil)) (gN 7))
def k08S13 : Rho → Fl := (mIf (mTv (mB eqD (mV 4) (mC (.int 4)))) (mSeq (mIf (mTand (mTv (mB eqD (mB modD (mV 5) (mC (.int 4))) (mC (.int 2)))) (mTv (mB neD (mF lenF (mCons (mIxO 3 (mF negF (mCons (mC (.int 1)) mNil))) mNil)) (mC (.int 2))))) (mRet (mCall f__law_refused (mCons (mB addD (mV 7) (mC (.str "\n'a"))) mNil))) mNext)
  (mRet (mCall f__law_refused (mCons (mB ixD (mF lstF (mCons (mB addD (mC (.str " ")) (mV 7)) (mCons (mB addD (mC (.str "\n")) (mV 7)) (mCons (mB addD (mC (.str " ")) (mV 7)) (mCons (mB addD (mC (.str "'a\n")) (mV 7)) mNil))))) (mB modD (mV 5) (mC (.int 4)))) mNil)))) mNext)
def k08S14 : Rho → Fl := (mIf (mTv (mB eqD (mB modD (mV 5) (mC (.int 6))) (mC (.int 3)))) (mSeq (mAsg (mIxO 3 (mV 6)) (gN 9))
  (mSeq (mSetIx 3 (mB ixD (mF lstF (mCons (mF lstF (mCons (mB addD (mB ixD (mV 9) (mC (.int 0))) (mC (.str " "))) (mCons (mB ixD (mV 9) (mC (.int 1))) mNil))) (mCons (mF lstF (mCons (mB addD (mB ixD (mV 9) (mC (.int 0))) (mB ixD (mV 9) (mC (.int 1)))) mNil)) (mCons (mF lstF (mCons (mB addD (mC (.str " ")) (mB ixD (mV 9) (mC (.int 0)))) (mCons (mB ixD (mV 9) (mC (.int 1))) mNil))) mNil)))) (mB modD (mB fdivD (mV 5) (mC (.int 24))) (mC (.int 3)))) (mV 6))
  (mRet (mCall f__law_refused (mCons (mCall f__law_line (mCons (mV 3) mNil)) mNil))))) mNext)
def k08S15 : Rho → Fl := (mIf (mTv (mB eqD (mB modD (mV 5) (mC (.int 6))) (mC (.int 4)))) (mRet (mAnd (mCall f__law_refused (mCons (mB addD (mV 7) (mC (.str " "))) mNil)) (mOr (mB eqD (mF lenF (mCons (mIxO 3 (mF negF (mCons (mC (.int 1)) mNil))) mNil)) (mC (.int 2))) (mCall f__law_refused (mCons (mB addD (mV 7) (mC (.str "\n"))) mNil))))) mNext)
def k08S16 : Rho → Fl := (mIf (mTv (mB eqD (mB modD (mV 5) (mC (.int 6))) (mC (.int 5)))) (mRet (mCall f__law_refused (mCons (mB ixD (mF lstF (mCons (mB mulD (mC (.str "'a 'b\n")) (mC (.int 601))) (mCons (mB addD (mB addD (mC (.str "'a 'b\n")) (mB mulD (mC (.str "0 ")) (mC (.int 2000)))) (mC (.str "0"))) mNil))) (mB modD (mB fdivD (mV 5) (mC (.int 6))) (mC (.int 2)))) mNil))) mNext)
def k08S17 : Rho → Fl := (mRet (mCall f__law_refused (mCons (mB addD (mCall f__law_line (mCons (mB addD (mSl (mV 3) mPn (mPs (mF negF (mCons (mC (.int 1)) mNil)))) (mF lstF (mCons (mF lstF (mCons (mC (.str "'a")) mNil)) (mCons (mF lstF (mCons (mC (.str "'b")) mNil)) mNil)))) mNil)) (mB ixD (mF lstF (mCons (mC (.str " ")) (mCons (mC (.str "")) (mCons (mC (.str "\n")) mNil)))) (mB modD (mV 5) (mC (.int 3))))) mNil)))
theorem k08_law : b_law = (mSeq k08S1 (mSeq k08S2 (mSeq k08S3 (mSeq k08S4 (mSeq k08S5 (mSeq k08S6 (mSeq k08S7 (mSeq k08S8 (mSeq k08S9 (mSeq k08S10 (mSeq k08S11 (mSeq k08S12 (mSeq k08S13 (mSeq k08S14 (mSeq k08S15 (mSeq k08S16 k08S17)))))))))))))))) := rfl
theorem line_of {L : List (List (List Nat))} (h : RwOk L) : f__law_line [.list (rwD L)] = .ok (tx (lineT L)) := e_line8 (fun r hr => by
    have a := flat_len (n := 20) r fun l hl => ((h.2 r hr).2 l hl).1
    have b := (h.2 r hr).1
    have : r.length * 20 ≤ 20 * 20 := Nat.mul_le_mul_right 20 b
    omega) (by have := h.1; omega)
theorem L0_snoc (rs : List (Sy × Sy)) (row : List Sy) : L0 rs row = (rs.map pairL).map Tm ++ [Tm row] := by
  unfold L0 rowsL
  simp
theorem L0_split {rs : List (Sy × Sy)} {row : List Sy} {i : Nat} (hi : i < rs.length) : ∃ pre a b post, rs = pre ++ (a, b) :: post ∧ pre.length = i ∧ (L0 rs row)[i]? = some [syT a, syT b] ∧ (L0 rs row).take i = (pre.map pairL).map Tm ∧ (L0 rs row).drop (i + 1) = L0 post row ∧
    ∀ q, (L0 rs row).set i q = (pre.map pairL).map Tm ++ q :: L0 post row := by
  obtain ⟨pre, a, b, post, e, hp⟩ := split_at hi
  have l : ((pre.map pairL).map Tm).length = i := by simp [hp]
  refine ⟨pre, a, b, post, e, hp, ?_, ?_, ?_, fun q => ?_⟩ <;> rw [L0_at e]
  · rw [List.getElem?_append_right (by omega), l]; simp
  · rw [← l]; simp
  · rw [← l, List.drop_append]; simp
  · rw [List.set_append, if_neg (by omega), l]; simp
theorem mod3 (x : Int) : modD (.int x) (.int 3) = some (.int (x % 3)) := mod_int (by decide)
theorem mod6 (x : Int) : modD (.int x) (.int 6) = some (.int (x % 6)) := mod_int (by decide)
theorem mod4 (x : Int) : modD (.int x) (.int 4) = some (.int (x % 4)) := mod_int (by decide)
theorem mod2 (x : Int) : modD (.int x) (.int 2) = some (.int (x % 2)) := mod_int (by decide)
theorem div3 (x : Int) : fdivD (.int x) (.int 3) = some (.int (x / 3)) := fdiv_int (by decide)
theorem div4 (x : Int) : fdivD (.int x) (.int 4) = some (.int (x / 4)) := fdiv_int (by decide)
theorem div6 (x : Int) : fdivD (.int x) (.int 6) = some (.int (x / 6)) := fdiv_int (by decide)
theorem div24 (x : Int) : fdivD (.int x) (.int 24) = some (.int (x / 24)) := fdiv_int (by decide)
theorem neg1 : negF [.int 1] = some (.int (-1)) := nr rfl
section
variable {rs : List (Sy × Sy)} {row : List Sy} {x0 x2 s6 s7 s8 s9 : Sl} {m : Nat} {w more : Int} {Q : List D}
theorem k8_n6 (h : w ≠ 0) : k08S6 [x0, .im (.int m), x2, .ow Q, .im (.int w), .im (.int more), s6, s7, s8, s9] = .nx [x0, .im (.int m), x2, .ow Q, .im (.int w), .im (.int more), s6, s7, s8, s9] := by
  simp [k08S6, h]
theorem k8_n7 (h : w ≠ 1) : k08S7 [x0, .im (.int m), x2, .ow Q, .im (.int w), .im (.int more), s6, s7, s8, s9] = .nx [x0, .im (.int m), x2, .ow Q, .im (.int w), .im (.int more), s6, s7, s8, s9] := by
  simp [k08S7, h]
theorem k8_n8 (h : w ≠ 2 ∨ more % 3 ≠ 1) : k08S8 [x0, .im (.int m), x2, .ow Q, .im (.int w), .im (.int more), s6, s7, s8, s9] = .nx [x0, .im (.int m), x2, .ow Q, .im (.int w), .im (.int more), s6, s7, s8, s9] := by
  by_cases h2 : w = 2
  · have h3 : more % 3 ≠ 1 := h.resolve_left fun z => z h2
    simp [k08S8, h2, mod3, h3]
  · simp [k08S8, h2]
theorem k8_n9 (h : w ≠ 2) : k08S9 [x0, .im (.int m), x2, .ow Q, .im (.int w), .im (.int more), s6, s7, s8, s9] = .nx [x0, .im (.int m), x2, .ow Q, .im (.int w), .im (.int more), s6, s7, s8, s9] := by
  simp [k08S9, h]
theorem k8_n11 (h : w ≠ 3) : k08S11 [x0, .im (.int m), x2, .ow Q, .im (.int w), .im (.int more), s6, s7, s8, s9] = .nx [x0, .im (.int m), x2, .ow Q, .im (.int w), .im (.int more), s6, s7, s8, s9] := by
  simp [k08S11, h]
theorem k8_n13 (h : w ≠ 4) : k08S13 [x0, .im (.int m), x2, .ow Q, .im (.int w), .im (.int more), s6, s7, s8, s9] = .nx [x0, .im (.int m), x2, .ow Q, .im (.int w), .im (.int more), s6, s7, s8, s9] := by
  simp [k08S13, h]
theorem k8_n14 (h : more % 6 ≠ 3) : k08S14 [x0, .im (.int m), x2, .ow Q, .im (.int w), .im (.int more), s6, s7, s8, s9] = .nx [x0, .im (.int m), x2, .ow Q, .im (.int w), .im (.int more), s6, s7, s8, s9] := by
  simp [k08S14, mod6, h]
theorem k8_n15 (h : more % 6 ≠ 4) : k08S15 [x0, .im (.int m), x2, .ow Q, .im (.int w), .im (.int more), s6, s7, s8, s9] = .nx [x0, .im (.int m), x2, .ow Q, .im (.int w), .im (.int more), s6, s7, s8, s9] := by
  simp [k08S15, mod6, h]
theorem k8_n16 (h : more % 6 ≠ 5) : k08S16 [x0, .im (.int m), x2, .ow Q, .im (.int w), .im (.int more), s6, s7, s8, s9] = .nx [x0, .im (.int m), x2, .ow Q, .im (.int w), .im (.int more), s6, s7, s8, s9] := by
  simp [k08S16, mod6, h]
theorem L0_last (rs : List (Sy × Sy)) (row : List Sy) : atI (rwD (L0 rs row)) (-1) = some (.list ((Tm row).map tx)) := atI_m1 (by rw [L0_snoc, rw_snoc]; simp)
theorem len_row (row : List Sy) : lenF [.list ((Tm row).map tx)] = some (.int row.length) := by rw [len_list]; simp [Tm]
/-- way 0 -/
theorem k8_6 (h : B8 rs row) (hm : rs.length = m) : k08S6 [x0, .im (.int m), x2, .ow (rwD (L0 rs row)), .im (.int 0), .im (.int more), s6, s7, s8, s9] = .rt (.bool true) := by
  have el := line_of (L0_ok h)
  have er := e_read8 h
  have la := L0_last rs row
  have lr := len_row row
  have i8 : isTup (bkD rs row) = true := rfl
  generalize lineT (L0 rs row) = T at *
  generalize rwD (L0 rs row) = Q at *
  generalize (Tm row).map tx = Z at *
  simp [k08S6, el, er, neg1, la, lr, -len_list, i8, hm]
  have e1 : lenF [PyData.list (rs.map rlD)] = some (.int rs.length) := by rw [len_list]; simp
  have e2 : lenF [PyData.list (row.map Sy.d)] = some (.int row.length) := by rw [len_list]; simp
  simp [e1, e2, hm, -len_list]
/-- way 1 -/
theorem k8_7 : k08S7 [x0, .im (.int m), x2, .ow Q, .im (.int 1), .im (.int more), s6, s7, s8, s9] = .rt (.bool true) := by
  obtain ⟨d, hat, hd⟩ : ∃ d, atI [PyData.none, .int 5, .list [.str ("'a" : Str)], .tuple [.str ("'a" : Str), .str ("'b" : Str)], .bool true, .list []] (more % 6) = some d ∧ isStr d = false := by
    rcases (show more % 6 = 0 ∨ more % 6 = 1 ∨ more % 6 = 2 ∨ more % 6 = 3 ∨ more % 6 = 4 ∨ more % 6 = 5 by omega) with e | e | e | e | e | e <;> rw [e]
    · exact ⟨_, atI_0, rfl⟩
    · exact ⟨_, atI_1, rfl⟩
    · exact ⟨_, atI_2, rfl⟩
    · exact ⟨_, atI_3, rfl⟩
    · exact ⟨_, atI_4, rfl⟩
    · exact ⟨_, atI_ok (k := 5) rfl, rfl⟩
  have rf := nobk_yes (nobk_notext hd)
  simp [k08S7, mod6, hat, rf]
/-- way 2, the row -/
theorem k8_8 (h : B8 rs row) (hm : rs.length = m) (h3 : more % 3 = 1) : k08S8 [x0, .im (.int m), x2, .ow (rwD (L0 rs row)), .im (.int 2), .im (.int more), s6, s7, s8, s9] = .rt (.bool true) := by
  have n := h.n
  have l := h.l
  obtain ⟨p, o, hp, ho, el⟩ := e_last8 (A := (rs.map pairL).map Tm) (z := Tm row) (m := m) (more / 3) (by omega) (by simp; omega) (by simp [Tm]; omega)
  rw [← L0_snoc] at el
  obtain ⟨rk, rf⟩ := way_last h (p := p) (o := o) (by rw [hm]; exact ho)
  have ll := line_of rk
  have cu : f__law_cut [rwsD (L0 rs row)] = .ok (.bool true) := by
    have ok := L0_ok h
    have w1 := way_mark h
    have w2 : ∀ z' t, Tm row = z' ++ [39 :: t] → f__law_refused [tx (lineT (L0 rs row)).dropLast] = .ok (.bool true) := fun z' t e => by
      rcases snoc_or row with rfl | ⟨z, s, rfl⟩
      · have := congrArg List.length e
        simp [Tm] at this
      · have e2 : Tm z ++ [syT s] = z' ++ [39 :: t] := by rw [← e]; simp [Tm]
        have e3 := (List.append_inj' e2 rfl).2
        have e3 : syT s = 39 :: t := by simpa using e3
        cases s with
        | s c => exact way_cut h rfl
        | n k =>
          have hk : k < 600 := h.row6 (.n k) (by simp)
          have := dg_fig k hk 39 (by have e3 : dg k = 39 :: t := e3; rw [e3]; simp)
          omega
    rw [L0_snoc] at ok w1 w2 ⊢
    exact e_cut8 ok (fun t ht => by
      obtain ⟨s, hs, rfl⟩ := List.mem_map.mp ht
      exact syT_ne (h.row6 s hs)) w1 w2
  unfold rwsD at el cu
  generalize rwD ((rs.map pairL).map Tm ++ [(Tm row).take p ++ o :: (Tm row).drop p]) = Q2 at *
  generalize lineT ((rs.map pairL).map Tm ++ [(Tm row).take p ++ o :: (Tm row).drop p]) = T at *
  generalize rwD (L0 rs row) = Q at *
  simp [k08S8, mod3, h3, div3, el, ll, rf, cu]
/-- way 2, the rules -/
theorem k8_9 (h : B8 rs row) (hm : rs.length = m) (h0 : 0 < m) : k08S9 [x0, .im (.int m), x2, .ow (rwD (L0 rs row)), .im (.int 2), .im (.int more), s6, s7, s8, s9] = .rt (.bool true) := by
  have n := h.n
  obtain ⟨i, o, x, y, hi, hxy, ho, el⟩ := e_spoilt8 (L := L0 rs row) (m := m) (more / 3) h0 (by omega) (by rw [Z_len]; omega) fun i hi => by
    obtain ⟨_, a, b, _, _, _, e, _⟩ := L0_split (row := row) (show i < rs.length by omega)
    exact ⟨_, _, e⟩
  obtain ⟨pre, a, b, post, e, hp, at_, tk, dp, _⟩ := L0_split (row := row) (show i < rs.length by omega)
  rw [at_] at hxy
  injection hxy with hxy
  injection hxy with q1 q2
  injection q2 with q2 _
  subst q1 q2
  rw [tk, dp] at el
  obtain ⟨w1, w2⟩ := way_spoilt h e (o := o) (by rw [hp]; exact ho)
  unfold rwsD at el
  rcases el with el | el
  · have ll := line_of w1.1
    have rf := w1.2
    generalize rwD ((pre.map pairL).map Tm ++ [o, syT b] :: L0 post row) = Q2 at *
    generalize lineT ((pre.map pairL).map Tm ++ [o, syT b] :: L0 post row) = T at *
    generalize rwD (L0 rs row) = Q at *
    simp [k08S9, div3, el, ll, rf]
  · have ll := line_of w2.1
    have rf := w2.2
    generalize rwD ((pre.map pairL).map Tm ++ [syT a, o] :: L0 post row) = Q2 at *
    generalize lineT ((pre.map pairL).map Tm ++ [syT a, o] :: L0 post row) = T at *
    generalize rwD (L0 rs row) = Q at *
    simp [k08S9, div3, el, ll, rf]
theorem k8_10 (h0 : 0 < m) : ∃ i : Nat, i < m ∧ k08S10 [x0, .im (.int m), x2, .ow Q, .im (.int w), .im (.int more), s6, s7, s8, s9] = .nx [x0, .im (.int m), x2, .ow Q, .im (.int w), .im (.int more), .im (.int i), s7, s8, s9] := by
  have a := Int.emod_nonneg (more / 4) (b := (m : Int)) (by omega)
  have b := Int.emod_lt_of_pos (more / 4) (b := (m : Int)) (by omega)
  refine ⟨(more / 4 % (m : Int)).toNat, by omega, ?_⟩
  have e : (((more / 4 % (m : Int)).toNat : Nat) : Int) = more / 4 % (m : Int) := by omega
  have md : modD (.int (more / 4)) (.int (m : Int)) = some (.int (more / 4 % (m : Int))) := mod_int (by omega)
  rw [e]
  simp [k08S10, div4, md]
/-- an item of the rows, and another one in its place -/
theorem rw_at {L : List (List (List Nat))} {i : Nat} {x y : List Nat} (h : L[i]? = some [x, y]) : atI (rwD L) (i : Int) = some (.list [tx x, tx y]) := atI_ok (by simp [rwD, h])
theorem rw_ix {L : List (List (List Nat))} {i : Nat} {x : List (List Nat)} (h : L[i]? = some x) : ixN (rwD L).length (i : Int) = some i := ixN_ok (by
  have := (List.getElem?_eq_some_iff.mp h).1
  simpa [rwD] using this)
theorem rw_set (L : List (List (List Nat))) (i : Nat) (x : List (List Nat)) : (rwD L).set i (.list (x.map tx)) = rwD (L.set i x) := by
  unfold rwD
  rw [List.map_set]
theorem str_a8 : PyData.str ("'a" : Str) = tx [39, 97] := by unfold tx; congr 1
theorem str_b8 : PyData.str ("'b" : Str) = tx [39, 98] := by unfold tx; congr 1
/-- way 3 -/
theorem k8_11 (h : B8 rs row) (hm : rs.length = m) {i : Nat} (hi : i < m) : k08S11 [x0, .im (.int m), x2, .ow (rwD (L0 rs row)), .im (.int 3), .im (.int more), .im (.int i), s7, s8, s9] = .rt (.bool true) := by
  obtain ⟨pre, a, b, post, e, hp, at_, tk, dp, st⟩ := L0_split (row := row) (show i < rs.length by omega)
  have ra := rw_at at_
  have rx := rw_ix at_
  obtain ⟨w1, w2⟩ := way_three h e
  have c1 : slD none (some 1) (.list [tx (syT a), tx (syT b)]) = some (.list [tx (syT a)]) := by rw [sl_list]; exact congrArg (fun z => some (PyData.list z)) (cutL_0n [tx (syT a), tx (syT b)] 1)
  have mu0 : mulD (.int 2) (.int 0) = some (.int 0) := mul_int (by decide)
  have mu1 : mulD (.int 2) (.int 1) = some (.int 2) := mul_int (by decide)
  rcases (show more % 2 = 0 ∨ more % 2 = 1 by omega) with e2 | e2
  · have c2 : slD none (some 0) (.list [.str ("'a" : Str), .str ("'b" : Str)]) = some (.list []) := by rw [sl_list]; exact congrArg (fun z => some (PyData.list z)) (cutL_0n [PyData.str ("'a" : Str), .str ("'b" : Str)] 0)
    have ad : addD (.list [tx (syT a)]) (.list []) = some (.list [tx (syT a)]) := add_list (by simp)
    have rs_ : (rwD (L0 rs row)).set i (.list [tx (syT a)]) = rwD ((pre.map pairL).map Tm ++ [syT a] :: L0 post row) := by rw [← st]; exact rw_set _ i [syT a]
    have ll := line_of w1.1
    have rf := w1.2
    generalize rwD ((pre.map pairL).map Tm ++ [syT a] :: L0 post row) = Q2 at *
    generalize lineT ((pre.map pairL).map Tm ++ [syT a] :: L0 post row) = T at *
    generalize rwD (L0 rs row) = Q at *
    simp [k08S11, ra, -sl_list, c1, mod2, mu0, mu1, e2, c2, ad, rx, rs_, ll, rf]
  · have c2 : slD none (some 2) (.list [.str ("'a" : Str), .str ("'b" : Str)]) = some (.list [tx [39, 97], tx [39, 98]]) := by
      rw [sl_list, str_a8, str_b8]; exact congrArg (fun z => some (PyData.list z)) (cutL_0n [tx [39, 97], tx [39, 98]] 2)
    have ad : addD (.list [tx (syT a)]) (.list [tx [39, 97], tx [39, 98]]) = some (.list [tx (syT a), tx [39, 97], tx [39, 98]]) := add_list (by simp)
    have rs_ : (rwD (L0 rs row)).set i (.list [tx (syT a), tx [39, 97], tx [39, 98]]) = rwD ((pre.map pairL).map Tm ++ [syT a, [39, 97], [39, 98]] :: L0 post row) := by rw [← st]; exact rw_set _ i [syT a, [39, 97], [39, 98]]
    have ll := line_of w2.1
    have rf := w2.2
    generalize rwD ((pre.map pairL).map Tm ++ [syT a, [39, 97], [39, 98]] :: L0 post row) = Q2 at *
    generalize lineT ((pre.map pairL).map Tm ++ [syT a, [39, 97], [39, 98]] :: L0 post row) = T at *
    generalize rwD (L0 rs row) = Q at *
    simp [k08S11, ra, -sl_list, c1, mod2, mu0, mu1, e2, c2, ad, rx, rs_, ll, rf]
theorem k8_12 {T : List Nat} (el : f__law_line [.list Q] = .ok (tx T)) : k08S12 [x0, .im (.int m), x2, .ow Q, .im (.int w), .im (.int more), s6, s7, s8, s9] = .nx [x0, .im (.int m), x2, .ow Q, .im (.int w), .im (.int more), s6, .im (tx T), s8, s9] := by
  simp [k08S12, el]
theorem str_na : PyData.str ("\n'a" : Str) = tx [10, 39, 97] := by unfold tx; congr 1
theorem str_an : PyData.str ("'a\n" : Str) = tx [39, 97, 10] := by unfold tx; congr 1
theorem str_s1 : PyData.str (" " : Str) = tx [32] := by unfold tx; congr 1
theorem str_n1 : PyData.str ("\n" : Str) = tx [10] := by unfold tx; congr 1
theorem sy_a : SyOk [[Sy.s 97]] := sy_one (by simp) fun x hx => by simp at hx; rw [hx]; show 97 < 1114112; omega
theorem sy_0 : SyOk [([] : List Sy)] := sy_one (by simp) (by simp)
/-- way 4 -/
theorem k8_13 (h : B8 rs row) : k08S13 [x0, .im (.int m), x2, .ow (rwD (L0 rs row)), .im (.int 4), .im (.int more), s6, .im (tx (lineT (L0 rs row))), s8, s9] = .rt (.bool true) := by
  have tn := L0_tn h
  have la := L0_last rs row
  have lr := len_row row
  have w1 := way_head h (c := 32) (.inr rfl)
  have w2 := way_head h (c := 10) (.inl rfl)
  have w3 := way_head2 h
  have w4 := fun h2 => way_nl h h2 (last := [.s 97]) sy_a
  have e97 : 10 :: rowT [Sy.s 97] = [10, 39, 97] := rfl
  rw [e97] at w4
  have l := tn.1
  generalize lineT (L0 rs row) = T at *
  generalize rwD (L0 rs row) = Q at *
  generalize (Tm row).map tx = Z at *
  have a1 : addD (tx [32]) (tx T) = some (tx ([32] ++ T)) := add_tx (by simp; omega)
  have a2 : addD (tx [10]) (tx T) = some (tx ([10] ++ T)) := add_tx (by simp; omega)
  have a3 : addD (tx [39, 97, 10]) (tx T) = some (tx ([39, 97, 10] ++ T)) := add_tx (by simp; omega)
  have a4 : addD (tx T) (tx [10, 39, 97]) = some (tx (T ++ [10, 39, 97])) := add_tx (by simp; omega)
  by_cases c2 : more % 4 = 2 ∧ row.length ≠ 2
  · have w4 := w4 c2.2
    have c3 : ¬ (row.length : Int) = 2 := by omega
    generalize T ++ [10, 39, 97] = T4 at *
    simp [k08S13, mod4, c2.1, neg1, la, lr, -len_list, c3, str_na, a4, w4]
  · generalize [32] ++ T = T1 at *
    generalize [10] ++ T = T2 at *
    generalize [39, 97, 10] ++ T = T3 at *
    obtain ⟨d, hat, hd⟩ : ∃ d, atI [tx T1, tx T2, tx T1, tx T3] (more % 4) = some d ∧ f__law_refused [d] = .ok (.bool true) := by
      rcases (show more % 4 = 0 ∨ more % 4 = 1 ∨ more % 4 = 2 ∨ more % 4 = 3 by omega) with e | e | e | e <;> rw [e]
      · exact ⟨_, atI_0, w1⟩
      · exact ⟨_, atI_1, w2⟩
      · exact ⟨_, atI_2, w1⟩
      · exact ⟨_, atI_3, w3⟩
    by_cases c4 : more % 4 = 2
    · have c5 : row.length = 2 := by
        by_cases q : row.length = 2
        · exact q
        · exact absurd ⟨c4, q⟩ c2
      rw [c4] at hat
      simp [k08S13, mod4, c4, neg1, la, lr, -len_list, c5, str_s1, str_n1, str_an, a1, a2, a3, hat, hd]
    · simp [k08S13, mod4, c4, str_s1, str_n1, str_an, a1, a2, a3, hat, hd]
/-- way 5: a blank more, or none -/
theorem k8_14 (h : B8 rs row) (hm : rs.length = m) {i : Nat} (hi : i < m) (c3 : more % 6 = 3) : k08S14 [x0, .im (.int m), x2, .ow (rwD (L0 rs row)), .im (.int 5), .im (.int more), .im (.int i), s7, s8, s9] = .rt (.bool true) := by
  obtain ⟨pre, a, b, post, e, hp, at_, tk, dp, st⟩ := L0_split (row := row) (show i < rs.length by omega)
  have ra := rw_at at_
  have rx := rw_ix at_
  obtain ⟨w1, w2, w3⟩ := way_blank h e
  have q := h.at e
  have la := (syT_len (m := 600) (by omega) (q.1.mono (by omega))).2
  have lb := (syT_len (m := 600) (by omega) (q.2.1.mono (by omega))).2
  have a1 : addD (tx (syT a)) (tx [32]) = some (tx (syT a ++ [32])) := add_tx (by simp; omega)
  have a2 : addD (tx (syT a)) (tx (syT b)) = some (tx (syT a ++ syT b)) := add_tx (by omega)
  have a3 : addD (tx [32]) (tx (syT a)) = some (tx ([32] ++ syT a)) := add_tx (by simp; omega)
  have i0 : ∀ p q : D, atI [p, q] 0 = some p := fun _ _ => rfl
  have i1 : ∀ p q : D, atI [p, q] 1 = some q := fun _ _ => rfl
  have fin : ∀ (q : List (List Nat)) (d : D), RF ((pre.map pairL).map Tm ++ q :: L0 post row) → d = .list (q.map tx) → ∃ Q2 T, (rwD (L0 rs row)).set i d = Q2 ∧ f__law_line [.list Q2] = .ok (tx T) ∧ f__law_refused [tx T] = .ok (.bool true) := fun q d hq hd =>
    ⟨_, _, by rw [hd, rw_set, st], line_of hq.1, hq.2⟩
  obtain ⟨d, hat, Q2, T, rs_, ll, rf⟩ : ∃ d, atI [PyData.list [tx (syT a ++ [32]), tx (syT b)], .list [tx (syT a ++ syT b)], .list [tx ([32] ++ syT a), tx (syT b)]] (more / 24 % 3) = some d ∧ ∃ Q2 T, (rwD (L0 rs row)).set i d = Q2 ∧ f__law_line [.list Q2] = .ok (tx T) ∧ f__law_refused [tx T] = .ok (.bool true) := by
    rcases (show more / 24 % 3 = 0 ∨ more / 24 % 3 = 1 ∨ more / 24 % 3 = 2 by omega) with e | e | e <;> rw [e]
    · exact ⟨_, atI_0, fin _ _ w1 rfl⟩
    · exact ⟨_, atI_1, fin _ _ w2 rfl⟩
    · exact ⟨_, atI_2, fin _ _ w3 rfl⟩
  clear fin w1 w2 w3
  generalize rwD (L0 rs row) = Q at *
  generalize syT a ++ [32] = A1 at *
  generalize [32] ++ syT a = A3 at *
  generalize syT a ++ syT b = A2 at *
  simp [k08S14, mod6, c3, ra, i0, i1, str_s1, a1, a2, a3, div24, mod3, hat, rx, rs_, ll, rf]
/-- way 5: something behind -/
theorem k8_15 (h : B8 rs row) (c3 : more % 6 = 4) : k08S15 [x0, .im (.int m), x2, .ow (rwD (L0 rs row)), .im (.int 5), .im (.int more), s6, .im (tx (lineT (L0 rs row))), s8, s9] = .rt (.bool true) := by
  have tn := L0_tn h
  have la := L0_last rs row
  have lr := len_row row
  have w1 := way_sp h
  have w4 := fun h2 => way_nl h h2 (last := []) sy_0
  have e97 : 10 :: rowT ([] : List Sy) = [10] := rfl
  rw [e97] at w4
  have l := tn.1
  generalize lineT (L0 rs row) = T at *
  generalize rwD (L0 rs row) = Q at *
  generalize (Tm row).map tx = Z at *
  have a1 : addD (tx T) (tx [32]) = some (tx (T ++ [32])) := add_tx (by simp; omega)
  have a2 : addD (tx T) (tx [10]) = some (tx (T ++ [10])) := add_tx (by simp; omega)
  generalize T ++ [32] = T1 at *
  generalize T ++ [10] = T2 at *
  by_cases c : row.length = 2
  · simp [k08S15, mod6, c3, str_s1, a1, w1, neg1, la, lr, -len_list, c]
  · have w4 := w4 c
    have c : ¬ (row.length : Int) = 2 := by omega
    simp [k08S15, mod6, c3, str_s1, a1, w1, neg1, la, lr, -len_list, c, str_n1, a2, w4]
theorem str_abn : PyData.str ("'a 'b\n" : Str) = tx [39, 97, 32, 39, 98, 10] := by unfold tx; congr 1
theorem str_0s : PyData.str ("0 " : Str) = tx [48, 32] := by unfold tx; congr 1
theorem str_01 : PyData.str ("0" : Str) = tx [48] := by unfold tx; congr 1
/-- way 5: too much -/
theorem k8_16 (c3 : more % 6 = 5) : k08S16 [x0, .im (.int m), x2, .ow Q, .im (.int 5), .im (.int more), s6, s7, s8, s9] = .rt (.bool true) := by
  have w1 := way_rules
  have w2 := way_long
  have m1 : mulD (tx [39, 97, 32, 39, 98, 10]) (.int 601) = some (tx (List.replicate 601 [39, 97, 32, 39, 98, 10]).flatten) := mul_tx (k := 601) (by simp) (by simp)
  have m2 : mulD (tx [48, 32]) (.int 2000) = some (tx (List.replicate 2000 [48, 32]).flatten) := mul_tx (k := 2000) (by simp) (by simp)
  have a1 : addD (tx [39, 97, 32, 39, 98, 10]) (tx (List.replicate 2000 [48, 32]).flatten) = some (tx ([39, 97, 32, 39, 98, 10] ++ (List.replicate 2000 [48, 32]).flatten)) := add_tx (by simp)
  have a2 : addD (tx ([39, 97, 32, 39, 98, 10] ++ (List.replicate 2000 [48, 32]).flatten)) (tx [48]) = some (tx ([39, 97, 32, 39, 98, 10] ++ (List.replicate 2000 [48, 32]).flatten ++ [48])) := add_tx (by simp)
  generalize [39, 97, 32, 39, 98, 10] ++ (List.replicate 2000 [48, 32]).flatten ++ [48] = T2 at *
  generalize [39, 97, 32, 39, 98, 10] ++ (List.replicate 2000 [48, 32]).flatten = T3 at *
  generalize (List.replicate 2000 [48, 32]).flatten = T4 at *
  generalize (List.replicate 601 [39, 97, 32, 39, 98, 10]).flatten = T1 at *
  obtain ⟨d, hat, hd⟩ : ∃ d, atI [tx T1, tx T2] (more / 6 % 2) = some d ∧ f__law_refused [d] = .ok (.bool true) := by
    rcases (show more / 6 % 2 = 0 ∨ more / 6 % 2 = 1 by omega) with e | e <;> rw [e]
    · exact ⟨_, atI_0, w1⟩
    · exact ⟨_, atI_1, w2⟩
  simp [k08S16, mod6, c3, str_abn, str_0s, str_01, m1, m2, a1, a2, div6, mod2, hat, hd]
/-- way 5: two rows more -/
theorem k8_17 (h : B8 rs row) : k08S17 [x0, .im (.int m), x2, .ow (rwD (L0 rs row)), .im (.int 5), .im (.int more), s6, s7, s8, s9] = .rt (.bool true) := by
  have n := h.n
  have c0 : slD none (some (-1)) (.list (rwD (L0 rs row))) = some (.list (rwD ((rs.map pairL).map Tm))) := by rw [L0_snoc, rw_snoc, sl_list, cutL_m1, List.dropLast_concat]
  have lA : (rwD ((rs.map pairL).map Tm)).length ≤ 8 := by simp [rwD]; omega
  have a1 : addD (.list (rwD ((rs.map pairL).map Tm))) (.list [.list [tx [39, 97]], .list [tx [39, 98]]]) = some (.list (rwD ((rs.map pairL).map Tm ++ [[[39, 97]], [[39, 98]]]))) := by
    rw [add_list (by simp only [List.length_cons, List.length_nil]; omega)]
    simp [rwD]
  have ww := fun {X} hX => way_more h (X := X) hX
  have ll := line_of (ww (X := []) (.inr (.inl rfl))).1
  have tn := line_tn (ww (X := []) (.inr (.inl rfl))).1
  have w1 := (ww (X := [32]) (.inl rfl)).2
  have w2 := (ww (X := []) (.inr (.inl rfl))).2
  have w3 := (ww (X := [10]) (.inr (.inr rfl))).2
  clear ww
  generalize rwD ((rs.map pairL).map Tm ++ [[[39, 97]], [[39, 98]]]) = Q2 at *
  generalize lineT ((rs.map pairL).map Tm ++ [[[39, 97]], [[39, 98]]]) = T at *
  generalize rwD ((rs.map pairL).map Tm) = QA at *
  generalize rwD (L0 rs row) = Q at *
  have l := tn.1
  obtain ⟨X, hat, hX, rf⟩ : ∃ X, atI [tx [32], tx [], tx [10]] (more % 3) = some (tx X) ∧ X.length ≤ 1 ∧ f__law_refused [tx (T ++ X)] = .ok (.bool true) := by
    rcases (show more % 3 = 0 ∨ more % 3 = 1 ∨ more % 3 = 2 by omega) with e | e | e <;> rw [e]
    · exact ⟨_, atI_0, by simp, w1⟩
    · exact ⟨_, atI_1, by simp, w2⟩
    · exact ⟨_, atI_2, by simp, w3⟩
  have a2 : addD (tx T) (tx X) = some (tx (T ++ X)) := add_tx (by omega)
  generalize T ++ X = T3 at *
  simp [k08S17, neg1, -sl_list, c0, str_a8, str_b8, a1, ll, str_s1, str_em, str_n1, mod3, hat, a2, rf]
end
theorem law_plain (ns : List Int) (hl : ns.length ≤ 63) : f_law [scrD ns] = .ok (.bool true) := by
  refine fn_of rfl ?_
  rw [k08_law]
  have ec := e_cell_at ns 0
  have ec1 := e_cell_at ns 1
  rw [show ((0 : Nat) : Int) = 0 from rfl] at ec
  rw [show ((1 : Nat) : Int) = 1 from rfl] at ec1
  obtain ⟨m, m7, hm0, hm8⟩ : ∃ m : Nat, (2 : Int) + ns.getD 1 0 % 7 = (m : Int) ∧ 0 < m ∧ m ≤ 8 := by
    refine ⟨(2 + ns.getD 1 0 % 7).toNat, ?_, ?_, ?_⟩ <;> omega
  have md : modD (.int (ns.getD 1 0)) (.int 7) = some (.int (ns.getD 1 0 % 7)) := mod_int (by decide)
  have el : f__law_rows [scrD ns, .int m] = .ok (rwD (L0 (rs8 ns m) (row8 ns m))) := e_lrows ns hm8
  have hb : B8 (rs8 ns m) (row8 ns m) := ⟨rs8_ok ns m, by have := row8_ok ns m; simpa [rs8] using this, by simp [rs8]; exact hm8, by unfold row8 n8; simp; omega⟩
  have hm : (rs8 ns m).length = m := by simp [rs8]
  generalize rs8 ns m = rs at *
  generalize row8 ns m = row at *
  generalize ns.getD 0 0 = cell at *
  generalize ns.getD 1 0 = c1 at *
  have s1 : k08S1 [.im (scrD ns), .un, .un, .un, .un, .un, .un, .un, .un, .un] = .nx [.im (scrD ns), .im (.int m), .un, .un, .un, .un, .un, .un, .un, .un] := by
    simp [k08S1, ec1, md, m7]
  have s2 : k08S2 [.im (scrD ns), .im (.int m), .un, .un, .un, .un, .un, .un, .un, .un] = .nx [.im (scrD ns), .im (.int m), .im (.int cell), .un, .un, .un, .un, .un, .un, .un] := by
    simp [k08S2, ec]
  have s3 : k08S3 [.im (scrD ns), .im (.int m), .im (.int cell), .un, .un, .un, .un, .un, .un, .un] = .nx [.im (scrD ns), .im (.int m), .im (.int cell), .ow (rwD (L0 rs row)), .un, .un, .un, .un, .un, .un] := by
    simp [k08S3, el]
  have m9 : modD (.int cell) (.int 9) = some (.int (cell % 9)) := mod_int (by decide)
  have d9 : fdivD (.int cell) (.int 9) = some (.int (cell / 9)) := fdiv_int (by decide)
  obtain ⟨w, hat, hw⟩ : ∃ w : Int, atI [PyData.int 0, .int 1, .int 2, .int 3, .int 4, .int 5, .int 2, .int 5, .int 2] (cell % 9) = some (.int w) ∧ (w = 0 ∨ w = 1 ∨ w = 2 ∨ w = 3 ∨ w = 4 ∨ w = 5) := by
    rcases (show cell % 9 = 0 ∨ cell % 9 = 1 ∨ cell % 9 = 2 ∨ cell % 9 = 3 ∨ cell % 9 = 4 ∨ cell % 9 = 5 ∨ cell % 9 = 6 ∨ cell % 9 = 7 ∨ cell % 9 = 8 by omega) with e | e | e | e | e | e | e | e | e <;> rw [e]
    · exact ⟨_, atI_0, by omega⟩
    · exact ⟨_, atI_1, by omega⟩
    · exact ⟨_, atI_2, by omega⟩
    · exact ⟨_, atI_3, by omega⟩
    · exact ⟨_, atI_4, by omega⟩
    · exact ⟨_, atI_ok (k := 5) rfl, by omega⟩
    · exact ⟨_, atI_ok (k := 6) rfl, by omega⟩
    · exact ⟨_, atI_ok (k := 7) rfl, by omega⟩
    · exact ⟨_, atI_ok (k := 8) rfl, by omega⟩
  have s4 : k08S4 [.im (scrD ns), .im (.int m), .im (.int cell), .ow (rwD (L0 rs row)), .un, .un, .un, .un, .un, .un] = .nx [.im (scrD ns), .im (.int m), .im (.int cell), .ow (rwD (L0 rs row)), .im (.int w), .un, .un, .un, .un, .un] := by
    simp [k08S4, m9, hat]
  have s5 : k08S5 [.im (scrD ns), .im (.int m), .im (.int cell), .ow (rwD (L0 rs row)), .im (.int w), .un, .un, .un, .un, .un] = .nx [.im (scrD ns), .im (.int m), .im (.int cell), .ow (rwD (L0 rs row)), .im (.int w), .im (.int (cell / 9)), .un, .un, .un, .un] := by
    simp [k08S5, d9]
  have i0 : ini 10 1 [scrD ns] = [.im (scrD ns), .un, .un, .un, .un, .un, .un, .un, .un, .un] := rfl
  have ln := line_of (L0_ok hb)
  rw [i0]
  generalize cell / 9 = more at *
  simp only [v_mSeq, s1, s2, s3, s4, s5, v_th]
  rcases hw with rfl | rfl | rfl | rfl | rfl | rfl
  · rw [k8_6 hb hm]; rfl
  · rw [k8_n6 (by omega)]
    simp only [v_th, v_mSeq]
    rw [k8_7]; rfl
  · rw [k8_n6 (by omega)]
    simp only [v_th, v_mSeq]
    rw [k8_n7 (by omega)]
    simp only [v_th, v_mSeq]
    by_cases c : more % 3 = 1
    · rw [k8_8 hb hm c]; rfl
    · rw [k8_n8 (.inr c)]
      simp only [v_th, v_mSeq]
      rw [k8_9 hb hm hm0]; rfl
  · rw [k8_n6 (by omega)]
    simp only [v_th, v_mSeq]
    rw [k8_n7 (by omega)]
    simp only [v_th, v_mSeq]
    rw [k8_n8 (.inl (by omega))]
    simp only [v_th, v_mSeq]
    rw [k8_n9 (by omega)]
    simp only [v_th, v_mSeq]
    obtain ⟨i, hi, e10⟩ := k8_10 (x0 := .im (scrD ns)) (x2 := .im (.int cell)) (s6 := .un) (s7 := .un) (s8 := .un) (s9 := .un) (w := 3) (more := more) (Q := rwD (L0 rs row)) hm0
    rw [e10]
    simp only [v_th, v_mSeq]
    rw [k8_11 hb hm hi]; rfl
  · rw [k8_n6 (by omega)]
    simp only [v_th, v_mSeq]
    rw [k8_n7 (by omega)]
    simp only [v_th, v_mSeq]
    rw [k8_n8 (.inl (by omega))]
    simp only [v_th, v_mSeq]
    rw [k8_n9 (by omega)]
    simp only [v_th, v_mSeq]
    obtain ⟨i, hi, e10⟩ := k8_10 (x0 := .im (scrD ns)) (x2 := .im (.int cell)) (s6 := .un) (s7 := .un) (s8 := .un) (s9 := .un) (w := 4) (more := more) (Q := rwD (L0 rs row)) hm0
    rw [e10]
    simp only [v_th, v_mSeq]
    rw [k8_n11 (by omega)]
    simp only [v_th, v_mSeq]
    rw [k8_12 ln]
    simp only [v_th, v_mSeq]
    rw [k8_13 hb]; rfl
  · rw [k8_n6 (by omega)]
    simp only [v_th, v_mSeq]
    rw [k8_n7 (by omega)]
    simp only [v_th, v_mSeq]
    rw [k8_n8 (.inl (by omega))]
    simp only [v_th, v_mSeq]
    rw [k8_n9 (by omega)]
    simp only [v_th, v_mSeq]
    obtain ⟨i, hi, e10⟩ := k8_10 (x0 := .im (scrD ns)) (x2 := .im (.int cell)) (s6 := .un) (s7 := .un) (s8 := .un) (s9 := .un) (w := 5) (more := more) (Q := rwD (L0 rs row)) hm0
    rw [e10]
    simp only [v_th, v_mSeq]
    rw [k8_n11 (by omega)]
    simp only [v_th, v_mSeq]
    rw [k8_12 ln]
    simp only [v_th, v_mSeq]
    rw [k8_n13 (by omega)]
    simp only [v_th, v_mSeq]
    by_cases c3 : more % 6 = 3
    · rw [k8_14 hb hm hi c3]; rfl
    · rw [k8_n14 c3]
      simp only [v_th, v_mSeq]
      by_cases c4 : more % 6 = 4
      · rw [k8_15 hb c4]; rfl
      · rw [k8_n15 c4]
        simp only [v_th, v_mSeq]
        by_cases c5 : more % 6 = 5
        · rw [k8_16 c5]; rfl
        · rw [k8_n16 c5]
          simp only [v_th, v_mSeq]
          rw [k8_17 hb]; rfl


theorem hRun (w : World) : HandSHeadRun.RunEq hR (PySem.W.view hR.prog [24]) hK hOb 4000 hLoose w := by
  intro os
  kernel_rfl


end PL

open PySem PySem.W PySem.Calls PyProof.Rows
set_option maxHeartbeats 0 in
theorem PySem.Challenge.cw_pairrules_k08_texts_refused_holds : PySem.Challenge.rw_pairrules_k08_texts_refused.Holds := by
  w_on; o_law
  refine HandSHeadRun.head_any (r := OpenLaw.row PySem.Challenge.rw_pairrules_k08_texts_refused) (q := view (OpenLaw.row PySem.Challenge.rw_pairrules_k08_texts_refused).prog [24]) (H := PL.hK) (ob := PL.hOb) (M := 4000) (loose := PL.hLoose) (d := HandSHeadRun.topDef (OpenLaw.row PySem.Challenge.rw_pairrules_k08_texts_refused).prog 24) (kwd := []) PL.hOb_eq
    (by kernel_rfl) (fun s => by kernel_rfl) PL.hRun (by kernel_rfl) (by kernel_rfl) (by kernel_rfl) (by rfl) (by first | assumption | decide +kernel) (by decide +kernel) ⟨rfl, rfl, rfl, rfl, rfl, by decide +kernel⟩ ?hw ?hc
  case hw => w_witness2
  case hc =>
    refine L2.walk_ofE (l := PySem.Challenge.rw_pairrules_k08_texts_refused) (n := 63) (k := 8) (x := "_law_script") (CX := L2.CX0) rfl (by decide) (by kernel_rfl) ⟨rfl, by decide, by decide⟩ ?F (fun _ _ _ _ z => z)
    intro w mg fa h Y G hmg0
    obtain ⟨K, KX, xw, c⟩ := Y
    have hmg : mg ("law" : PySem.Str) = some (.ref fa) := by
      have e : (HandSHeadRun.topDef (OpenLaw.row PySem.Challenge.rw_pairrules_k08_texts_refused).prog 24).name = ("law" : PySem.Str) := by kernel_rfl
      rw [← e]
      exact hmg0
    have T := PL.txt_mk KX G c xw
    obtain ⟨f, fd, F, hm, _⟩ := T.d_law
    have ef := hm.symm.trans hmg
    cases ef
    exact ⟨K, fd, fun vs H Q _ => PL.spD K mg PL.f_law vs H Q L2.E0, KX, PL.law_bind F fun _ _ _ _ _ _ us hl => match us, hl with | [_], _ => rfl, fun H a ns hl _ hS => PL.law_sp hS (PL.law_plain ns hl), fun base _ _ => PL.fn0N (PL.ok_all F T)⟩

