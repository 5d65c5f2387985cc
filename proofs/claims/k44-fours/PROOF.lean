import PyProof.Rows.All
import Wide.All
import OpenK.AllK
import Wide.FinOn
import HandS.ForMost
import HandS.Evl
import HandS.Wide
import HandS.TupAny
import HandS.TupMul
import HandS.Deep
import HandS.IsInst
import HandS.Conv
import HandS.Style
import PyProof.Rows.RuleB_pow
import HandS.SortInts
import HandS.Small
import HandS.Zip
import HandS.RevTup
import KE.SortData
import KE.DataMinMax
import KE.DataFind
import KE.DataCmp
import HandS.SortOrd
import HandS.SortRule
import PyProof.ReprRoads
import PySem.Challenge.RW_kinbranches_k44_fours_judged
set_option Elab.async false
set_option linter.all false
set_option maxRecDepth 100000
set_option maxHeartbeats 8000000
/-! values without a heap: data (shared, never changed), and what one name alone holds and may change -/
namespace VS
open PySem PySem.Spec L2
open Evl (Ex Ex.refl Ex.trans Ex.new)

/-- data -/
inductive D where
  | non | bl (b : Bool) | int (i : Int) | str (s : PySem.Str) | ty (n : String)
  | tup (xs : List D) | kt (xs : List D) | lst (xs : List D) | dk (ks : List Key) (vs : List D) | dt (ks : List (List Key)) (vs : List D)

/-- a content: data; or an object that one holder owns -/
inductive C where
  | d (x : D) | l (xs : List D) | k (ks : List Key) (vs : List D) | t (ks : List (List Key)) (vs : List D) | p (xs ys : List Int) | m (rows : List (List D))

mutual
inductive Dt (K : PySem.W.Frag) (H : Hp) : V → D → Prop
  | non : Dt K H .non .non
  | bl (b : Bool) : Dt K H (.bl b) (.bl b)
  | int (i : Int) : Dt K H (.int i) (.int i)
  | str (s : PySem.Str) : Dt K H (.str s) (.str s)
  | ty (n : String) : Dt K H (.ty n) (.ty n)
  | tup {a : Addr} {vs : List V} {xs : List D} : H a = some (.tup vs) → Dts K H vs xs → Dt K H (.ref a) (.tup xs)
  | kt {a : Addr} {vs : List V} {xs : List D} : SqT K H a vs → Dts K H vs xs → Dt K H (.ref a) (.kt xs)
  | lst {a : Addr} {vs : List V} {xs : List D} : SqL K H a vs → Dts K H vs xs → Dt K H (.ref a) (.lst xs)
  | dk {a : Addr} {kvs : List (Key × V)} {xs : List D} : Rd H a (.dK kvs) → Dts K H (kvs.map (·.2)) xs → Dt K H (.ref a) (.dk (kvs.map (·.1)) xs)
  | dt {a : Addr} {kvs : List (List Key × V)} {xs : List D} : Rd H a (.dT kvs) → Dts K H (kvs.map (·.2)) xs → Dt K H (.ref a) (.dt (kvs.map (·.1)) xs)
inductive Dts (K : PySem.W.Frag) (H : Hp) : List V → List D → Prop
  | nil : Dts K H [] []
  | cons {v : V} {vs : List V} {x : D} {xs : List D} : Dt K H v x → Dts K H vs xs → Dts K H (v :: vs) (x :: xs)
end

section
variable {K : PySem.W.Frag} {H H' : Hp}
mutual
theorem Dt.ex (e : Ex H H') : ∀ {v : V} {x : D}, Dt K H v x → Dt K H' v x
  | _, _, .non => .non
  | _, _, .bl b => .bl b
  | _, _, .int i => .int i
  | _, _, .str s => .str s
  | _, _, .ty s => .ty s
  | _, _, .tup h hs => .tup (e _ _ h) (Dts.ex e hs)
  | _, _, .kt h hs => .kt (Evl.ex_t e h) (Dts.ex e hs)
  | _, _, .lst h hs => .lst (Evl.ex_l e h) (Dts.ex e hs)
  | _, _, .dk h hs => .dk (Evl.ex_rd e h) (Dts.ex e hs)
  | _, _, .dt h hs => .dt (Evl.ex_rd e h) (Dts.ex e hs)
theorem Dts.ex (e : Ex H H') : ∀ {vs : List V} {xs : List D}, Dts K H vs xs → Dts K H' vs xs
  | _, _, .nil => .nil
  | _, _, .cons h hs => .cons (Dt.ex e h) (Dts.ex e hs)
end
theorem Dts.len : ∀ {vs : List V} {xs : List D}, Dts K H vs xs → vs.length = xs.length
  | _, _, .nil => rfl
  | _, _, .cons _ h => congrArg (· + 1) (Dts.len h)
theorem Dts.get : ∀ {vs : List V} {xs : List D} {i : Nat} {x : D}, Dts K H vs xs → xs[i]? = some x → ∃ v, vs[i]? = some v ∧ Dt K H v x
  | _, _, _, _, .nil, e => by simp at e
  | _, _, 0, x, .cons h _, e => by
    have e' : _ = x := Option.some.inj e
    subst e'
    exact ⟨_, rfl, h⟩
  | _, _, i + 1, x, .cons _ hs, e => Dts.get (i := i) hs e
theorem Dts.getV : ∀ {vs : List V} {xs : List D} {i : Nat} {v : V}, Dts K H vs xs → vs[i]? = some v → ∃ x, xs[i]? = some x ∧ Dt K H v x
  | _, _, _, _, .nil, e => by simp at e
  | _, _, 0, v, .cons h _, e => by
    have e' : _ = v := Option.some.inj e
    subst e'
    exact ⟨_, rfl, h⟩
  | _, _, i + 1, v, .cons _ hs, e => Dts.getV (i := i) hs e
theorem Dts.append : ∀ {vs ws : List V} {xs ys : List D}, Dts K H vs xs → Dts K H ws ys → Dts K H (vs ++ ws) (xs ++ ys)
  | _, _, _, _, .nil, h => h
  | _, _, _, _, .cons h hs, q => .cons h (Dts.append hs q)
theorem Dts.take : ∀ {vs : List V} {xs : List D} (n : Nat), Dts K H vs xs → Dts K H (vs.take n) (xs.take n)
  | _, _, 0, _ => .nil
  | _, _, n + 1, .nil => .nil
  | _, _, n + 1, .cons h hs => .cons h (Dts.take n hs)
theorem Dts.drop : ∀ {vs : List V} {xs : List D} (n : Nat), Dts K H vs xs → Dts K H (vs.drop n) (xs.drop n)
  | _, _, 0, h => h
  | _, _, n + 1, .nil => .nil
  | _, _, n + 1, .cons _ hs => Dts.drop n hs
theorem Dts.set {v : V} {x : D} (h : Dt K H v x) : ∀ {vs : List V} {xs : List D} (i : Nat), Dts K H vs xs → Dts K H (vs.set i v) (xs.set i x)
  | _, _, _, .nil => .nil
  | _, _, 0, .cons _ hs => .cons h hs
  | _, _, i + 1, .cons q hs => .cons q (Dts.set h i hs)
theorem Dts.erase : ∀ {vs : List V} {xs : List D} (i : Nat), Dts K H vs xs → Dts K H (vs.eraseIdx i) (xs.eraseIdx i)
  | _, _, _, .nil => .nil
  | _, _, 0, .cons _ hs => hs
  | _, _, i + 1, .cons q hs => .cons q (Dts.erase i hs)
theorem Dts.ints : ∀ (ns : List Int), Dts K H (ns.map V.int) (ns.map D.int)
  | [] => .nil
  | n :: r => .cons (.int n) (Dts.ints r)
theorem Dts.strs : ∀ (ns : List PySem.Str), Dts K H (ns.map V.str) (ns.map D.str)
  | [] => .nil
  | n :: r => .cons (.str n) (Dts.strs r)
theorem Dts.of_ints : ∀ {vs : List V} {ns : List Int}, Dts K H vs (ns.map D.int) → vs = ns.map V.int
  | _, [], .nil => rfl
  | _, n :: r, .cons (.int _) h => by rw [Dts.of_ints h]; rfl
theorem Dts.of_strs : ∀ {vs : List V} {ns : List PySem.Str}, Dts K H vs (ns.map D.str) → vs = ns.map V.str
  | _, [], .nil => rfl
  | _, n :: r, .cons (.str _) h => by rw [Dts.of_strs h]; rfl
theorem Dts.of_bls : ∀ {vs : List V} {ns : List Bool}, Dts K H vs (ns.map D.bl) → vs = ns.map V.bl
  | _, [], .nil => rfl
  | _, n :: r, .cons (.bl _) h => by rw [Dts.of_bls h]; rfl
theorem Dts.bls : ∀ (ns : List Bool), Dts K H (ns.map V.bl) (ns.map D.bl)
  | [] => .nil
  | n :: r => .cons (.bl n) (Dts.bls r)
end

/-- the pairs of a dict -/
def KDs {κ : Type} (K : PySem.W.Frag) (H : Hp) (kvs : List (κ × V)) (ks : List κ) (xs : List D) : Prop := kvs.map (·.1) = ks ∧ Dts K H (kvs.map (·.2)) xs
theorem KDs.ex {κ : Type} {K : PySem.W.Frag} {H H' : Hp} {kvs : List (κ × V)} {ks : List κ} {xs : List D} (e : Ex H H') (h : KDs K H kvs ks xs) : KDs K H' kvs ks xs := ⟨h.1, h.2.ex e⟩

/-- lists of its own, one by one -/
inductive Rows (K : PySem.W.Frag) (Hs H : Hp) : List Addr → List (List D) → Prop
  | nil : Rows K Hs H [] []
  | cons {q : Addr} {qs : List Addr} {vs : List V} {xs : List D} {rows : List (List D)} : H q = some (.lst vs) → Dts K Hs vs xs → Rows K Hs H qs rows → Rows K Hs H (q :: qs) (xs :: rows)
theorem Rows.mono {K : PySem.W.Frag} {Hs Hs' H H' : Hp} (e : Ex Hs Hs') : ∀ {qs : List Addr} {rows : List (List D)}, Rows K Hs H qs rows → (∀ a ∈ qs, ∀ u, H a = some u → H' a = some u) → Rows K Hs' H' qs rows
  | _, _, .nil, _ => .nil
  | _, _, .cons h hs r, k => .cons (k _ (by simp) _ h) (hs.ex e) (Rows.mono e r fun a ha => k a (List.mem_cons_of_mem _ ha))
theorem Rows.known {K : PySem.W.Frag} {Hs H : Hp} : ∀ {qs : List Addr} {rows : List (List D)}, Rows K Hs H qs rows → ∀ a ∈ qs, ∃ u, H a = some u
  | _, _, .nil, a, ha => absurd ha (by simp)
  | _, _, .cons h hs r, a, ha => by
    rcases List.mem_cons.mp ha with e | ha
    · subst e; exact ⟨_, h⟩
    · exact Rows.known r a ha
/-- v is c: data by the shared part Hs; the objects at o are its own -/
inductive Rep (K : PySem.W.Frag) (Hs H : Hp) : V → C → List Addr → Prop
  | d {v : V} {x : D} : Dt K Hs v x → Rep K Hs H v (.d x) []
  | l {p : Addr} {vs : List V} {xs : List D} : H p = some (.lst vs) → Dts K Hs vs xs → Rep K Hs H (.ref p) (.l xs) [p]
  | k {p : Addr} {kvs : List (Key × V)} {ks : List Key} {xs : List D} : H p = some (.dK kvs) → KDs K Hs kvs ks xs → Rep K Hs H (.ref p) (.k ks xs) [p]
  | t {p : Addr} {kvs : List (List Key × V)} {ks : List (List Key)} {xs : List D} : H p = some (.dT kvs) → KDs K Hs kvs ks xs → Rep K Hs H (.ref p) (.t ks xs) [p]
  | p {p q : Addr} {xs ys : List Int} : H p = some (.lst (.ref q :: ys.map V.int)) → H q = some (.lst (xs.map V.int)) → Rep K Hs H (.ref p) (.p xs ys) [p, q]
  | m {p : Addr} {qs : List Addr} {rows : List (List D)} : H p = some (.lst (qs.map V.ref)) → (p :: qs).Nodup → Rows K Hs H qs rows → Rep K Hs H (.ref p) (.m rows) (p :: qs)
theorem Rep.mono {K : PySem.W.Frag} {Hs Hs' H H' : Hp} {v : V} {c : C} {o : List Addr} (r : Rep K Hs H v c o) (e : Ex Hs Hs') (k : ∀ a ∈ o, ∀ u, H a = some u → H' a = some u) : Rep K Hs' H' v c o := by
  cases r with
  | d h => exact .d (h.ex e)
  | l h hs => exact .l (k _ (by simp) _ h) (hs.ex e)
  | k h hs => exact .k (k _ (by simp) _ h) (hs.ex e)
  | t h hs => exact .t (k _ (by simp) _ h) (hs.ex e)
  | p h hs => exact .p (k _ (by simp) _ h) (k _ (by simp) _ hs)
  | m h nd hs => exact .m (k _ (by simp) _ h) nd (hs.mono e fun a ha => k a (List.mem_cons_of_mem _ ha))
theorem Rep.known {K : PySem.W.Frag} {Hs H : Hp} {v : V} {c : C} {o : List Addr} (r : Rep K Hs H v c o) : ∀ a ∈ o, ∃ u, H a = some u := by
  cases r with
  | d h => intro a ha; simp at ha
  | l h hs => intro a ha; simp at ha; subst ha; exact ⟨_, h⟩
  | k h hs => intro a ha; simp at ha; subst ha; exact ⟨_, h⟩
  | t h hs => intro a ha; simp at ha; subst ha; exact ⟨_, h⟩
  | p h hs =>
    intro a ha
    simp at ha
    rcases ha with rfl | rfl
    · exact ⟨_, h⟩
    · exact ⟨_, hs⟩
  | m h nd hs =>
    intro a ha
    rcases List.mem_cons.mp ha with e | ha
    · subst e; exact ⟨_, h⟩
    · exact hs.known a ha

/-- what is fixed through a def's body: the heap at the entry, its shared part, the objects that it may change, the slots that it never stores, the slots at the entry -/
structure Stat where
  H0 : Hp
  Hs0 : Hp
  P : Addr → Prop
  ro : List Nat
  σ0 : L2.St

/-- who owns an object: a slot, or a value on the way (by its level) -/
abbrev Own := Addr → Option (Sum Nat Nat)

/-- the state: the shared part, the owners -/
structure SRw (K : PySem.W.Frag) (Z : Stat) (σ : L2.St) (H : Hp) (L : List (Option C)) (T : List (V × C)) (Hs : Hp) (w : Own) : Prop where
  grow : Ex Z.Hs0 Hs
  sub : Ex Hs H
  news : ∀ a u, Hs a = some u → Z.Hs0 a = some u ∨ Z.P a ∨ Z.H0 a = none
  own : ∀ a t, w a = some t → Hs a = none ∧ (Z.P a ∨ Z.H0 a = none)
  slot : ∀ i c, L[i]? = some (some c) → ∃ v o, σ[i]? = some (some v) ∧ Rep K Hs H v c o ∧ ∀ a ∈ o, w a = some (.inl i)
  tmp : ∀ i (vc : V × C), T[i]? = some vc → ∃ o, Rep K Hs H vc.1 vc.2 o ∧ ∀ a ∈ o, w a = some (.inr i)
  frame : ∀ a u, Z.H0 a = some u → ¬ Z.P a → H a = some u
  rd : ∀ i ∈ Z.ro, σ[i]? = Z.σ0[i]?
  len : L.length = σ.length
  tups : ∀ a xs, H a = some (.tup xs) → Hs a = some (.tup xs)
def SR (K : PySem.W.Frag) (Z : Stat) (σ : L2.St) (H : Hp) (L : List (Option C)) (T : List (V × C)) : Prop := ∃ Hs w, SRw K Z σ H L T Hs w

/-- the heap has grown by new objects, some of them shared -/
structure Grow (Hs H Hs' H' : Hp) : Prop where
  ex : Ex H H'
  exs : Ex Hs Hs'
  sub : Ex Hs' H'
  new : ∀ a u, Hs' a = some u → Hs a = some u ∨ H a = none
  tup : ∀ a xs, H' a = some (.tup xs) → H a = some (.tup xs) ∨ Hs' a = some (.tup xs)
theorem Grow.refl {Hs H : Hp} (s : Ex Hs H) : Grow Hs H Hs H := ⟨Ex.refl _, Ex.refl _, s, fun _ _ h => .inl h, fun _ _ h => .inl h⟩
theorem Grow.trans {Hs H Hs1 H1 Hs2 H2 : Hp} (a : Grow Hs H Hs1 H1) (b : Grow Hs1 H1 Hs2 H2) : Grow Hs H Hs2 H2 :=
  ⟨a.ex.trans b.ex, a.exs.trans b.exs, b.sub, fun x u h => by
    rcases b.new x u h with h | h
    · exact a.new x u h
    · exact .inr (Evl.fresh_back a.ex h), fun x xs h => by
    rcases b.tup x xs h with h | h
    · rcases a.tup x xs h with h | h
      · exact .inl h
      · exact .inr (b.exs x _ h)
    · exact .inr h⟩
theorem none_sub {Hs H : Hp} (s : Ex Hs H) {a : Addr} (h : H a = none) : Hs a = none := by
  cases q : Hs a with
  | none => rfl
  | some u => rw [s a u q] at h; cases h
/-- a new shared object -/
theorem Grow.shared {Hs H : Hp} (s : Ex Hs H) {p : Addr} {u : HO} (h : H p = none) : Grow Hs H (upd Hs p u) (upd H p u) := by
  have hs := none_sub s h
  refine ⟨Ex.new h, Ex.new hs, fun a x e => ?_, fun a x e => ?_, fun a xs e => ?_⟩
  · by_cases hp : a = p
    · subst hp; rw [upd_same] at e ⊢; exact e
    · rw [upd_ne hp] at e ⊢; exact s a x e
  · by_cases hp : a = p
    · subst hp; exact .inr h
    · rw [upd_ne hp] at e; exact .inl e
  · by_cases hp : a = p
    · subst hp; rw [upd_same] at e ⊢; exact .inr e
    · rw [upd_ne hp] at e; exact .inl e
/-- a new object of one's own -/
theorem Grow.owned {Hs H : Hp} (s : Ex Hs H) {p : Addr} {u : HO} (h : H p = none) (hu : ∀ xs, u ≠ .tup xs := by intro _ z; cases z) : Grow Hs H Hs (upd H p u) :=
  ⟨Ex.new h, Ex.refl _, s.trans (Ex.new h), fun _ _ e => .inl e, fun a xs e => by
    by_cases hp : a = p
    · subst hp; rw [upd_same] at e; exact absurd (Option.some.inj e) (hu xs)
    · rw [upd_ne hp] at e; exact .inl e⟩

section
variable {K : PySem.W.Frag} {Z : Stat} {σ : L2.St} {H H' Hs Hs' : Hp} {L : List (Option C)} {T : List (V × C)} {w : Own}
theorem SRw.fresh0 (S : SRw K Z σ H L T Hs w) {a : Addr} (h : H a = none) : Z.P a ∨ Z.H0 a = none := by
  by_cases hp : Z.P a
  · exact .inl hp
  · refine .inr ?_
    cases q : Z.H0 a with
    | none => rfl
    | some u => rw [S.frame a u q hp] at h; cases h
/-- values on the way are dropped, those at and behind n -/
theorem SRw.drop (S : SRw K Z σ H L T Hs w) (n : Nat) : SRw K Z σ H L (T.take n) Hs w :=
  ⟨S.grow, S.sub, S.news, S.own, S.slot, fun i vc e => S.tmp i vc (by
    rw [List.getElem?_take] at e
    split at e
    · exact e
    · cases e), S.frame, S.rd, S.len, S.tups⟩
/-- the heap grows -/
theorem SRw.grows (S : SRw K Z σ H L T Hs w) (g : Grow Hs H Hs' H') (hw : ∀ a t, w a = some t → Hs' a = none) : SRw K Z σ H' L T Hs' w :=
  ⟨S.grow.trans g.exs, g.sub, fun a u e => by
    rcases g.new a u e with e | e
    · exact S.news a u e
    · exact .inr (S.fresh0 e), fun a t e => ⟨hw a t e, (S.own a t e).2⟩, fun i c e => by
    obtain ⟨v, o, h1, h2, h3⟩ := S.slot i c e
    exact ⟨v, o, h1, h2.mono g.exs fun a _ u q => g.ex a u q, h3⟩, fun i vc e => by
    obtain ⟨o, h2, h3⟩ := S.tmp i vc e
    exact ⟨o, h2.mono g.exs fun a _ u q => g.ex a u q, h3⟩, fun a u e hp => g.ex a u (S.frame a u e hp), S.rd, S.len, fun a xs e => (g.tup a xs e).elim (fun h => g.exs a _ (S.tups a xs h)) id⟩
/-- owners that hold nothing are forgotten: all owners at levels at and behind n -/
def cutOwn (w : Own) (n : Nat) : Own := fun a => match w a with
  | some (.inr i) => if i < n then some (.inr i) else none
  | x => x
theorem cutOwn_some {w : Own} {n : Nat} {a : Addr} {t : Sum Nat Nat} (h : cutOwn w n a = some t) : w a = some t := by
  unfold cutOwn at h
  split at h
  · split at h
    · rename_i e _; rw [e]; exact h
    · cases h
  · exact h
theorem cutOwn_slot {w : Own} {n : Nat} {a : Addr} {i : Nat} (h : w a = some (.inl i)) : cutOwn w n a = some (.inl i) := by
  unfold cutOwn; rw [h]
theorem cutOwn_tmp {w : Own} {n : Nat} {a : Addr} {i : Nat} (h : w a = some (.inr i)) (hi : i < n) : cutOwn w n a = some (.inr i) := by
  unfold cutOwn; rw [h]; exact if_pos hi
theorem SRw.cut (S : SRw K Z σ H L T Hs w) (n : Nat) : SRw K Z σ H L (T.take n) Hs (cutOwn w n) :=
  ⟨S.grow, S.sub, S.news, fun a t e => S.own a t (cutOwn_some e), (fun i c e => by
    obtain ⟨v, o, h1, h2, h3⟩ := S.slot i c e
    exact ⟨v, o, h1, h2, fun a ha => cutOwn_slot (h3 a ha)⟩), (fun i vc e => by
    rw [List.getElem?_take] at e
    split at e
    · rename_i hi
      obtain ⟨o, h2, h3⟩ := S.tmp i vc e
      exact ⟨o, h2, fun a ha => cutOwn_tmp (h3 a ha) hi⟩
    · cases e), S.frame, S.rd, S.len, S.tups⟩
/-- the heap grows, the values behind n are dropped, one new value is pushed -/
theorem SRw.result (S : SRw K Z σ H L T Hs w) {n : Nat} (hn : n ≤ T.length) (g : Grow Hs H Hs' H') {v : V} {c : C} {o : List Addr} (r : Rep K Hs' H' v c o) (ho : ∀ a ∈ o, H a = none ∧ Hs' a = none)
    (hw : ∀ a u, Hs' a = some u → Hs a = some u ∨ H a = none) : SR K Z σ H' L (T.take n ++ [(v, c)]) := by
  classical
  have S1 := S.cut n
  -- an owner is known
  let w1 : Own := fun a => if a ∈ o then some (.inr n) else if (H a).isSome then cutOwn w n a else none
  have hl : (T.take n).length = n := by rw [List.length_take]; omega
  refine ⟨Hs', w1, S.grow.trans g.exs, g.sub, fun a u e => ?_, fun a t e => ?_, fun i c' e => ?_, fun i vc e => ?_, fun a u e hp => g.ex a u (S.frame a u e hp), S.rd, S.len, fun a xs e => (g.tup a xs e).elim (fun h => g.exs a _ (S.tups a xs h)) id⟩
  · rcases g.new a u e with e | e
    · exact S.news a u e
    · exact .inr (S.fresh0 e)
  · show Hs' a = none ∧ _
    by_cases ha : a ∈ o
    · exact ⟨(ho a ha).2, S.fresh0 (ho a ha).1⟩
    · have e1 : (if (H a).isSome then cutOwn w n a else none) = some t := by
        have e2 : w1 a = some t := e
        simp only [w1, if_neg ha] at e2
        exact e2
      split at e1
      · rename_i hs
        have q := S1.own a t e1
        refine ⟨?_, q.2⟩
        cases z : Hs' a with
        | none => rfl
        | some u =>
          rcases g.new a u z with z | z
          · rw [q.1] at z; cases z
          · rw [z] at hs; cases hs
      · cases e1
  · obtain ⟨v', o', h1, h2, h3⟩ := S1.slot i c' e
    refine ⟨v', o', h1, h2.mono g.exs fun a _ u q => g.ex a u q, fun a ha => ?_⟩
    have kn := h2.known a ha
    obtain ⟨u, hu⟩ := kn
    have na : a ∉ o := fun z => by rw [(ho a z).1] at hu; cases hu
    show w1 a = _
    simp only [w1, if_neg na, hu, Option.isSome_some, if_true]
    exact h3 a ha
  · by_cases hi : i < n
    · rw [List.getElem?_append_left (by rw [hl]; exact hi)] at e
      obtain ⟨o', h2, h3⟩ := S1.tmp i vc e
      refine ⟨o', h2.mono g.exs fun a _ u q => g.ex a u q, fun a ha => ?_⟩
      obtain ⟨u, hu⟩ := h2.known a ha
      have na : a ∉ o := fun z => by rw [(ho a z).1] at hu; cases hu
      show w1 a = _
      simp only [w1, if_neg na, hu, Option.isSome_some, if_true]
      exact h3 a ha
    · rw [List.getElem?_append_right (by rw [hl]; omega), hl] at e
      have hi2 : i - n = 0 := by
        cases q : i - n with
        | zero => rfl
        | succ m => rw [q] at e; simp at e
      rw [hi2] at e
      have e' : (v, c) = vc := Option.some.inj e
      subst e'
      have : i = n := by omega
      subst this
      exact ⟨o, r, fun a ha => by show w1 a = _; simp only [w1, if_pos ha]⟩
end
end VS

/-! what may be done to a state -/
namespace VS
open PySem PySem.Spec L2
open Evl (Ex Ex.refl Ex.trans Ex.new)

/-- an own content, shared from now on -/
def frz : C → D
  | .d x => x
  | .l xs => .lst xs
  | .k ks xs => .dk ks xs
  | .t ks xs => .dt ks xs
  | .p xs ys => .lst (.lst (xs.map .int) :: ys.map .int)
  | .m rows => .lst (rows.map .lst)

section
variable {K : PySem.W.Frag} {Z : Stat} {σ : L2.St} {H H' Hs Hs' : Hp} {L : List (Option C)} {T : List (V × C)} {w : Own}

theorem SR.push (S : SR K Z σ H L T) {v : V} {c : C} (h : ∀ Hs, Ex Hs H → Dt K Hs v (frz c)) (hc : c = .d (frz c)) : SR K Z σ H L (T ++ [(v, c)]) := by
  obtain ⟨Hs, w, S⟩ := S
  have r : Rep K Hs H v c [] := by rw [hc]; exact .d (h Hs S.sub)
  have q := S.result (n := T.length) (Nat.le_refl _) (Grow.refl S.sub) r (fun a ha => absurd ha (by simp)) fun _ _ e => .inl e
  rwa [List.take_length] at q
/-- a slot that holds data is read -/
theorem SR.read (S : SR K Z σ H L T) {i : Nat} {x : D} (h : L[i]? = some (some (.d x))) : ∃ v, σ[i]? = some (some v) ∧ SR K Z σ H L (T ++ [(v, .d x)]) := by
  obtain ⟨Hs, w, S⟩ := S
  obtain ⟨v, o, h1, h2, h3⟩ := S.slot i _ h
  cases h2 with
  | d hd =>
    refine ⟨v, h1, ?_⟩
    have q := S.result (n := T.length) (Nat.le_refl _) (Grow.refl S.sub) (.d hd) (fun a ha => absurd ha (by simp)) fun _ _ e => .inl e
    rwa [List.take_length] at q
/-- what the owner t holds becomes shared -/
noncomputable def shr (Hs H : Hp) (w : Own) (t : Sum Nat Nat) : Hp := fun a => if w a = some t then H a else Hs a
def unown (w : Own) (t : Sum Nat Nat) : Own := fun a => if w a = some t then none else w a
theorem unown_some {w : Own} {t s : Sum Nat Nat} {a : Addr} (h : unown w t a = some s) : w a = some s ∧ s ≠ t := by
  unfold unown at h
  split at h
  · cases h
  · rename_i n
    exact ⟨h, fun e => n (e ▸ h)⟩
theorem unown_ne {w : Own} {t s : Sum Nat Nat} {a : Addr} (h : w a = some s) (n : s ≠ t) : unown w t a = some s := by
  unfold unown
  rw [if_neg]
  · exact h
  · intro e
    rw [h] at e
    exact n (Option.some.inj e)
theorem shr_ex (S : SRw K Z σ H L T Hs w) (t : Sum Nat Nat) : Ex Hs (shr Hs H w t) := fun a u e => by
  unfold shr
  rw [if_neg]
  · exact e
  · intro q
    rw [(S.own a t q).1] at e
    cases e
theorem shr_sub (S : SRw K Z σ H L T Hs w) (t : Sum Nat Nat) : Ex (shr Hs H w t) H := fun a u e => by
  unfold shr at e
  split at e
  · exact e
  · exact S.sub a u e
theorem shr_at {t : Sum Nat Nat} {a : Addr} {u : HO} (h : w a = some t) (e : H a = some u) : shr Hs H w t a = some u := by
  unfold shr
  rw [if_pos h]
  exact e
theorem rows_frozen {Hs0 : Hp} : ∀ {qs : List Addr} {rows : List (List D)}, Rows K Hs H qs rows → Ex Hs Hs0 → (∀ a ∈ qs, ∀ u, H a = some u → Hs0 a = some u) → Dts K Hs0 (qs.map V.ref) (rows.map D.lst)
  | _, _, .nil, _, _ => .nil
  | _, _, .cons h hs r, e, k => .cons (.lst (.inl (.inl (k _ (by simp) _ h))) (hs.ex e)) (rows_frozen r e fun a ha => k a (List.mem_cons_of_mem _ ha))
theorem Rep.frozen (S : SRw K Z σ H L T Hs w) {t : Sum Nat Nat} {v : V} {c : C} {o : List Addr} (r : Rep K Hs H v c o) (ho : ∀ a ∈ o, w a = some t) : Dt K (shr Hs H w t) v (frz c) := by
  have e := shr_ex S t
  cases r with
  | d h => exact h.ex e
  | l h hs => exact .lst (.inl (.inl (shr_at (ho _ (by simp)) h))) (hs.ex e)
  | k h hs =>
    obtain ⟨rfl, hs⟩ := hs
    exact .dk (.inl (shr_at (ho _ (by simp)) h)) (hs.ex e)
  | t h hs =>
    obtain ⟨rfl, hs⟩ := hs
    exact .dt (.inl (shr_at (ho _ (by simp)) h)) (hs.ex e)
  | p h hs => exact .lst (.inl (.inl (shr_at (ho _ (by simp)) h))) (.cons (.lst (.inl (.inl (shr_at (ho _ (by simp)) hs))) (Dts.ints _)) (Dts.ints _))
  | m h nd hs => exact .lst (.inl (.inl (shr_at (ho _ (by simp)) h))) (rows_frozen hs e fun a ha u hu => shr_at (ho a (List.mem_cons_of_mem _ ha)) hu)
theorem shr_news (S : SRw K Z σ H L T Hs w) (t : Sum Nat Nat) : ∀ a u, shr Hs H w t a = some u → Z.Hs0 a = some u ∨ Z.P a ∨ Z.H0 a = none := fun a u e => by
  unfold shr at e
  split at e
  · rename_i q; exact .inr (S.own a t q).2
  · exact S.news a u e
theorem shr_own (S : SRw K Z σ H L T Hs w) {t s : Sum Nat Nat} {a : Addr} (h : unown w t a = some s) : shr Hs H w t a = none ∧ (Z.P a ∨ Z.H0 a = none) := by
  obtain ⟨h1, h2⟩ := unown_some h
  have q := S.own a s h1
  refine ⟨?_, q.2⟩
  unfold shr
  rw [if_neg]
  · exact q.1
  · intro e
    rw [h1] at e
    exact h2 (Option.some.inj e)
/-- a slot's own object becomes shared, and is read -/
theorem SR.freeze (S : SR K Z σ H L T) {i : Nat} {c : C} (h : L[i]? = some (some c)) : ∃ v, σ[i]? = some (some v) ∧ SR K Z σ H (L.set i (some (.d (frz c)))) (T ++ [(v, .d (frz c))]) := by
  obtain ⟨Hs, w, S⟩ := S
  obtain ⟨v, o, h1, h2, h3⟩ := S.slot i _ h
  refine ⟨v, h1, ?_⟩
  have hd := h2.frozen S h3
  have hi : i < L.length := (List.getElem?_eq_some_iff.mp h).1
  have S1 : SRw K Z σ H (L.set i (some (.d (frz c)))) T (shr Hs H w (.inl i)) (unown w (.inl i)) := by
    refine ⟨S.grow.trans (shr_ex S _), shr_sub S _, shr_news S _, fun a t e => shr_own S e, fun j c' e => ?_, fun j vc e => ?_, S.frame, S.rd, by rw [List.length_set]; exact S.len, fun a xs e => shr_ex S _ a _ (S.tups a xs e)⟩
    · by_cases hj : j = i
      · subst hj
        rw [List.getElem?_set_self hi] at e
        cases e
        exact ⟨v, [], h1, .d hd, fun a ha => absurd ha (by simp)⟩
      · rw [List.getElem?_set_ne (Ne.symm hj)] at e
        obtain ⟨v', o', q1, q2, q3⟩ := S.slot j c' e
        exact ⟨v', o', q1, q2.mono (shr_ex S _) fun _ _ _ q => q, fun a ha => unown_ne (q3 a ha) fun z => hj (Sum.inl.inj z)⟩
    · obtain ⟨o', q2, q3⟩ := S.tmp j vc e
      exact ⟨o', q2.mono (shr_ex S _) fun _ _ _ q => q, fun a ha => unown_ne (q3 a ha) (by intro z; cases z)⟩
  have q := S1.result (n := T.length) (Nat.le_refl _) (Grow.refl S1.sub) (.d hd) (fun a ha => absurd ha (by simp)) fun _ _ e => .inl e
  rwa [List.take_length] at q
/-- the last value on the way becomes shared -/
theorem SR.freezeTop (S : SR K Z σ H L (T ++ [(v, c)])) : SR K Z σ H L (T ++ [(v, .d (frz c))]) := by
  obtain ⟨Hs, w, S⟩ := S
  obtain ⟨o, h2, h3⟩ := S.tmp T.length (v, c) (by rw [List.getElem?_append_right (Nat.le_refl _), Nat.sub_self]; rfl)
  have hd := h2.frozen S h3
  have S1 : SRw K Z σ H L T (shr Hs H w (.inr T.length)) (unown w (.inr T.length)) := by
    refine ⟨S.grow.trans (shr_ex S _), shr_sub S _, shr_news S _, fun a t e => shr_own S e, fun j c' e => ?_, fun j vc e => ?_, S.frame, S.rd, S.len, fun a xs e => shr_ex S _ a _ (S.tups a xs e)⟩
    · obtain ⟨v', o', q1, q2, q3⟩ := S.slot j c' e
      exact ⟨v', o', q1, q2.mono (shr_ex S _) fun _ _ _ q => q, fun a ha => unown_ne (q3 a ha) (by intro z; cases z)⟩
    · have hj : j < T.length := (List.getElem?_eq_some_iff.mp e).1
      obtain ⟨o', q2, q3⟩ := S.tmp j vc (by rw [List.getElem?_append_left hj]; exact e)
      exact ⟨o', q2.mono (shr_ex S _) fun _ _ _ q => q, fun a ha => unown_ne (q3 a ha) fun z => by have := Sum.inr.inj z; omega⟩
  have q := S1.result (n := T.length) (Nat.le_refl _) (Grow.refl S1.sub) (.d hd) (fun a ha => absurd ha (by simp)) fun _ _ e => .inl e
  rwa [List.take_length] at q
theorem SR.drop (S : SR K Z σ H L T) (n : Nat) : SR K Z σ H L (T.take n) := by
  obtain ⟨Hs, w, S⟩ := S
  exact ⟨Hs, w, S.drop n⟩
theorem SR.pop (S : SR K Z σ H L (T ++ U)) : SR K Z σ H L T := by
  have q := S.drop T.length
  rwa [List.take_left] at q
/-- the last value on the way goes into a slot -/
def toSlot (w : Own) (n j : Nat) : Own := fun a => if w a = some (.inr n) then some (.inl j) else if w a = some (.inl j) then none else w a
theorem SR.store {v : V} {c : C} (S : SR K Z σ H L (T ++ [(v, c)])) {j : Nat} (hj : j < σ.length) (hr : j ∉ Z.ro) : SR K Z (σ.set j (some v)) H (L.set j (some c)) T := by
  obtain ⟨Hs, w, S⟩ := S
  have hjL : j < L.length := by rw [S.len]; exact hj
  refine ⟨Hs, toSlot w T.length j, S.grow, S.sub, S.news, fun a t e => ?_, fun i c' e => ?_, fun i vc e => ?_, S.frame, fun i hi => ?_, by rw [List.length_set, List.length_set]; exact S.len, S.tups⟩
  · unfold toSlot at e
    split at e
    · rename_i q; exact S.own a _ q
    · split at e
      · cases e
      · exact S.own a _ e
  · by_cases h : i = j
    · subst h
      rw [List.getElem?_set_self hjL] at e
      have e' : c = c' := by simpa using e
      subst e'
      obtain ⟨o, h2, h3⟩ := S.tmp T.length (v, c) (by rw [List.getElem?_append_right (Nat.le_refl _), Nat.sub_self]; rfl)
      refine ⟨v, o, by rw [List.getElem?_set_self hj], h2, fun a ha => ?_⟩
      unfold toSlot
      rw [if_pos (h3 a ha)]
    · rw [List.getElem?_set_ne (Ne.symm h)] at e
      obtain ⟨v', o, h1, h2, h3⟩ := S.slot i c' e
      refine ⟨v', o, by rw [List.getElem?_set_ne (Ne.symm h)]; exact h1, h2, fun a ha => ?_⟩
      unfold toSlot
      rw [if_neg (by rw [h3 a ha]; simp), if_neg (by rw [h3 a ha]; simpa using h)]
      exact h3 a ha
  · have hi : i < T.length := (List.getElem?_eq_some_iff.mp e).1
    obtain ⟨o, h2, h3⟩ := S.tmp i vc (by rw [List.getElem?_append_left hi]; exact e)
    refine ⟨o, h2, fun a ha => ?_⟩
    unfold toSlot
    rw [if_neg (by rw [h3 a ha]; intro z; have := Sum.inr.inj (Option.some.inj z); omega), if_neg (by rw [h3 a ha]; simp)]
    exact h3 a ha
  · have hij : j ≠ i := fun z => hr (by rw [z]; exact hi)
    rw [List.getElem?_set_ne hij]
    exact S.rd i hi
/-- a slot is forgotten -/
theorem SR.forget (S : SR K Z σ H L T) (j : Nat) : SR K Z σ H (L.set j none) T := by
  obtain ⟨Hs, w, S⟩ := S
  refine ⟨Hs, w, S.grow, S.sub, S.news, S.own, fun i c e => ?_, S.tmp, S.frame, S.rd, by rw [List.length_set]; exact S.len, S.tups⟩
  by_cases h : i = j
  · subst h
    by_cases hi : i < L.length
    · rw [List.getElem?_set_self hi] at e; cases e
    · rw [List.getElem?_eq_none (by rw [List.length_set]; omega)] at e; cases e
  · rw [List.getElem?_set_ne (Ne.symm h)] at e
    exact S.slot i c e
end
end VS

/-! judgements: a piece of syntax, its reading, its mirror -/
namespace VS
open PySem PySem.Spec L2
open Evl (Ex Ex.refl Ex.trans Ex.new)

abbrev Ls := List (Option C)
/-- an expression's mirror -/
abbrev ME := Ls → Option (C × Ls)
/-- an argument: a value on the way, or what a slot holds -/
inductive AV where
  | val (c : C) | ref (i : Nat)
abbrev MG := Ls → Option (AV × Ls)
abbrev MA := Ls → Option (List AV × Ls)
/-- a function's mirror: what it returns, what its arguments hold behind it -/
abbrev FM := List C → Option (C × List C)
inductive Out where
  | nx (L : Ls) | rt (c : C) (L : Ls) | bk (L : Ls) | ct (L : Ls)
abbrev MS := Ls → Option Out

def contA (L : Ls) : AV → Option C
  | .val c => some c
  | .ref i => match L[i]? with
    | some (some c) => some c
    | _ => none
def conts (L : Ls) : List AV → Option (List C)
  | [] => some []
  | a :: r => match contA L a, conts L r with
    | some c, some cs => some (c :: cs)
    | _, _ => none

theorem contA_ref {L : Ls} {i : Nat} {c : C} (h : contA L (.ref i) = some c) : L[i]? = some (some c) := by
  unfold contA at h
  simp only at h
  split at h
  · rename_i c' e
    cases h
    exact e
  · cases h
/-- the arguments' values; tv: those on the way -/
inductive AvOk (σ : L2.St) : List AV → List V → List (V × C) → Prop
  | nil : AvOk σ [] [] []
  | val {c : C} {v : V} {avs : List AV} {vs : List V} {tv : List (V × C)} : AvOk σ avs vs tv → AvOk σ (.val c :: avs) (v :: vs) ((v, c) :: tv)
  | ref {i : Nat} {v : V} {avs : List AV} {vs : List V} {tv : List (V × C)} : σ[i]? = some (some v) → AvOk σ avs vs tv → AvOk σ (.ref i :: avs) (v :: vs) tv
def tags (n : Nat) : List AV → List (Sum Nat Nat)
  | [] => []
  | .val _ :: r => .inr n :: tags (n + 1) r
  | .ref i :: r => .inl i :: tags n r
theorem AvOk.len {σ : L2.St} : ∀ {avs : List AV} {vs : List V} {tv : List (V × C)}, AvOk σ avs vs tv → vs.length = avs.length
  | _, _, _, .nil => rfl
  | _, _, _, .val h => congrArg (· + 1) h.len
  | _, _, _, .ref _ h => congrArg (· + 1) h.len
theorem conts_len {L : Ls} : ∀ {avs : List AV} {cs : List C}, conts L avs = some cs → cs.length = avs.length
  | [], cs, h => by cases h; rfl
  | a :: r, cs, h => by
    unfold conts at h
    split at h
    · rename_i c cs' h1 h2
      cases h
      exact congrArg (· + 1) (conts_len h2)
    · cases h
theorem tags_len : ∀ {n : Nat} {avs : List AV}, (tags n avs).length = avs.length
  | _, [] => rfl
  | _, .val _ :: r => congrArg (· + 1) (tags_len (avs := r))
  | _, .ref _ :: r => congrArg (· + 1) (tags_len (avs := r))

section
variable {K : PySem.W.Frag} {Z : Stat} {σ : L2.St} {H H' Hs Hs' : Hp} {L : Ls} {T : List (V × C)} {w : Own}
/-- the arguments as the state knows them -/
theorem SRw.args : ∀ {avs : List AV} {vs : List V} {tv : List (V × C)} {cs : List C} {T : List (V × C)}, SRw K Z σ H L (T ++ tv) Hs w → AvOk σ avs vs tv → conts L avs = some cs →
    ∀ (k : Nat) (v : V) (c : C), vs[k]? = some v → cs[k]? = some c → ∃ o t, (tags T.length avs)[k]? = some t ∧ Rep K Hs H v c o ∧ ∀ a ∈ o, w a = some t
  | _, _, _, _, _, S, .nil, hc, k, v, c, h1, h2 => by simp at h1
  | .val c0 :: avs, v0 :: vs, (_, _) :: tv, cs, T, S, .val h, hc, k, v, c, h1, h2 => by
    unfold conts at hc
    split at hc
    · rename_i c1 cs' q1 q2
      cases hc
      have e1 : c0 = c1 := by simpa [contA] using q1
      subst e1
      cases k with
      | zero =>
        have e2 : v0 = v := by simpa using h1
        have e3 : c0 = c := by simpa using h2
        subst e2 e3
        obtain ⟨o, r, ho⟩ := S.tmp T.length (v0, c0) (by rw [List.getElem?_append_right (Nat.le_refl _), Nat.sub_self]; rfl)
        exact ⟨o, _, rfl, r, ho⟩
      | succ k =>
        have S' : SRw K Z σ H L ((T ++ [(v0, c0)]) ++ tv) Hs w := by rw [List.append_assoc]; exact S
        obtain ⟨o, t, e, r, ho⟩ := SRw.args S' h q2 k v c (by simpa using h1) (by simpa using h2)
        refine ⟨o, t, ?_, r, ho⟩
        rw [List.length_append] at e
        exact e
    · cases hc
  | .ref i :: avs, v0 :: vs, tv, cs, T, S, .ref hi h, hc, k, v, c, h1, h2 => by
    unfold conts at hc
    split at hc
    · rename_i c1 cs' q1 q2
      cases hc
      cases k with
      | zero =>
        have e2 : v0 = v := by simpa using h1
        have e3 : c1 = c := by simpa using h2
        subst e2 e3
        have q3 := contA_ref q1
        obtain ⟨v', o, k1, k2, k3⟩ := S.slot i _ q3
        rw [hi] at k1
        cases k1
        exact ⟨o, _, rfl, k2, k3⟩
      | succ k =>
        obtain ⟨o, t, e, r, ho⟩ := SRw.args S h q2 k v c (by simpa using h1) (by simpa using h2)
        exact ⟨o, t, e, r, ho⟩
    · cases hc
end

/-- the parts of a reading's soundness -/
def SE (K : PySem.W.Frag) (te : TE) (m : ME) : Prop := ∀ (Z : Stat) (σ : L2.St) (H : Hp) (L : Ls) (T : List (V × C)), SR K Z σ H L T → ∀ c L', m L = some (c, L') →
  ∀ Q : VK, (∀ v H', SR K Z σ H' L' (T ++ [(v, c)]) → Q v H') → te σ H Q
def SG (K : PySem.W.Frag) (te : TE) (m : MG) : Prop := ∀ (Z : Stat) (σ : L2.St) (H : Hp) (L : Ls) (T : List (V × C)), SR K Z σ H L T → ∀ av L', m L = some (av, L') →
  ∀ Q : VK, (∀ v H' tv, SR K Z σ H' L' (T ++ tv) → AvOk σ [av] [v] tv → Q v H') → te σ H Q
def SA (K : PySem.W.Frag) (ta : TA) (m : MA) : Prop := ∀ (Z : Stat) (σ : L2.St) (H : Hp) (L : Ls) (T : List (V × C)), SR K Z σ H L T → ∀ avs L', m L = some (avs, L') →
  ∀ Q : List V → Hp → Prop, (∀ vs H' tv, SR K Z σ H' L' (T ++ tv) → AvOk σ avs vs tv → Q vs H') → ta σ H Q
/-- a test -/
abbrev MT := Ls → Option (Bool × Ls)
def STt (K : PySem.W.Frag) (t : TT) (m : MT) : Prop := ∀ (Z : Stat) (σ : L2.St) (H : Hp) (L : Ls) (T : List (V × C)), SR K Z σ H L T → ∀ b L', m L = some (b, L') →
  ∀ Q : Bool → Hp → Prop, (∀ H', SR K Z σ H' L' T → Q b H') → t σ H Q

structure JE (X : Cx) (e : Expr) (t : TE) (m : ME) : Prop where
  pe : PE X e t
  se : SE X.K t m
structure JG (X : Cx) (e : Expr) (t : TE) (m : MG) : Prop where
  pe : PE X e t
  se : SG X.K t m
structure JA (X : Cx) (es : List Expr) (t : TA) (m : MA) : Prop where
  pa : PA X es t
  sa : SA X.K t m
structure JT (X : Cx) (e : Expr) (t : TT) (m : MT) : Prop where
  pt : PT X e t
  st : STt X.K t m

/-! ### names, constants -/
/-- a name as a value: what it owns becomes shared -/
def mName (i : Nat) : ME := fun L => match L[i]? with
  | some (some c) => some (.d (frz c), match c with | .d _ => L | _ => L.set i (some (.d (frz c))))
  | _ => none
/-- a name as an argument -/
def gNameA (i : Nat) : MG := fun L => match L[i]? with
  | some (some (.d x)) => some (.val (.d x), L)
  | some (some _) => some (.ref i, L)
  | _ => none
def mC (x : D) : ME := fun L => some (.d x, L)
def mVal (m : ME) : MG := fun L => match m L with
  | some (c, L') => some (.val c, L')
  | none => none
/-- own results become shared -/
def mFrz (m : ME) : ME := fun L => match m L with
  | some (c, L') => some (.d (frz c), L')
  | none => none
def maNil : MA := fun L => some ([], L)
def maCons (m : MG) (r : MA) : MA := fun L => match m L with
  | some (av, L1) => match r L1 with
    | some (avs, L2) => some (av :: avs, L2)
    | none => none
  | none => none

theorem set_self {L : Ls} {i : Nat} {x : Option C} (h : L[i]? = some x) : L.set i x = L := by
  obtain ⟨hi, e⟩ := List.getElem?_eq_some_iff.mp h
  rw [← e]
  exact List.set_getElem_self hi
theorem se_name {K : PySem.W.Frag} {i : Nat} : SE K (tVar i) (mName i) := by
  intro Z σ H L T S c L' hm Q q
  unfold mName at hm
  split at hm
  · rename_i c0 h
    cases hm
    obtain ⟨v, hv, S1⟩ := S.freeze h
    refine ⟨v, hv, q v H ?_⟩
    cases c0 with
    | d x =>
      have e : L.set i (some (.d (frz (.d x)))) = L := set_self h
      rw [e] at S1
      exact S1
    | l _ => exact S1
    | k _ _ => exact S1
    | t _ _ => exact S1
    | p _ _ => exact S1
    | m _ => exact S1
  · cases hm
theorem sg_name {K : PySem.W.Frag} {i : Nat} : SG K (tVar i) (gNameA i) := by
  intro Z σ H L T S av L' hm Q q
  unfold gNameA at hm
  split at hm
  · rename_i x h
    cases hm
    obtain ⟨v, hv, S1⟩ := S.read h
    exact ⟨v, hv, q v H _ S1 (.val .nil)⟩
  · rename_i c hn h
    cases hm
    obtain ⟨Hs, w, S0⟩ := id S
    obtain ⟨v, o, hv, _⟩ := S0.slot i _ h
    refine ⟨v, hv, q v H [] (by rw [List.append_nil]; exact S) (.ref hv .nil)⟩
  · cases hm
theorem sg_val {K : PySem.W.Frag} {t : TE} {m : ME} (h : SE K t m) : SG K t (mVal m) := by
  intro Z σ H L T S av L' hm Q q
  unfold mVal at hm
  split at hm
  · rename_i c L1 e
    cases hm
    exact h Z σ H L T S c L' e Q fun v H' S' => q v H' _ S' (.val .nil)
  · cases hm
theorem se_frz {K : PySem.W.Frag} {t : TE} {m : ME} (h : SE K t m) : SE K t (mFrz m) := by
  intro Z σ H L T S c L' hm Q q
  unfold mFrz at hm
  split at hm
  · rename_i c1 L1 e
    cases hm
    exact h Z σ H L T S c1 L' e Q fun v H' S' => q v H' S'.freezeTop
  · cases hm
theorem sa_nil {K : PySem.W.Frag} : SA K tNil maNil := by
  intro Z σ H L T S avs L' hm Q q
  cases hm
  exact q [] H [] (by rw [List.append_nil]; exact S) .nil
theorem AvOk.one {σ : L2.St} {av : AV} {v : V} {tv : List (V × C)} {avs : List AV} {vs : List V} {tv' : List (V × C)} (h : AvOk σ [av] [v] tv) (r : AvOk σ avs vs tv') : AvOk σ (av :: avs) (v :: vs) (tv ++ tv') := by
  cases h with
  | val h => cases h; exact .val r
  | ref e h => cases h; exact .ref e r
theorem sa_cons {K : PySem.W.Frag} {t : TE} {ts : TA} {m : MG} {ms : MA} (h : SG K t m) (hs : SA K ts ms) : SA K (tCons t ts) (maCons m ms) := by
  intro Z σ H L T S avs L' hm Q q
  unfold maCons at hm
  split at hm
  · rename_i av L1 e1
    split at hm
    · rename_i avs1 L2 e2
      cases hm
      refine h Z σ H L T S av L1 e1 _ fun v H1 tv S1 a1 => ?_
      refine hs Z σ H1 L1 _ S1 avs1 L' e2 _ fun vs H2 tv2 S2 a2 => ?_
      exact q (v :: vs) H2 (tv ++ tv2) (by rw [← List.append_assoc]; exact S2) (a1.one a2)
    · cases hm
  · cases hm
section
variable {X : Cx} {e : Expr} {es : List Expr} {t : TE} {ts : TA} {m : ME} {g : MG} {ms : MA} {pos : Pos}
theorem je_name (i : Nat) {x : PySem.Str} (hN : X.N[i]? = some x := by rfl) (hv : Vis X.env.scope x := by first | exact Or.inl rfl | exact Or.inr (Or.inl rfl) | exact Or.inr (Or.inr rfl)) (hd : (x == ("__debug__" : PySem.Str)) = false := by decide)
    (hcd : (x == ("__classdict__" : PySem.Str)) = false := by decide) : JE X (.Name x pos) (tVar i) (mName i) := ⟨pe_var hN hv hd hcd, se_name⟩
theorem jg_name (i : Nat) {x : PySem.Str} (hN : X.N[i]? = some x := by rfl) (hv : Vis X.env.scope x := by first | exact Or.inl rfl | exact Or.inr (Or.inl rfl) | exact Or.inr (Or.inr rfl)) (hd : (x == ("__debug__" : PySem.Str)) = false := by decide)
    (hcd : (x == ("__classdict__" : PySem.Str)) = false := by decide) : JG X (.Name x pos) (tVar i) (gNameA i) := ⟨pe_var hN hv hd hcd, sg_name⟩
theorem se_c {K : PySem.W.Frag} {v : V} {x : D} (h : ∀ H, Dt K H v x) : SE K (tC v) (mC x) := by
  intro Z σ H L T S c L' hm Q q
  cases hm
  exact q v H (S.push (fun Hs _ => h Hs) rfl)
theorem je_int {i j} : JE X (.Constant (.int i) j pos) (tC (.int i)) (mC (.int i)) := ⟨pe_int, se_c fun _ => .int i⟩
theorem je_bl {b j} : JE X (.Constant (.bool b) j pos) (tC (.bl b)) (mC (.bl b)) := ⟨pe_bl, se_c fun _ => .bl b⟩
theorem je_non {j} : JE X (.Constant .none j pos) (tC .non) (mC .non) := ⟨pe_non, se_c fun _ => .non⟩
theorem je_str {x j} : JE X (.Constant (.str x) j pos) (tC (.str x)) (mC (.str x)) := ⟨pe_str, se_c fun _ => .str x⟩
theorem je_glob {x : PySem.Str} {v : V} {u : Value} {y : D} (hg : Gl X x) (hm : X.mg x = some u) (r : RelV v u) (hy : ∀ H, Dt X.K H v y) (hd : (x == ("__debug__" : PySem.Str)) = false := by decide) : JE X (.Name x pos) (tC v) (mC y) := ⟨pe_glob hg hm r hd, se_c hy⟩
theorem jg_val (h : JE X e t m) : JG X e t (mVal m) := ⟨h.pe, sg_val h.se⟩
theorem je_frz (h : JE X e t m) : JE X e t (mFrz m) := ⟨h.pe, se_frz h.se⟩
theorem ja_nil : JA X [] tNil maNil := ⟨pa_nil, sa_nil⟩
theorem ja_cons (h : JG X e t g) (hs : JA X es ts ms) (hp : starEach (e :: es) X.env = (false, eval e X.env) :: starEach es X.env := by rfl) : JA X (e :: es) (tCons t ts) (maCons g ms) := ⟨pa_cons h.pe hs.pa hp, sa_cons h.se hs.sa⟩
end

/-! ### operations that only read -/
/-- what an operation by values asks, by contents: f -/
def OpS (K : PySem.W.Frag) (r : List V → Hp → VK → Prop) (f : List C → Option C) : Prop := ∀ (Hs H : Hp) (vs : List V) (cs : List C), Ex Hs H → vs.length = cs.length →
  (∀ (k : Nat) (v : V) (c : C), vs[k]? = some v → cs[k]? = some c → ∃ o, Rep K Hs H v c o) → ∀ c, f cs = some c →
  ∀ Q : VK, (∀ v H' Hs' o, Grow Hs H Hs' H' → Rep K Hs' H' v c o → (∀ a ∈ o, H a = none ∧ Hs' a = none) → Q v H') → r vs H Q
def mOp (f : List C → Option C) (m : MA) : ME := fun L => match m L with
  | some (avs, L') => match conts L' avs with
    | some cs => match f cs with
      | some c => some (c, L')
      | none => none
    | none => none
  | none => none
theorem SR.op {K : PySem.W.Frag} {Z : Stat} {σ : L2.St} {H : Hp} {L : Ls} {T tv : List (V × C)} {avs : List AV} {vs : List V} {cs : List C} {c : C} {r : List V → Hp → VK → Prop} {f : List C → Option C} {Q : VK} (S : SR K Z σ H L (T ++ tv)) (h : OpS K r f)
    (ha : AvOk σ avs vs tv) (hc : conts L avs = some cs) (hf : f cs = some c) (q : ∀ v H', SR K Z σ H' L (T ++ [(v, c)]) → Q v H') : r vs H Q := by
  obtain ⟨Hs, w, S⟩ := S
  refine h Hs H vs cs S.sub (by rw [ha.len, conts_len hc]) (fun k v c' h1 h2 => ?_) c hf Q fun v H' Hs' o g rr ho => ?_
  · obtain ⟨o, t, _, r', _⟩ := S.args ha hc k v c' h1 h2
    exact ⟨o, r'⟩
  · have S1 := S.result (n := T.length) (by rw [List.length_append]; omega) g rr ho g.new
    rw [List.take_left] at S1
    exact q v H' S1
theorem se_op {K : PySem.W.Frag} {ta : TA} {m : MA} {r : List V → Hp → VK → Prop} {f : List C → Option C} (hs : OpS K r f) (h : SA K ta m) : SE K (fun σ H Q => ta σ H fun vs H1 => r vs H1 Q) (mOp f m) := by
  intro Z σ H L T S c L' hm Q q
  unfold mOp at hm
  split at hm
  · rename_i avs L1 e1
    split at hm
    · rename_i cs e2
      split at hm
      · rename_i c1 e3
        cases hm
        exact h Z σ H L T S avs L' e1 _ fun vs H1 tv S1 a1 => S1.op hs a1 e2 e3 q
      · cases hm
    · cases hm
  · cases hm
section
variable {X : Cx} {a b : Expr} {es : List Expr} {ta tb : TE} {ts : TA} {ma mb : MG} {ms : MA} {pos : Pos} {f : List C → Option C}
/-- a two-place reading as one of a list -/
def r2 (r : R2) : List V → Hp → VK → Prop := fun vs H Q => match vs with
  | [x, y] => r x y H Q
  | _ => False
def r1 (r : V → Hp → VK → Prop) : List V → Hp → VK → Prop := fun vs H Q => match vs with
  | [x] => r x H Q
  | _ => False
theorem je_op {op : Operator} {r : R2} (ho : OpR X (binaryOp op) r) (hs : OpS X.K (r2 r) f) (ha : JG X a ta ma) (hb : JG X b tb mb) : JE X (.BinOp a op b pos) (tOp r ta tb) (mOp f (maCons ma (maCons mb maNil))) :=
  ⟨pe_op ho ha.pe hb.pe, se_op hs (sa_cons ha.se (sa_cons hb.se sa_nil))⟩
theorem je_un {op : UnaryOp} {r : V → Hp → VK → Prop} (ho : UnR X (unaryOp op) r) (hs : OpS X.K (r1 r) f) (ha : JG X a ta ma) : JE X (.UnaryOp op a pos) (tUn r ta) (mOp f (maCons ma maNil)) :=
  ⟨pe_un ho ha.pe, se_op hs (sa_cons ha.se sa_nil)⟩
theorem je_cmp {op : CmpOp} {r : R2} (ho : OpR X (compareOp op) r) (hs : OpS X.K (r2 r) f) (ha : JG X a ta ma) (hb : JG X b tb mb) (hm : behindInMarks op b = false := by rfl) : JE X (.Compare a [op] [b] pos) (tOp r ta tb) (mOp f (maCons ma (maCons mb maNil))) :=
  ⟨pe_cmpR ho ha.pe hb.pe hm, se_op hs (sa_cons ha.se (sa_cons hb.se sa_nil))⟩
theorem je_ix {r : R2} (ho : IxR X r) (hs : OpS X.K (r2 r) f) (ha : JG X a ta ma) (hb : JG X b tb mb) (hp : PlainIx b := by exact fun _ _ => rfl) : JE X (.Subscript a b pos) (tOp r ta tb) (mOp f (maCons ma (maCons mb maNil))) :=
  ⟨pe_ix ho ha.pe hb.pe hp, se_op hs (sa_cons ha.se (sa_cons hb.se sa_nil))⟩
theorem je_callB {x : PySem.Str} {p : Pos} {id : String} {r : List V → Hp → VK → Prop} (hc : CallR X (.builtin id) r) (hs : OpS X.K r f) (hg : Gl X x) (hm : X.mg x = none) (hv : bootBuiltins x = some (.builtin id)) (ha : JA X (a :: es) ts ms)
    (hn : x ≠ "__name__" := by decide) (hdb : (x == ("__debug__" : PySem.Str)) = false := by decide)
    (he : starEach (a :: es) X.env = (false, eval a X.env) :: starEach es X.env := by rfl) (hpl : (backTo pos (starEach es X.env)).any (·.1) = false := by rfl) : JE X (.Call (.Name x p) (a :: es) [] pos) (tCB r ts) (mOp f ms) :=
  ⟨pe_callB hc hg hm hv ha.pa hn hdb he hpl, se_op hs ha.sa⟩
theorem je_callTy {x : PySem.Str} {p : Pos} {T : String} {r : List V → Hp → VK → Prop} (hc : CallR X (.type T) r) (hs : OpS X.K r f) (hg : Gl X x) (hm : X.mg x = none) (hv : bootBuiltins x = some (.type T)) (ha : JA X (a :: es) ts ms)
    (hn : x ≠ "__name__" := by decide) (hdb : (x == ("__debug__" : PySem.Str)) = false := by decide)
    (he : starEach (a :: es) X.env = (false, eval a X.env) :: starEach es X.env := by rfl) (hpl : (backTo pos (starEach es X.env)).any (·.1) = false := by rfl) : JE X (.Call (.Name x p) (a :: es) [] pos) (tCB r ts) (mOp f ms) :=
  ⟨pe_callTy hc hg hm hv ha.pa hn hdb he hpl, se_op hs ha.sa⟩
end
end VS

/-! operations by contents -/
namespace VS
open PySem PySem.Spec L2
open Evl (Ex Ex.refl Ex.trans Ex.new)

/-! ### views -/
def asL : C → Option (List D)
  | .l xs => some xs
  | .d (.lst xs) => some xs
  | _ => none
def asT : C → Option (List D)
  | .d (.tup xs) => some xs
  | _ => none
section
variable {K : PySem.W.Frag} {Hs H : Hp} {v : V} {c : C} {o : List Addr} {xs : List D}
theorem Rep.asL (s : Ex Hs H) (r : Rep K Hs H v c o) (h : asL c = some xs) : ∃ a vs, v = .ref a ∧ SqL K H a vs ∧ Dts K Hs vs xs := by
  cases r with
  | l h1 h2 => cases h; exact ⟨_, _, rfl, .inl (.inl h1), h2⟩
  | d h1 =>
    cases h1 with
    | lst h1 h2 => cases h; exact ⟨_, _, rfl, Evl.ex_l s h1, h2⟩
    | _ => cases h
  | _ => cases h
theorem Rep.asT (s : Ex Hs H) (r : Rep K Hs H v c o) (h : asT c = some xs) : ∃ a vs, v = .ref a ∧ SqT K H a vs ∧ Dts K Hs vs xs := by
  cases r with
  | d h1 =>
    cases h1 with
    | tup h1 h2 => cases h; exact ⟨_, _, rfl, .inl (.inl (s _ _ h1)), h2⟩
    | _ => cases h
  | _ => cases h
theorem Rep.int {i : Int} (r : Rep K Hs H v (.d (.int i)) o) : v = .int i := by
  cases r with
  | d h => cases h; rfl
theorem Rep.str {i : PySem.Str} (r : Rep K Hs H v (.d (.str i)) o) : v = .str i := by
  cases r with
  | d h => cases h; rfl
theorem Rep.bl {i : Bool} (r : Rep K Hs H v (.d (.bl i)) o) : v = .bl i := by
  cases r with
  | d h => cases h; rfl
theorem Rep.data {x : D} (r : Rep K Hs H v (.d x) o) : Dt K Hs v x := by
  cases r with
  | d h => exact h
end

/-! ### how an operation is shown -/
section
variable {K : PySem.W.Frag} {f : List C → Option C}
theorem ops2 {r : R2} (hf : ∀ cs c, f cs = some c → cs.length = 2)
    (h : ∀ (Hs H : Hp) (x y : V) (a b : C) (oa ob : List Addr), Ex Hs H → Rep K Hs H x a oa → Rep K Hs H y b ob → ∀ c, f [a, b] = some c →
      ∀ Q : VK, (∀ v H' Hs' o, Grow Hs H Hs' H' → Rep K Hs' H' v c o → (∀ a ∈ o, H a = none ∧ Hs' a = none) → Q v H') → r x y H Q) : OpS K (r2 r) f := by
  intro Hs H vs cs s hl ha c hc Q q
  have h2 := hf cs c hc
  match cs, vs, h2, hl with
  | [a, b], [x, y], _, _ =>
    obtain ⟨oa, ra⟩ := ha 0 x a rfl rfl
    obtain ⟨ob, rb⟩ := ha 1 y b rfl rfl
    exact h Hs H x y a b oa ob s ra rb c hc Q q
theorem ops1 {r : V → Hp → VK → Prop} (hf : ∀ cs c, f cs = some c → cs.length = 1)
    (h : ∀ (Hs H : Hp) (x : V) (a : C) (oa : List Addr), Ex Hs H → Rep K Hs H x a oa → ∀ c, f [a] = some c →
      ∀ Q : VK, (∀ v H' Hs' o, Grow Hs H Hs' H' → Rep K Hs' H' v c o → (∀ a ∈ o, H a = none ∧ Hs' a = none) → Q v H') → r x H Q) : OpS K (r1 r) f := by
  intro Hs H vs cs s hl ha c hc Q q
  have h2 := hf cs c hc
  match cs, vs, h2, hl with
  | [a], [x], _, _ =>
    obtain ⟨oa, ra⟩ := ha 0 x a rfl rfl
    exact h Hs H x a oa s ra c hc Q q
theorem opsL1 {r : List V → Hp → VK → Prop} (hf : ∀ cs c, f cs = some c → cs.length = 1)
    (h : ∀ (Hs H : Hp) (x : V) (a : C) (oa : List Addr), Ex Hs H → Rep K Hs H x a oa → ∀ c, f [a] = some c →
      ∀ Q : VK, (∀ v H' Hs' o, Grow Hs H Hs' H' → Rep K Hs' H' v c o → (∀ a ∈ o, H a = none ∧ Hs' a = none) → Q v H') → r [x] H Q) : OpS K r f := by
  intro Hs H vs cs s hl ha c hc Q q
  have h2 := hf cs c hc
  match cs, vs, h2, hl with
  | [a], [x], _, _ =>
    obtain ⟨oa, ra⟩ := ha 0 x a rfl rfl
    exact h Hs H x a oa s ra c hc Q q
theorem opsL2 {r : List V → Hp → VK → Prop} (hf : ∀ cs c, f cs = some c → cs.length = 2)
    (h : ∀ (Hs H : Hp) (x y : V) (a b : C) (oa ob : List Addr), Ex Hs H → Rep K Hs H x a oa → Rep K Hs H y b ob → ∀ c, f [a, b] = some c →
      ∀ Q : VK, (∀ v H' Hs' o, Grow Hs H Hs' H' → Rep K Hs' H' v c o → (∀ a ∈ o, H a = none ∧ Hs' a = none) → Q v H') → r [x, y] H Q) : OpS K r f := by
  intro Hs H vs cs s hl ha c hc Q q
  have h2 := hf cs c hc
  match cs, vs, h2, hl with
  | [a, b], [x, y], _, _ =>
    obtain ⟨oa, ra⟩ := ha 0 x a rfl rfl
    obtain ⟨ob, rb⟩ := ha 1 y b rfl rfl
    exact h Hs H x y a b oa ob s ra rb c hc Q q
end
section
variable {K : PySem.W.Frag} {Hs H : Hp} {Q : VK} {c : C}
abbrev Fin (K : PySem.W.Frag) (Hs H : Hp) (c : C) (Q : VK) : Prop := ∀ v H' Hs' o, Grow Hs H Hs' H' → Rep K Hs' H' v c o → (∀ a ∈ o, H a = none ∧ Hs' a = none) → Q v H'
theorem fin_d {v : V} {x : D} (s : Ex Hs H) (q : Fin K Hs H (.d x) Q) (h : Dt K Hs v x) : Q v H := q v H Hs [] (Grow.refl s) (.d h) (fun a ha => absurd ha (by simp))
theorem fin_l {vs : List V} {xs : List D} (s : Ex Hs H) (q : Fin K Hs H (.l xs) Q) (h : Dts K Hs vs xs) : ∀ p, H p = none → Q (.ref p) (upd H p (.lst vs)) := fun p hp =>
  q _ _ Hs [p] (Grow.owned s hp) (.l upd_same h) (fun a ha => by
    have e : a = p := by simpa using ha
    subst e
    exact ⟨hp, none_sub s hp⟩)
theorem fin_t {vs : List V} {xs : List D} (s : Ex Hs H) (q : Fin K Hs H (.d (.tup xs)) Q) (h : Dts K Hs vs xs) : ∀ p, H p = none → Q (.ref p) (upd H p (.tup vs)) := fun p hp => by
  have g := Grow.shared (u := .tup vs) s hp
  exact q _ _ (upd Hs p (.tup vs)) [] g (.d (.tup upd_same (h.ex g.exs))) (fun a ha => absurd ha (by simp))
end

/-! ### numbers -/
def i2 (g : Int → Int → Option D) : List C → Option C
  | [.d (.int i), .d (.int j)] => (g i j).map .d
  | _ => none
theorem i2_len {g : Int → Int → Option D} : ∀ cs c, i2 g cs = some c → cs.length = 2 := by
  intro cs c h
  unfold i2 at h
  split at h
  · rfl
  · cases h
theorem i2_inv {g : Int → Int → Option D} {a b c : C} (h : i2 g [a, b] = some c) : ∃ i j x, a = .d (.int i) ∧ b = .d (.int j) ∧ g i j = some x ∧ c = .d x := by
  unfold i2 at h
  split at h
  · rename_i i j e
    cases e
    cases hg : g i j with
    | none => rw [hg] at h; cases h
    | some x => rw [hg] at h; cases h; exact ⟨i, j, x, rfl, rfl, hg, rfl⟩
  · cases h
/-- an operation on two whole numbers -/
theorem ops_i {K : PySem.W.Frag} {Cc : Int → Int → Prop} {g : Int → Int → V} {f : Int → Int → Option D} (h : ∀ i j x, f i j = some x → Cc i j ∧ ∀ H, Dt K H (g i j) x) : OpS K (r2 (rI Cc g)) (i2 f) :=
  ops2 i2_len fun Hs H x y a b oa ob s ra rb c hc Q q => by
    obtain ⟨i, j, z, rfl, rfl, hf, rfl⟩ := i2_inv hc
    obtain ⟨h1, h2⟩ := h i j z hf
    exact ⟨i, j, ra.int, rb.int, h1, fin_d s q (h2 Hs)⟩
theorem ops_i0 {K : PySem.W.Frag} {g : Int → Int → V} {f : Int → Int → Option D} (h : ∀ i j x, f i j = some x → ∀ H, Dt K H (g i j) x) : OpS K (r2 (rI0 g)) (i2 f) :=
  ops2 i2_len fun Hs H x y a b oa ob s ra rb c hc Q q => by
    obtain ⟨i, j, z, rfl, rfl, hf, rfl⟩ := i2_inv hc
    exact ⟨i, j, ra.int, rb.int, fin_d s q (h i j z hf Hs)⟩
def subC : List C → Option C := i2 fun i j => some (.int (i - j))
theorem ops_sub {K : PySem.W.Frag} : OpS K (r2 (rI0 fun i j => .int (i - j))) subC := ops_i0 fun i j x h H => by cases h; exact .int _
/-- // by a positive number of at most some 2,700 digits -/
def fdivC : List C → Option C := i2 fun i j => if 0 < j ∧ j.natAbs.log2 < 9000 then some (.int (i / j)) else none
theorem ops_fdiv {K : PySem.W.Frag} : OpS K (r2 (rI CDivW fun i j => .int (i / j))) fdivC := ops_i fun i j x h => by
  split at h
  · rename_i hc; cases h; exact ⟨hc, fun H => .int _⟩
  · cases h
def modC : List C → Option C := i2 fun i j => if 0 < j then some (.int (i % j)) else none
theorem ops_mod {K : PySem.W.Frag} : OpS K (r2 (rI (fun _ j => 0 < j) fun i j => .int (i % j))) modC := ops_i fun i j x h => by
  split at h
  · rename_i hc; cases h; exact ⟨hc, fun H => .int _⟩
  · cases h
/-- powers of any numbers, below 2 ^ 27 bits -/
theorem op_powW {X : Cx} : OpR X (binaryOp .Pow) (rI (fun i j => 0 ≤ j ∧ (Builtin.Int.intBits i : Int) * j ≤ 2 ^ 27) fun i j => .int (i ^ j.toNat)) := opI fun _ _ _ _ _ _ _ hc q => PyProof.Rows.pow_int hc.1 hc.2 q
def powC : List C → Option C := i2 fun i j => if 0 ≤ j ∧ (Builtin.Int.intBits i : Int) * j ≤ 2 ^ 27 then some (.int (i ^ j.toNat)) else none
theorem ops_pow {K : PySem.W.Frag} : OpS K (r2 (rI (fun i j => 0 ≤ j ∧ (Builtin.Int.intBits i : Int) * j ≤ 2 ^ 27) fun i j => .int (i ^ j.toNat))) powC := ops_i fun i j x h => by
  split at h
  · rename_i hc; cases h; exact ⟨hc, fun H => .int _⟩
  · cases h
def negC : List C → Option C
  | [.d (.int i)] => some (.d (.int (-i)))
  | _ => none
theorem negC_len : ∀ cs c, negC cs = some c → cs.length = 1 := by
  intro cs c h
  unfold negC at h
  split at h
  · rfl
  · cases h
theorem ops_neg {K : PySem.W.Frag} : OpS K (r1 (rU fun i => .int (-i))) negC := ops1 negC_len fun Hs H x a oa s ra c hc Q q => by
    unfold negC at hc
    split at hc
    · rename_i i e
      cases e
      cases hc
      exact ⟨i, ra.int, fin_d s q (.int _)⟩
    · cases hc

/-! ### +, * of any kind -/
def r2or (r r' : R2) : R2 := fun x y H Q => r x y H Q ∨ r' x y H Q
theorem ops_or {K : PySem.W.Frag} {r r' : R2} {f g : List C → Option C} (h1 : OpS K (r2 r) f) (h2 : OpS K (r2 r') g) (hf : ∀ cs c, f cs = some c → cs.length = 2) (hg : ∀ cs c, g cs = some c → cs.length = 2) :
    OpS K (r2 (r2or r r')) (fun cs => match f cs with | some c => some c | none => g cs) := by
  intro Hs H vs cs s hl ha c hc Q q
  simp only at hc
  have h2' : ∀ c, f cs = some c ∨ g cs = some c → vs.length = 2 := fun c h => by
    rcases h with h | h
    · rw [hl]; exact hf cs c h
    · rw [hl]; exact hg cs c h
  cases e : f cs with
  | some c1 =>
    rw [e] at hc
    cases hc
    have q1 := h1 Hs H vs cs s hl ha c e Q q
    match vs, h2' c (.inl e), q1 with
    | [x, y], _, q1 => exact Or.inl q1
  | none =>
    rw [e] at hc
    have q1 := h2 Hs H vs cs s hl ha c hc Q q
    match vs, h2' c (.inr hc), q1 with
    | [x, y], _, q1 => exact Or.inr q1
def add1C : List C → Option C := i2 fun i j => some (.int (i + j))
def addSC : List C → Option C
  | [.d (.str a), .d (.str b)] => if a.length + b.length ≤ sizeLine then some (.d (.str (a ++ b))) else none
  | _ => none
def addTC : List C → Option C
  | [a, b] => match asT a, asT b with
    | some xs, some ys => if xs.length + ys.length ≤ sizeLine then some (.d (.tup (xs ++ ys))) else none
    | _, _ => none
  | _ => none
def addLC : List C → Option C
  | [a, b] => match asL a, asL b with
    | some xs, some ys => if xs.length + ys.length ≤ sizeLine then some (.l (xs ++ ys)) else none
    | _, _ => none
  | _ => none

theorem l2_of {f : List C → Option C} {g : C → C → Option C} (h : ∀ cs, f cs = match cs with | [a, b] => g a b | _ => none) : ∀ cs c, f cs = some c → cs.length = 2 := by
  intro cs c e
  rw [h] at e
  split at e
  · rfl
  · cases e
theorem addSC_len : ∀ cs c, addSC cs = some c → cs.length = 2 := by
  intro cs c h
  unfold addSC at h
  split at h
  · rfl
  · cases h
theorem addTC_len : ∀ cs c, addTC cs = some c → cs.length = 2 := by
  intro cs c h
  unfold addTC at h
  split at h
  · rfl
  · cases h
theorem addLC_len : ∀ cs c, addLC cs = some c → cs.length = 2 := by
  intro cs c h
  unfold addLC at h
  split at h
  · rfl
  · cases h
theorem ops_add1 {K : PySem.W.Frag} : OpS K (r2 (rI0 fun i j => .int (i + j))) add1C := ops_i0 fun i j x h H => by cases h; exact .int _
def rAddStr : R2 := fun x y H Q => ∃ i j, x = .str i ∧ y = .str j ∧ i.length + j.length ≤ sizeLine ∧ Q (.str (i ++ j)) H
theorem ops_addS {K : PySem.W.Frag} : OpS K (r2 rAddStr) addSC := ops2 addSC_len fun Hs H x y a b oa ob s ra rb c hc Q q => by
  unfold addSC at hc
  split at hc
  · rename_i i j e
    cases e
    split at hc
    · rename_i hz
      cases hc
      exact ⟨i, j, ra.str, rb.str, hz, fin_d s q (.str _)⟩
    · cases hc
  · cases hc
theorem ops_addT {K : PySem.W.Frag} : OpS K (r2 (rCatA K)) addTC := ops2 addTC_len fun Hs H x y a b oa ob s ra rb c hc Q q => by
  unfold addTC at hc
  simp only at hc
  split at hc
  · rename_i xs ys e1 e2
    split at hc
    · rename_i hz
      cases hc
      obtain ⟨p, vs, rfl, h1, h2⟩ := ra.asT s e1
      obtain ⟨p', vs', rfl, h1', h2'⟩ := rb.asT s e2
      have d1 : Dt K Hs (.ref p) (.tup xs) := by
        cases ra with
        | d h => cases h with
          | tup k1 k2 => cases e1; exact .tup k1 k2
          | _ => cases e1
        | _ => cases e1
      have d2 : Dt K Hs (.ref p') (.tup ys) := by
        cases rb with
        | d h => cases h with
          | tup k1 k2 => cases e2; exact .tup k1 k2
          | _ => cases e2
        | _ => cases e2
      refine ⟨p, p', vs, vs', rfl, rfl, h1, h1', by rw [h2.len, h2'.len]; exact hz, fun e => ?_, fun _ e => ?_, fun _ _ => fin_t s q (h2.append h2')⟩
      · have e3 : xs = [] := List.length_eq_zero_iff.mp (by rw [← h2.len, e]; rfl)
        subst e3
        exact fin_d s q d2
      · have e3 : ys = [] := List.length_eq_zero_iff.mp (by rw [← h2'.len, e]; rfl)
        subst e3
        rw [List.append_nil] at q
        exact fin_d s q d1
    · cases hc
  · cases hc
/-- two lists together, whatever they are -/
def rCatS (K : PySem.W.Frag) : R2 := fun x y H Q => ∃ l b xs zs, x = .ref l ∧ y = .ref b ∧ SqL K H l xs ∧ SqL K H b zs ∧ xs.length + zs.length ≤ sizeLine ∧ ∀ p, H p = none → Q (.ref p) (upd H p (.lst (xs ++ zs)))
theorem op_catS {X : Cx} : OpR X (binaryOp .Add) (rCatS X.K) := by
  intro pins s σ H x y v u Q I rx ry h
  obtain ⟨l, b, xs, zs, rfl, rfl, hH, hB, hz, q⟩ := h
  cases rx
  cases ry
  obtain ⟨its, r1, p1, _⟩ := I.list hH
  obtain ⟨its2, r2, p2, _⟩ := I.list hB
  have hz2 : its.length + its2.length ≤ sizeLine := by rw [← r1.length, ← r2.length]; exact hz
  obtain ⟨⟨cls, dd, data, sl⟩, ho, hc, n, hd⟩ := p1.isList
  obtain ⟨⟨cls2, dd2, data2, sl2⟩, ho2, hc2, n2, hd2⟩ := p2.isList
  simp only at hc hd hc2 hd2
  subst hc hd hc2 hd2
  have e : its.toArray ++ its2.toArray = (its ++ its2).toArray := by simp
  refine concat_meets ⟨_, ho, rfl⟩ ⟨_, ho2, rfl⟩ noFill_list_add seq_list_add PySem.F.slot_list_add PySem.F.entry_list_add (PySem.F.args_list_add_2 _ _)
    (PyProof.Rows.list_addW l b its.toArray its2.toArray n n2 dd dd2 sl sl2 (by simpa using hz2)) ⟨ho, ho2, ?_⟩
  rw [e]
  exact ⟨.ref _, _, I.lnew (t' := s.toks) (r1.append r2) (by rw [List.length_append]; exact hz), rfl, q _ I.fresh⟩
theorem ops_addL {K : PySem.W.Frag} : OpS K (r2 (rCatS K)) addLC := ops2 addLC_len fun Hs H x y a b oa ob s ra rb c hc Q q => by
  unfold addLC at hc
  simp only at hc
  split at hc
  · rename_i xs ys e1 e2
    split at hc
    · rename_i hz
      cases hc
      obtain ⟨p, vs, rfl, h1, h2⟩ := ra.asL s e1
      obtain ⟨p', vs', rfl, h1', h2'⟩ := rb.asL s e2
      exact ⟨p, p', vs, vs', rfl, rfl, h1, h1', by rw [h2.len, h2'.len]; exact hz, fin_l s q (h2.append h2')⟩
    · cases hc
  · cases hc
def orC (f g : List C → Option C) : List C → Option C := fun cs => match f cs with | some c => some c | none => g cs
theorem orC_len {f g : List C → Option C} (hf : ∀ cs c, f cs = some c → cs.length = 2) (hg : ∀ cs c, g cs = some c → cs.length = 2) : ∀ cs c, orC f g cs = some c → cs.length = 2 := by
  intro cs c h
  unfold orC at h
  split at h
  · rename_i c' e; exact hf cs c' e
  · exact hg cs c h
def addC : List C → Option C := orC add1C (orC addSC (orC addTC addLC))
def rAddAny (K : PySem.W.Frag) : R2 := r2or (rI0 fun i j => .int (i + j)) (r2or rAddStr (r2or (rCatA K) (rCatS K)))
theorem op_or2 {X : Cx} {f : Value → Value → Sem Value} {r r' : R2} (h : OpR X f r) (h' : OpR X f r') : OpR X f (r2or r r') := OpR.or h h'
theorem op_addAny {X : Cx} : OpR X (binaryOp .Add) (rAddAny X.K) := op_or2 op_add (op_or2 op_add_str (op_or2 op_catA op_catS))
theorem ops_add {K : PySem.W.Frag} : OpS K (r2 (rAddAny K)) addC :=
  ops_or ops_add1 (ops_or ops_addS (ops_or ops_addT ops_addL addTC_len addLC_len) addSC_len (orC_len addTC_len addLC_len)) i2_len (orC_len addSC_len (orC_len addTC_len addLC_len))
end VS

/-! more operations by contents: *, places, slices, equality, lengths, sums -/
namespace VS
open PySem PySem.Spec L2
open Evl (Ex Ex.refl Ex.trans Ex.new)

/-! ### * -/
theorem tuple_mul1 (l : Addr) (items : Array Value) (n : Nat) (dd : Option Addr) (sl : Array (Option Value)) (u : Tok) :
    Meets (Builtin.«tuple.__mul__» ⟨[.ref l, .int 1 u], []⟩) (fun _ R s => s.heap.get? l = some { cls := .type "tuple", dict := dd, data := .seq items n, slots := sl } ∧ R (.ok (.ret (Value.ref l))) s) :=
  .of_wp fun prog w A R s h => by
    obtain ⟨hp, g, d, tk, os⟩ := s
    obtain ⟨hl, h⟩ := h
    have f1 := AutoSeq1.idx_int
    have c1 : (items.isEmpty || (1 : Int) == 1) = true := by rw [beq_self_eq_true, Bool.or_true]
    wp_walk using AutoSeq1.wpAny_loadPart' hl
    exact ⟨_, rfl, h⟩
/-- a tuple times one is itself -/
def rRepT1 (K : PySem.W.Frag) : R2 := fun x y H Q => ∃ l xs, x = .ref l ∧ y = .int 1 ∧ SqT K H l xs ∧ Q (.ref l) H
theorem op_repT1 {X : Cx} : OpR X (binaryOp .Mult) (rRepT1 X.K) := by
  intro pins s σ H x y v u Q I rx ry h
  obtain ⟨l, xs, rfl, rfl, hT, q⟩ := h
  cases rx
  obtain ⟨t, rfl⟩ := ry
  obtain ⟨its, r, ⟨⟨cls, dd, data, sl⟩, ho, hc, n, hd⟩, hs⟩ := I.tuple hT
  simp only at hc hd
  subst hc hd
  exact wpAny_binaryOp_repeat_ref (T := "tuple") (U := "int") (by decide) ⟨_, ho, rfl⟩ (fun s' => typeIs_int s' 1 t) noFill_tuple_mul F.fills_int_mul F.slot_int_rmul repeat_tuple F.slot_int_index.lookup
    (call_meets F.slot_int_rmul (typeIs_int s 1 t) F.entry_int_rmul (F.args_int_rmul_2 _ _) (int_rmul_tuple 1 t l its.toArray n dd sl)
      ⟨ho, rfl, ⟨_, ho, rfl⟩, call_meets F.slot_tuple_mul ⟨_, ho, rfl⟩ F.entry_tuple_mul (F.args_tuple_mul_2 _ _) (tuple_mul1 l its.toArray n dd sl t) ⟨ho, ⟨.ref l, H, I, rfl, q⟩⟩⟩)
def mul1C : List C → Option C := i2 fun i j => if i.natAbs.log2 < 64 ∨ j.natAbs.log2 < 64 ∨ i.natAbs.log2 + j.natAbs.log2 < 1000000 then some (.int (i * j)) else none
theorem mulOk {i j : Int} (h : i.natAbs.log2 < 64 ∨ j.natAbs.log2 < 64 ∨ i.natAbs.log2 + j.natAbs.log2 < 1000000) : IntMulOk i j := by
  have b : ∀ x : Int, Builtin.Int.intBits x ≤ x.natAbs.log2 + 1 := fun x => by
    unfold Builtin.Int.intBits
    split <;> omega
  have h1 := b i
  have h2 := b j
  rcases h with h | h | h
  · exact .of_left (by omega)
  · exact .of_right (by omega)
  · exact CMulW.ok h
theorem op_mulZ {X : Cx} : OpR X (binaryOp .Mult) (rI (fun i j => i.natAbs.log2 < 64 ∨ j.natAbs.log2 < 64 ∨ i.natAbs.log2 + j.natAbs.log2 < 1000000) fun i j => .int (i * j)) := opI fun _ _ _ _ _ _ _ hc q => PyProof.Rows.mul_int q (mulOk hc)
theorem ops_mul1 {K : PySem.W.Frag} : OpS K (r2 (rI (fun i j => i.natAbs.log2 < 64 ∨ j.natAbs.log2 < 64 ∨ i.natAbs.log2 + j.natAbs.log2 < 1000000) fun i j => .int (i * j))) mul1C := ops_i fun i j x h => by
  split at h
  · rename_i hc; cases h; exact ⟨hc, fun H => .int _⟩
  · cases h
theorem Dts.rep {K : PySem.W.Frag} {H : Hp} {vs : List V} {xs : List D} (h : Dts K H vs xs) : ∀ n : Nat, Dts K H (List.replicate n vs).flatten (List.replicate n xs).flatten
  | 0 => .nil
  | n + 1 => by
    rw [List.replicate_succ, List.replicate_succ, List.flatten_cons, List.flatten_cons]
    exact h.append (Dts.rep h n)
/-- a new list times a number -/
def mulLC : List C → Option C
  | [.l xs, .d (.int k)] => if 0 ≤ k ∧ k ≤ 1000 ∧ xs.length ≤ 1000 then some (.l (List.replicate k.toNat xs).flatten) else none
  | _ => none
theorem mulLC_len : ∀ cs c, mulLC cs = some c → cs.length = 2 := by
  intro cs c h
  unfold mulLC at h
  split at h
  · rfl
  · cases h
theorem ops_mulL {K : PySem.W.Frag} : OpS K (r2 rRep) mulLC := ops2 mulLC_len fun Hs H x y a b oa ob s ra rb c hc Q q => by
  unfold mulLC at hc
  split at hc
  · rename_i xs k e
    cases e
    split at hc
    · rename_i hz
      cases hc
      cases ra with
      | l h1 h2 =>
        refine ⟨_, k, _, rfl, rb.int, h1, by omega, by omega, ?_, fin_l s q (h2.rep _)⟩
        rw [h2.len, sizeLine_eq]
        have a1 : xs.length * k.toNat ≤ 1000 * 1000 := Nat.mul_le_mul hz.2.2 (by omega)
        omega
    · cases hc
  · cases hc
def mulTC : List C → Option C
  | [.d (.tup xs), .d (.int k)] => if k = 1 then some (.d (.tup xs)) else if 2 ≤ k ∧ k ≤ 1000 ∧ xs.length ≤ 1000 ∧ xs ≠ [] then some (.d (.tup (List.replicate k.toNat xs).flatten)) else none
  | _ => none
theorem mulTC_len : ∀ cs c, mulTC cs = some c → cs.length = 2 := by
  intro cs c h
  unfold mulTC at h
  split at h
  · rfl
  · cases h
theorem ops_mulT {K : PySem.W.Frag} : OpS K (r2 (r2or (rRepT1 K) (rRepT K))) mulTC := ops2 mulTC_len fun Hs H x y a b oa ob s ra rb c hc Q q => by
  unfold mulTC at hc
  split at hc
  · rename_i xs k e
    cases e
    obtain ⟨p, vs, rfl, h1, h2⟩ := ra.asT s rfl
    split at hc
    · rename_i hk
      subst hk
      cases hc
      exact .inl ⟨p, vs, rfl, rb.int, h1, fin_d s q ra.data⟩
    · split at hc
      · rename_i hz
        cases hc
        refine .inr ⟨p, k, vs, rfl, rb.int, h1, fun e => hz.2.2.2 (List.length_eq_zero_iff.mp (by rw [← h2.len, e]; rfl)), hz.1, hz.2.1, by rw [h2.len]; exact hz.2.2.1, fin_t s q (h2.rep _)⟩
      · cases hc
  · cases hc
def mulC : List C → Option C := orC mul1C (orC mulLC mulTC)
def rMulAny (K : PySem.W.Frag) : R2 := r2or (rI (fun i j => i.natAbs.log2 < 64 ∨ j.natAbs.log2 < 64 ∨ i.natAbs.log2 + j.natAbs.log2 < 1000000) fun i j => .int (i * j)) (r2or rRep (r2or (rRepT1 K) (rRepT K)))
theorem op_mulAny {X : Cx} : OpR X (binaryOp .Mult) (rMulAny X.K) := op_or2 op_mulZ (op_or2 op_rep (op_or2 op_repT1 op_repT))
theorem ops_mul {K : PySem.W.Frag} : OpS K (r2 (rMulAny K)) mulC := ops_or ops_mul1 (ops_or ops_mulL ops_mulT mulLC_len mulTC_len) i2_len (orC_len mulLC_len mulTC_len)

/-! ### places -/
def ixC : List C → Option C
  | [a, .d (.int i)] => match asL a with
    | some xs => (atI xs i).map .d
    | none => match a with
      | .d (.tup xs) => (atI xs i).map .d
      | .d (.str z) => if z.length ≤ sizeLine then (atI z.cps.toList i).map fun c => .d (.str ⟨#[c]⟩) else none
      | _ => none
  | _ => none
theorem ixC_len : ∀ cs c, ixC cs = some c → cs.length = 2 := by
  intro cs c h
  unfold ixC at h
  split at h
  · rfl
  · cases h
theorem atI_Dts {K : PySem.W.Frag} {H : Hp} {vs : List V} {xs : List D} {i : Int} {x : D} (h : Dts K H vs xs) (e : atI xs i = some x) : ∃ v, atI vs i = some v ∧ Dt K H v x := by
  unfold atI at e ⊢
  rw [h.len]
  cases q : ixN xs.length i with
  | none => rw [q] at e; cases e
  | some j =>
    rw [q] at e
    exact h.get (i := j) e
theorem ops_ix {K : PySem.W.Frag} : OpS K (r2 fun x y H Q => rIxL K x y H Q ∨ (rIxT K x y H Q ∨ rIxS x y H Q)) ixC := ops2 ixC_len fun Hs H x y a b oa ob s ra rb c hc Q q => by
  unfold ixC at hc
  split at hc
  · rename_i a0 i e
    cases e
    split at hc
    · rename_i xs e1
      obtain ⟨p, vs, rfl, h1, h2⟩ := ra.asL s e1
      cases e2 : atI xs i with
      | none => rw [e2] at hc; cases hc
      | some z =>
        rw [e2] at hc
        cases hc
        obtain ⟨v, hv, hd⟩ := atI_Dts h2 e2
        exact .inl ⟨p, vs, i, v, rfl, rb.int, h1, hv, fin_d s q hd⟩
    · split at hc
      · rename_i xs _
        obtain ⟨p, vs, rfl, h1, h2⟩ := ra.asT s rfl
        cases e2 : atI xs i with
        | none => rw [e2] at hc; cases hc
        | some z =>
          rw [e2] at hc
          cases hc
          obtain ⟨v, hv, hd⟩ := atI_Dts h2 e2
          exact .inr (.inl ⟨p, vs, i, v, rfl, rb.int, h1, hv, fin_d s q hd⟩)
      · rename_i z _
        split at hc
        · rename_i hz
          cases e2 : atI z.cps.toList i with
          | none => rw [e2] at hc; cases hc
          | some c0 =>
            rw [e2] at hc
            cases hc
            exact .inr (.inr ⟨z, i, c0, ra.str, rb.int, hz, e2, fin_d s q (.str _)⟩)
        · cases hc
      · cases hc
  · cases hc
theorem ix_any {X : Cx} : IxR X (fun x y H Q => rIxL X.K x y H Q ∨ (rIxT X.K x y H Q ∨ rIxS x y H Q)) := IxR.or ix_list (IxR.or ix_tup ix_str)

/-! ### data as the library knows it -/
mutual
def toPy : D → PyData
  | .non => .none
  | .bl b => .bool b
  | .int i => .int i
  | .str s => .str s
  | .tup xs => .tuple (toPys xs)
  | .kt xs => .tuple (toPys xs)
  | .lst xs => .list (toPys xs)
  | .ty _ => .dict []
  | .dk _ _ => .dict []
  | .dt _ _ => .dict []
def toPys : List D → List PyData
  | [] => []
  | x :: xs => toPy x :: toPys xs
end
/-- no dict and no class within -/
abbrev okD (x : D) : Bool := SeqAt.shaped (toPy x)
section
variable {K : PySem.W.Frag} {H : Hp}
mutual
theorem Dt.dp : ∀ {v : V} {x : D}, Dt K H v x → (toPy x).canLay0 = true → Dp K H v (toPy x)
  | _, _, .non, _ => .non
  | _, _, .bl b, _ => .bl b
  | _, _, .int i, _ => .int i
  | _, _, .str s, _ => .str s
  | _, _, .ty s, h => by simp [toPy, PyData.canLay0] at h
  | _, _, .tup h1 h2, h => by
    rw [toPy] at h ⊢
    exact .tup (.inl (.inl h1)) (Dts.dp h2 (by rwa [PyData.canLay0] at h))
  | _, _, .kt h1 h2, h => by
    rw [toPy] at h ⊢
    exact .tup h1 (Dts.dp h2 (by rwa [PyData.canLay0] at h))
  | _, _, .lst h1 h2, h => by
    rw [toPy] at h ⊢
    exact .lst h1 (Dts.dp h2 (by rwa [PyData.canLay0] at h))
  | _, _, .dk _ _, h => by simp [toPy, PyData.canLay0] at h
  | _, _, .dt _ _, h => by simp [toPy, PyData.canLay0] at h
theorem Dts.dp : ∀ {vs : List V} {xs : List D}, Dts K H vs xs → PyData.canLayAll0 (toPys xs) = true → DpAll K H vs (toPys xs)
  | _, _, .nil, _ => .nil
  | _, _, .cons h hs, e => by
    rw [toPys] at e ⊢
    rw [PyData.canLayAll0, Bool.and_eq_true] at e
    exact .cons (Dt.dp h e.1) (Dts.dp hs e.2)
end
theorem Rep.dp {Hs : Hp} {v : V} {c : C} {o : List Addr} (s : Ex Hs H) (r : Rep K Hs H v c o) (h : okD (frz c) = true) : Dp K H v (toPy (frz c)) := by
  have hc := SeqAt.canLay_of_shaped h
  cases r with
  | d h1 => exact (h1.ex s).dp hc
  | l h1 h2 => exact Dt.dp (.lst (.inl (.inl h1)) (h2.ex s)) hc
  | k h1 h2 => simp [frz, toPy, PyData.canLay0] at hc
  | t h1 h2 => simp [frz, toPy, PyData.canLay0] at hc
  | p h1 h2 => exact Dt.dp (.lst (.inl (.inl h1)) (.cons (.lst (.inl (.inl h2)) (Dts.ints _)) (Dts.ints _))) hc
  | m h1 nd h2 => exact Dt.dp (.lst (.inl (.inl h1)) (rows_frozen h2 s fun _ _ _ e => e)) hc
end

/-! ### ==, !=, in -/
def eqB (a b : C) : Option Bool := if okD (frz a) && okD (frz b) then some (PyData.eqv (toPy (frz a)) (toPy (frz b))) else none
def eqC : List C → Option C
  | [a, b] => (eqB a b).map fun k => .d (.bl k)
  | _ => none
def neC : List C → Option C
  | [a, b] => (eqB a b).map fun k => .d (.bl !k)
  | _ => none
theorem eqC_len : ∀ cs c, eqC cs = some c → cs.length = 2 := by
  intro cs c h
  unfold eqC at h
  split at h
  · rfl
  · cases h
theorem neC_len : ∀ cs c, neC cs = some c → cs.length = 2 := by
  intro cs c h
  unfold neC at h
  split at h
  · rfl
  · cases h
theorem eqB_inv {a b : C} {k : Bool} (h : eqB a b = some k) : okD (frz a) = true ∧ okD (frz b) = true ∧ PyData.eqv (toPy (frz a)) (toPy (frz b)) = k := by
  unfold eqB at h
  split at h
  · rename_i e
    rw [Bool.and_eq_true] at e
    cases h
    exact ⟨e.1, e.2, rfl⟩
  · cases h
theorem ops_eq {K : PySem.W.Frag} : OpS K (r2 (rEqD K)) eqC := ops2 eqC_len fun Hs H x y a b oa ob s ra rb c hc Q q => by
  unfold eqC at hc
  simp only at hc
  cases e : eqB a b with
  | none => rw [e] at hc; cases hc
  | some k =>
    rw [e] at hc
    cases hc
    obtain ⟨h1, h2, h3⟩ := eqB_inv e
    exact ⟨_, _, ra.dp s h1, rb.dp s h2, h1, h2, by rw [h3]; exact fin_d s q (.bl _)⟩
theorem ops_ne {K : PySem.W.Frag} : OpS K (r2 (rNeD K)) neC := ops2 neC_len fun Hs H x y a b oa ob s ra rb c hc Q q => by
  unfold neC at hc
  simp only at hc
  cases e : eqB a b with
  | none => rw [e] at hc; cases hc
  | some k =>
    rw [e] at hc
    cases hc
    obtain ⟨h1, h2, h3⟩ := eqB_inv e
    exact ⟨_, _, ra.dp s h1, rb.dp s h2, h1, h2, by rw [h3]; exact fin_d s q (.bl _)⟩
/-- x in a list of any data; x in a tuple or list of scalars -/
def flatD : D → Bool
  | .non | .bl _ | .int _ | .str _ => true
  | _ => false
def inDB (a b : C) : Option Bool := match asL b with
  | some ys => if okD (frz a) && okD (.lst ys) then some ((toPys ys).any fun z => PyData.eqv z (toPy (frz a))) else none
  | none => match a, b with
    | .d x, .d (.tup ys) => if flatD x && ys.all flatD then some (ys.any fun z => PyData.eqv (toPy z) (toPy x)) else none
    | _, _ => none
def inC : List C → Option C
  | [a, b] => (inDB a b).map fun k => .d (.bl k)
  | _ => none
def ninC : List C → Option C
  | [a, b] => (inDB a b).map fun k => .d (.bl !k)
  | _ => none
theorem inC_len : ∀ cs c, inC cs = some c → cs.length = 2 := by
  intro cs c h
  unfold inC at h
  split at h
  · rfl
  · cases h
theorem ninC_len : ∀ cs c, ninC cs = some c → cs.length = 2 := by
  intro cs c h
  unfold ninC at h
  split at h
  · rfl
  · cases h
theorem flat_of {K : PySem.W.Frag} {H : Hp} {v : V} {x : D} (h : Dt K H v x) (f : flatD x = true) : flatV v = true := by
  cases h <;> first | rfl | cases f
theorem flats_of {K : PySem.W.Frag} {H : Hp} : ∀ {vs : List V} {xs : List D}, Dts K H vs xs → xs.all flatD = true → vs.all flatV = true
  | _, _, .nil, _ => rfl
  | _, _, .cons h hs, f => by
    rw [List.all_cons, Bool.and_eq_true] at f ⊢
    exact ⟨flat_of h f.1, flats_of hs f.2⟩
theorem eqV_py {K : PySem.W.Frag} {H : Hp} {v u : V} {x y : D} (h : Dt K H v x) (g : Dt K H u y) (f : flatD x = true) (f' : flatD y = true) : eqV v u = PyData.eqv (toPy x) (toPy y) := by
  cases h <;> cases g <;> first
    | rfl
    | cases f
    | cases f'
    | (simp [eqV, toPy, PyData.eqv])
theorem inV_py {K : PySem.W.Frag} {H : Hp} {v : V} {x : D} (h : Dt K H v x) (f : flatD x = true) : ∀ {vs : List V} {xs : List D}, Dts K H vs xs → xs.all flatD = true → inV v vs = xs.any fun z => PyData.eqv (toPy z) (toPy x)
  | _, _, .nil, _ => rfl
  | _, _, .cons g gs, e => by
    rw [List.all_cons, Bool.and_eq_true] at e
    have q := inV_py h f gs e.2
    unfold inV at q ⊢
    rw [List.any_cons, List.any_cons, q, eqV_py g h e.1 f]
end VS

/-! in, len, conversions, sums, sorts of plain things, isinstance -/
namespace VS
open PySem PySem.Spec L2
open Evl (Ex Ex.refl Ex.trans Ex.new)

def rInAny (K : PySem.W.Frag) : R2 := r2or (rInD K) (rIn K false)
def rNotInAny (K : PySem.W.Frag) : R2 := r2or (rNotInD K) (rIn K true)
theorem op_inAny {X : Cx} (hu : X.A.units + 65 < cLine) : OpR X (compareOp .In) (rInAny X.K) := op_or2 (op_inD hu) op_in_seq
theorem op_notInAny {X : Cx} (hu : X.A.units + 65 < cLine) : OpR X (compareOp .NotIn) (rNotInAny X.K) := op_or2 (op_notInD hu) op_notIn_seq
theorem inDB_sound {K : PySem.W.Frag} {Hs H : Hp} {x y : V} {a b : C} {oa ob : List Addr} {k : Bool} (s : Ex Hs H) (ra : Rep K Hs H x a oa) (rb : Rep K Hs H y b ob) (h : inDB a b = some k) :
    (∃ d ds, Dp K H x d ∧ Dp K H y (.list ds) ∧ SeqAt.shaped d = true ∧ SeqAt.shaped (.list ds) = true ∧ (ds.any fun z => PyData.eqv z d) = k) ∨
    (∃ p xs, y = .ref p ∧ (SqL K H p xs ∨ SqT K H p xs) ∧ flatV x = true ∧ xs.all flatV = true ∧ inV x xs = k) := by
  unfold inDB at h
  split at h
  · rename_i ys e
    split at h
    · rename_i e2
      rw [Bool.and_eq_true] at e2
      cases h
      obtain ⟨p, vs, rfl, h1, h2⟩ := rb.asL s e
      refine .inl ⟨_, toPys ys, ra.dp s e2.1, ?_, e2.1, ?_, rfl⟩
      · have q := e2.2
        have q2 := SeqAt.canLay_of_shaped q
        exact Dt.dp (x := .lst ys) (.lst h1 (h2.ex s)) q2
      · exact e2.2
    · cases h
  · split at h
    · rename_i x0 ys _
      split at h
      · rename_i e2
        rw [Bool.and_eq_true] at e2
        cases h
        obtain ⟨p, vs, rfl, h1, h2⟩ := rb.asT s rfl
        exact .inr ⟨p, vs, rfl, .inr h1, flat_of ra.data e2.1, flats_of h2 e2.2, inV_py ra.data e2.1 h2 e2.2⟩
      · cases h
    · cases h
theorem ops_in {K : PySem.W.Frag} : OpS K (r2 (rInAny K)) inC := ops2 inC_len fun Hs H x y a b oa ob s ra rb c hc Q q => by
  unfold inC at hc
  simp only at hc
  cases e : inDB a b with
  | none => rw [e] at hc; cases hc
  | some k =>
    rw [e] at hc
    cases hc
    have f := fin_d s q (.bl k)
    rcases inDB_sound s ra rb e with ⟨d, ds, h1, h2, h3, h4, h5⟩ | ⟨p, xs, rfl, h1, h2, h3, h4⟩
    · exact .inl ⟨d, ds, h1, h2, h3, h4, by rw [h5]; exact f⟩
    · refine .inr ⟨p, xs, rfl, h1, h2, h3, ?_⟩
      rw [if_neg (by simp), h4]
      exact f
theorem ops_nin {K : PySem.W.Frag} : OpS K (r2 (rNotInAny K)) ninC := ops2 ninC_len fun Hs H x y a b oa ob s ra rb c hc Q q => by
  unfold ninC at hc
  simp only at hc
  cases e : inDB a b with
  | none => rw [e] at hc; cases hc
  | some k =>
    rw [e] at hc
    cases hc
    have f := fin_d s q (.bl !k)
    rcases inDB_sound s ra rb e with ⟨d, ds, h1, h2, h3, h4, h5⟩ | ⟨p, xs, rfl, h1, h2, h3, h4⟩
    · exact .inl ⟨d, ds, h1, h2, h3, h4, by rw [h5]; exact f⟩
    · refine .inr ⟨p, xs, rfl, h1, h2, h3, ?_⟩
      rw [if_pos rfl, h4]
      exact f

/-! ### order -/
def cmpC (g : Int → Int → Bool) (t : List Nat → List Nat → Bool) : List C → Option C
  | [.d (.int i), .d (.int j)] => some (.d (.bl (g i j)))
  | [.d (.str a), .d (.str b)] => some (.d (.bl (t a.cps.toList b.cps.toList)))
  | _ => none
theorem cmpC_len {g : Int → Int → Bool} {t : List Nat → List Nat → Bool} : ∀ cs c, cmpC g t cs = some c → cs.length = 2 := by
  intro cs c h
  unfold cmpC at h
  split at h
  · rfl
  · rfl
  · cases h
def rCmpAny (g : Int → Int → Bool) (t : List Nat → List Nat → Bool) : R2 := r2or (rI0 fun i j => .bl (g i j)) (fun x y H Q => ∃ i j, x = .str i ∧ y = .str j ∧ Q (.bl (t i.cps.toList j.cps.toList)) H)
theorem ops_cmp {K : PySem.W.Frag} {g : Int → Int → Bool} {t : List Nat → List Nat → Bool} : OpS K (r2 (rCmpAny g t)) (cmpC g t) := ops2 cmpC_len fun Hs H x y a b oa ob s ra rb c hc Q q => by
  unfold cmpC at hc
  split at hc
  · rename_i i j e
    cases e
    cases hc
    exact .inl ⟨i, j, ra.int, rb.int, fin_d s q (.bl _)⟩
  · rename_i i j e
    cases e
    cases hc
    exact .inr ⟨i, j, ra.str, rb.str, fin_d s q (.bl _)⟩
  · cases hc
def ltC : List C → Option C := cmpC (fun i j => decide (i < j)) fun a b => decide (a < b)
def leC : List C → Option C := cmpC (fun i j => decide (i ≤ j)) fun a b => !decide (b < a)
def gtC : List C → Option C := cmpC (fun i j => decide (j < i)) fun a b => decide (b < a)
def geC : List C → Option C := cmpC (fun i j => decide (j ≤ i)) fun a b => !decide (a < b)
theorem op_ltAny {X : Cx} : OpR X (compareOp .Lt) (rCmpAny (fun i j => decide (i < j)) fun a b => decide (a < b)) := op_or2 op_lt op_lt_str
theorem op_leAny {X : Cx} : OpR X (compareOp .LtE) (rCmpAny (fun i j => decide (i ≤ j)) fun a b => !decide (b < a)) := op_or2 op_le op_le_str
theorem op_gtAny {X : Cx} : OpR X (compareOp .Gt) (rCmpAny (fun i j => decide (j < i)) fun a b => decide (b < a)) := op_or2 op_gt op_gt_str
theorem op_geAny {X : Cx} : OpR X (compareOp .GtE) (rCmpAny (fun i j => decide (j ≤ i)) fun a b => !decide (a < b)) := op_or2 op_ge op_ge_str
/-- is None, is not None -/
def isNonC : C → Bool
  | .d .non => true
  | _ => false
def isNC : List C → Option C
  | [a, .d .non] => some (.d (.bl (isNonC a)))
  | _ => none
def notNC : List C → Option C
  | [a, .d .non] => some (.d (.bl (!isNonC a)))
  | _ => none
theorem isNC_len : ∀ cs c, isNC cs = some c → cs.length = 2 := by
  intro cs c h
  unfold isNC at h
  split at h <;> first | rfl | cases h
theorem notNC_len : ∀ cs c, notNC cs = some c → cs.length = 2 := by
  intro cs c h
  unfold notNC at h
  split at h <;> first | rfl | cases h
theorem Rep.isNon {K : PySem.W.Frag} {Hs H : Hp} {v : V} {c : C} {o : List Addr} (r : Rep K Hs H v c o) : decide (v = .non) = isNonC c := by
  cases r with
  | d h => cases h <;> rfl
  | _ => rfl
theorem Rep.non {K : PySem.W.Frag} {Hs H : Hp} {v : V} {o : List Addr} (r : Rep K Hs H v (.d .non) o) : v = .non := by
  cases r with
  | d h => cases h; rfl
theorem ops_isN {K : PySem.W.Frag} : OpS K (r2 fun x y H Q => y = .non ∧ Q (.bl (decide (x = .non))) H) isNC := ops2 isNC_len fun Hs H x y a b oa ob s ra rb c hc Q q => by
  have hn := ra.isNon
  unfold isNC at hc
  split at hc
  · rename_i e
    cases e
    cases hc
    refine ⟨rb.non, ?_⟩
    rw [hn]
    exact fin_d s q (.bl _)
  · cases hc
theorem ops_notN {K : PySem.W.Frag} : OpS K (r2 fun x y H Q => y = .non ∧ Q (.bl (!decide (x = .non))) H) notNC := ops2 notNC_len fun Hs H x y a b oa ob s ra rb c hc Q q => by
  have hn := ra.isNon
  unfold notNC at hc
  split at hc
  · rename_i e
    cases e
    cases hc
    refine ⟨rb.non, ?_⟩
    rw [hn]
    exact fin_d s q (.bl _)
  · cases hc

/-! ### len, int, list, tuple -/
def lenN : C → Option Nat
  | .l xs => some xs.length
  | .d (.lst xs) => some xs.length
  | .d (.tup xs) => some xs.length
  | .d (.str z) => if z.length ≤ sizeLine then some z.length else none
  | _ => none
def lenC : List C → Option C
  | [a] => (lenN a).map fun n => .d (.int n)
  | _ => none
theorem lenC_len : ∀ cs c, lenC cs = some c → cs.length = 1 := by
  intro cs c h
  unfold lenC at h
  split at h
  · rfl
  · cases h
theorem ops_len {K : PySem.W.Frag} : OpS K (fun xs H Q => ∃ x n, xs = [x] ∧ LenV K x H n ∧ Q (.int n) H) lenC := opsL1 lenC_len fun Hs H x a oa s ra c hc Q q => by
  unfold lenC at hc
  simp only at hc
  cases e : lenN a with
  | none => rw [e] at hc; cases hc
  | some n =>
    rw [e] at hc
    cases hc
    refine ⟨x, n, rfl, ?_, fin_d s q (.int _)⟩
    unfold lenN at e
    split at e
    · rename_i xs
      cases e
      obtain ⟨p, vs, rfl, h1, h2⟩ := ra.asL s rfl
      exact .inl ⟨vs, h1, h2.len.symm⟩
    · rename_i xs
      cases e
      obtain ⟨p, vs, rfl, h1, h2⟩ := ra.asL s rfl
      exact .inl ⟨vs, h1, h2.len.symm⟩
    · rename_i xs
      cases e
      obtain ⟨p, vs, rfl, h1, h2⟩ := ra.asT s rfl
      exact .inr ⟨vs, h1, h2.len.symm⟩
    · rename_i z
      split at e
      · rename_i hz
        cases e
        rw [ra.str]
        exact ⟨hz, rfl⟩
      · cases e
    · cases e
def intC : List C → Option C
  | [.d (.int i)] => some (.d (.int i))
  | [.d (.bl b)] => some (.d (.int (if b then 1 else 0)))
  | _ => none
theorem intC_len : ∀ cs c, intC cs = some c → cs.length = 1 := by
  intro cs c h
  unfold intC at h
  split at h <;> first | rfl | cases h
theorem ops_int {K : PySem.W.Frag} : OpS K (fun xs H Q => (∃ i, xs = [.int i] ∧ Q (.int i) H) ∨ ∃ k, xs = [.bl k] ∧ Q (.int (if k then 1 else 0)) H) intC := opsL1 intC_len fun Hs H x a oa s ra c hc Q q => by
  unfold intC at hc
  split at hc
  · rename_i i e
    cases e
    cases hc
    exact .inl ⟨i, by rw [ra.int], fin_d s q (.int _)⟩
  · rename_i b e
    cases e
    cases hc
    exact .inr ⟨b, by rw [ra.bl], fin_d s q (.int _)⟩
  · cases hc
def asSeq (c : C) : Option (List D) := match asL c with
  | some xs => some xs
  | none => asT c
theorem Rep.asSeq {K : PySem.W.Frag} {Hs H : Hp} {v : V} {c : C} {o : List Addr} {xs : List D} (s : Ex Hs H) (r : Rep K Hs H v c o) (h : asSeq c = some xs) : ∃ a vs, v = .ref a ∧ (SqL K H a vs ∨ SqT K H a vs) ∧ Dts K Hs vs xs := by
  unfold VS.asSeq at h
  split at h
  · rename_i ys e
    cases h
    obtain ⟨a, vs, e1, h1, h2⟩ := r.asL s e
    exact ⟨a, vs, e1, .inl h1, h2⟩
  · obtain ⟨a, vs, e1, h1, h2⟩ := r.asT s h
    exact ⟨a, vs, e1, .inr h1, h2⟩
def listC : List C → Option C
  | [a] => (asSeq a).map .l
  | _ => none
theorem listC_len : ∀ cs c, listC cs = some c → cs.length = 1 := by
  intro cs c h
  unfold listC at h
  split at h <;> first | rfl | cases h
theorem ops_list {K : PySem.W.Frag} : OpS K (fun xs H Q => ∃ p ys, xs = [.ref p] ∧ (SqL K H p ys ∨ SqT K H p ys) ∧ ∀ l, H l = none → Q (.ref l) (upd H l (.lst ys))) listC := opsL1 listC_len fun Hs H x a oa s ra c hc Q q => by
  unfold listC at hc
  simp only at hc
  cases e : asSeq a with
  | none => rw [e] at hc; cases hc
  | some xs =>
    rw [e] at hc
    cases hc
    obtain ⟨p, vs, rfl, h1, h2⟩ := ra.asSeq s e
    exact ⟨p, vs, rfl, h1, fin_l s q h2⟩
def tupleC : List C → Option C
  | [a] => (asSeq a).map fun xs => .d (.tup xs)
  | _ => none
theorem tupleC_len : ∀ cs c, tupleC cs = some c → cs.length = 1 := by
  intro cs c h
  unfold tupleC at h
  split at h <;> first | rfl | cases h
theorem ops_tuple {K : PySem.W.Frag} : OpS K (fun xs H Q => ∃ p ys, xs = [.ref p] ∧ ((SqL K H p ys ∧ ∀ l, H l = none → Q (.ref l) (upd H l (.tup ys))) ∨ (SqT K H p ys ∧ Q (.ref p) H))) tupleC := opsL1 tupleC_len fun Hs H x a oa s ra c hc Q q => by
  unfold tupleC at hc
  simp only at hc
  cases e : asSeq a with
  | none => rw [e] at hc; cases hc
  | some xs =>
    rw [e] at hc
    cases hc
    unfold asSeq at e
    split at e
    · rename_i ys e1
      cases e
      obtain ⟨p, vs, rfl, h1, h2⟩ := ra.asL s e1
      exact ⟨p, vs, rfl, .inl ⟨h1, fin_t s q h2⟩⟩
    · obtain ⟨p, vs, rfl, h1, h2⟩ := ra.asT s e
      refine ⟨p, vs, rfl, .inr ⟨h1, fin_d s q ?_⟩⟩
      cases ra with
      | d h => cases h with
        | tup k1 k2 => cases e; exact .tup k1 k2
        | _ => cases e
      | _ => cases e

/-! ### lists of numbers, of truths, of texts -/
def asInts : List D → Option (List Int)
  | [] => some []
  | .int i :: r => (asInts r).map (i :: ·)
  | _ => none
theorem asInts_eq : ∀ {xs : List D} {ns : List Int}, asInts xs = some ns → xs = ns.map .int
  | [], ns, h => by cases h; rfl
  | x :: r, ns, h => by
    unfold asInts at h
    cases x with
    | int i =>
      simp only at h
      cases e : asInts r with
      | none => rw [e] at h; cases h
      | some ms =>
        rw [e] at h
        cases h
        rw [asInts_eq e]
        rfl
    | _ => cases h
theorem asInts_of (ns : List Int) : asInts (ns.map .int) = some ns := by
  induction ns with
  | nil => rfl
  | cons n r ih => rw [List.map_cons, asInts, ih]; rfl
def asBls : List D → Option (List Bool)
  | [] => some []
  | .bl i :: r => (asBls r).map (i :: ·)
  | _ => none
theorem asBls_eq : ∀ {xs : List D} {ns : List Bool}, asBls xs = some ns → xs = ns.map .bl
  | [], ns, h => by cases h; rfl
  | x :: r, ns, h => by
    unfold asBls at h
    cases x with
    | bl i =>
      simp only at h
      cases e : asBls r with
      | none => rw [e] at h; cases h
      | some ms =>
        rw [e] at h
        cases h
        rw [asBls_eq e]
        rfl
    | _ => cases h
theorem asBls_of (ns : List Bool) : asBls (ns.map .bl) = some ns := by
  induction ns with
  | nil => rfl
  | cons n r ih => rw [List.map_cons, asBls, ih]; rfl
def asStrs : List D → Option (List PySem.Str)
  | [] => some []
  | .str i :: r => (asStrs r).map (i :: ·)
  | _ => none
theorem asStrs_eq : ∀ {xs : List D} {ns : List PySem.Str}, asStrs xs = some ns → xs = ns.map .str
  | [], ns, h => by cases h; rfl
  | x :: r, ns, h => by
    unfold asStrs at h
    cases x with
    | str i =>
      simp only at h
      cases e : asStrs r with
      | none => rw [e] at h; cases h
      | some ms =>
        rw [e] at h
        cases h
        rw [asStrs_eq e]
        rfl
    | _ => cases h
theorem asStrs_of (ns : List PySem.Str) : asStrs (ns.map .str) = some ns := by
  induction ns with
  | nil => rfl
  | cons n r ih => rw [List.map_cons, asStrs, ih]; rfl
/-- an answer of a list of numbers -/
def onInts (g : List Int → Option D) : List C → Option C
  | [a] => match asL a with
    | some xs => match asInts xs with
      | some ns => (g ns).map .d
      | none => none
    | none => none
  | _ => none
theorem onInts_len {g : List Int → Option D} : ∀ cs c, onInts g cs = some c → cs.length = 1 := by
  intro cs c h
  unfold onInts at h
  split at h <;> first | rfl | cases h
theorem ops_onInts {K : PySem.W.Frag} {r : List V → Hp → VK → Prop} {g : List Int → Option D} (h : ∀ (H : Hp) (a : Addr) (ns : List Int) (x : D) (Q : VK), SqL K H a (ns.map V.int) → g ns = some x → (∀ v, (∀ Hs, Dt K Hs v x) → Q v H) → r [.ref a] H Q) : OpS K r (onInts g) :=
  opsL1 onInts_len fun Hs H x a oa s ra c hc Q q => by
    unfold onInts at hc
    simp only at hc
    split at hc
    · rename_i xs e1
      split at hc
      · rename_i ns e2
        cases e3 : g ns with
        | none => rw [e3] at hc; cases hc
        | some y =>
          rw [e3] at hc
          cases hc
          obtain ⟨p, vs, rfl, h1, h2⟩ := ra.asL s e1
          rw [asInts_eq e2] at h2
          rw [h2.of_ints] at h1
          exact h H p ns y Q h1 e3 fun v hv => fin_d s q (hv Hs)
      · cases hc
    · cases hc
def sumC : List C → Option C := onInts fun ns => some (.int ns.sum)
theorem ops_sum {K : PySem.W.Frag} : OpS K (rSum K) sumC := ops_onInts fun H a ns x Q h e q => by
  cases e
  exact ⟨a, ns, rfl, h, q _ fun _ => .int _⟩
def maxI : List Int → Option Int
  | [] => none
  | [x] => some x
  | x :: r => (maxI r).map fun m => max x m
def minI : List Int → Option Int
  | [] => none
  | [x] => some x
  | x :: r => (minI r).map fun m => min x m
theorem maxI_mem : ∀ {ns : List Int} {m : Int}, maxI ns = some m → m ∈ ns ∧ ∀ y ∈ ns, y ≤ m
  | [], m, h => by cases h
  | [x], m, h => by cases h; exact ⟨by simp, by intro y hy; simp at hy; omega⟩
  | x :: z :: r, m, h => by
    unfold maxI at h
    cases e : maxI (z :: r) with
    | none => rw [e] at h; cases h
    | some k =>
      rw [e] at h
      have h' : max x k = m := Option.some.inj h
      obtain ⟨h1, h2⟩ := maxI_mem e
      refine ⟨?_, fun y hy => ?_⟩
      · by_cases hx : k ≤ x
        · rw [← h', Int.max_eq_left hx]; simp
        · rw [← h', Int.max_eq_right (by omega)]; exact List.mem_cons_of_mem _ h1
      · rcases List.mem_cons.mp hy with rfl | hy
        · omega
        · have := h2 y hy; omega
theorem minI_mem : ∀ {ns : List Int} {m : Int}, minI ns = some m → m ∈ ns ∧ ∀ y ∈ ns, m ≤ y
  | [], m, h => by cases h
  | [x], m, h => by cases h; exact ⟨by simp, by intro y hy; simp at hy; omega⟩
  | x :: z :: r, m, h => by
    unfold minI at h
    cases e : minI (z :: r) with
    | none => rw [e] at h; cases h
    | some k =>
      rw [e] at h
      have h' : min x k = m := Option.some.inj h
      obtain ⟨h1, h2⟩ := minI_mem e
      refine ⟨?_, fun y hy => ?_⟩
      · by_cases hx : x ≤ k
        · rw [← h', Int.min_eq_left hx]; simp
        · rw [← h', Int.min_eq_right (by omega)]; exact List.mem_cons_of_mem _ h1
      · rcases List.mem_cons.mp hy with rfl | hy
        · omega
        · have := h2 y hy; omega
def maxC : List C → Option C := onInts fun ns => (maxI ns).map .int
def minC : List C → Option C := onInts fun ns => (minI ns).map .int
theorem ops_max {K : PySem.W.Frag} : OpS K (rMax K) maxC := ops_onInts fun H a ns x Q h e q => by
  cases e2 : maxI ns with
  | none => rw [e2] at e; cases e
  | some m =>
    rw [e2] at e
    cases e
    obtain ⟨h1, h2⟩ := maxI_mem e2
    refine ⟨a, ns, rfl, h, List.length_pos_of_mem h1, fun k hk hle => ?_⟩
    have : k = m := by have := hle m h1; have := h2 k hk; omega
    subst this
    exact q _ fun _ => .int _
theorem ops_min {K : PySem.W.Frag} : OpS K (rMin K) minC := ops_onInts fun H a ns x Q h e q => by
  cases e2 : minI ns with
  | none => rw [e2] at e; cases e
  | some m =>
    rw [e2] at e
    cases e
    obtain ⟨h1, h2⟩ := minI_mem e2
    refine ⟨a, ns, rfl, h, List.length_pos_of_mem h1, fun k hk hle => ?_⟩
    have : k = m := by have := hle m h1; have := h2 k hk; omega
    subst this
    exact q _ fun _ => .int _
def max2C : List C → Option C := i2 fun i j => some (.int (if j > i then j else i))
def min2C : List C → Option C := i2 fun i j => some (.int (if j < i then j else i))
theorem ops_i2L {K : PySem.W.Frag} {g : Int → Int → V} {f : Int → Int → Option D} (h : ∀ i j x, f i j = some x → ∀ H, Dt K H (g i j) x) : OpS K (fun xs H Q => ∃ i j, xs = [.int i, .int j] ∧ Q (g i j) H) (i2 f) :=
  opsL2 i2_len fun Hs H x y a b oa ob s ra rb c hc Q q => by
    obtain ⟨i, j, z, rfl, rfl, hf, rfl⟩ := i2_inv hc
    exact ⟨i, j, by rw [ra.int, rb.int], fin_d s q (h i j z hf Hs)⟩
theorem ops_max2 {K : PySem.W.Frag} : OpS K (fun xs H Q => ∃ i j, xs = [.int i, .int j] ∧ Q (.int (if j > i then j else i)) H) max2C := ops_i2L fun i j x h H => by cases h; exact .int _
theorem ops_min2 {K : PySem.W.Frag} : OpS K (fun xs H Q => ∃ i j, xs = [.int i, .int j] ∧ Q (.int (if j < i then j else i)) H) min2C := ops_i2L fun i j x h H => by cases h; exact .int _
def onBls (g : List Bool → Bool) : List C → Option C
  | [a] => match asL a with
    | some xs => match asBls xs with
      | some bs => some (.d (.bl (g bs)))
      | none => none
    | none => none
  | _ => none
theorem onBls_len {g : List Bool → Bool} : ∀ cs c, onBls g cs = some c → cs.length = 1 := by
  intro cs c h
  unfold onBls at h
  split at h <;> first | rfl | cases h
theorem onBls_inv {K : PySem.W.Frag} {Hs H : Hp} {x : V} {a : C} {oa : List Addr} {g : List Bool → Bool} {c : C} (s : Ex Hs H) (ra : Rep K Hs H x a oa) (hc : onBls g [a] = some c) : ∃ p bs, x = .ref p ∧ SqL K H p (bs.map V.bl) ∧ c = .d (.bl (g bs)) := by
  unfold onBls at hc
  simp only at hc
  split at hc
  · rename_i xs e1
    split at hc
    · rename_i bs e2
      cases hc
      obtain ⟨p, vs, rfl, h1, h2⟩ := ra.asL s e1
      rw [asBls_eq e2] at h2
      rw [h2.of_bls] at h1
      exact ⟨p, bs, rfl, h1, rfl⟩
    · cases hc
  · cases hc
def allC : List C → Option C := onBls fun bs => bs.all id
def anyC : List C → Option C := onBls fun bs => bs.any id
theorem ops_all {K : PySem.W.Frag} : OpS K (rAll K) allC := opsL1 onBls_len fun Hs H x a oa s ra c hc Q q => by
  obtain ⟨p, bs, rfl, h1, rfl⟩ := onBls_inv s ra hc
  exact ⟨p, bs, rfl, h1, fin_d s q (.bl _)⟩
theorem ops_any {K : PySem.W.Frag} : OpS K (rAny K) anyC := opsL1 onBls_len fun Hs H x a oa s ra c hc Q q => by
  obtain ⟨p, bs, rfl, h1, rfl⟩ := onBls_inv s ra hc
  exact ⟨p, bs, rfl, h1, fin_d s q (.bl _)⟩

/-! ### isinstance -/
def subTy (t n : String) : Bool := t == n || (t == "bool" && n == "int")
def tyNames : List String := ["NoneType", "bool", "int", "str", "tuple", "list", "dict"]
theorem kit_all : ∀ t ∈ tyNames, ∀ n ∈ ["str", "int", "bool", "tuple", "list", "dict"], kitB t n = some (subTy t n) := by decide +kernel
def tyName : C → Option String
  | .d .non => some "NoneType"
  | .d (.bl _) => some "bool"
  | .d (.int _) => some "int"
  | .d (.str _) => some "str"
  | .d (.tup _) => some "tuple"
  | .d (.kt _) => some "tuple"
  | .d (.dk _ _) => some "dict"
  | .d (.lst _) => some "list"
  | .l _ => some "list"
  | .k _ _ => some "dict"
  | .t _ _ => some "dict"
  | _ => none
theorem tyName_mem {c : C} {t : String} (h : tyName c = some t) : t ∈ tyNames := by
  unfold tyName at h
  split at h <;> first | (cases h; decide) | cases h
theorem Rep.ty {K : PySem.W.Frag} {Hs H : Hp} {v : V} {c : C} {o : List Addr} {t : String} (s : Ex Hs H) (r : Rep K Hs H v c o) (h : tyName c = some t) : TyX K H v (.type t) := by
  cases r with
  | d h1 =>
    cases h1 with
    | non => cases h; exact .base .non
    | bl b => cases h; exact .base (.bl b)
    | int b => cases h; exact .base (.int b)
    | str b => cases h; exact .base (.str b)
    | tup k1 k2 =>
      cases h
      exact .base (.tup (s _ _ k1))
    | kt k1 k2 =>
      cases h
      rcases Evl.ex_t s k1 with (q | ⟨o, q⟩) | ⟨o, _, _, q, cl, _⟩
      · exact .base (.tup q)
      · exact .fTuple q
      · exact .kTuple q cl
    | dk k1 k2 =>
      cases h
      rcases Evl.ex_rd s k1 with q | ⟨o, q⟩
      · exact .base (.dK q)
      · exact .fDict q
    | lst k1 k2 =>
      cases h
      rcases Evl.ex_l s k1 with (q | ⟨o, q⟩) | ⟨o, _, _, q, cl, _⟩
      · exact .base (.lst q)
      · exact .base (.frz q)
      · exact .kList q cl
    | _ => cases h
  | l h1 h2 => cases h; exact .base (.lst h1)
  | k h1 h2 => cases h; exact .base (.dK h1)
  | t h1 h2 => cases h; exact .base (.dT h1)
  | p h1 h2 => cases h
  | m h1 h2 h3 => cases h
def isiC : List C → Option C
  | [a, .d (.ty n)] => if n ∈ ["str", "int", "bool", "tuple", "list", "dict"] then (tyName a).map fun t => .d (.bl (subTy t n)) else none
  | _ => none
theorem isiC_len : ∀ cs c, isiC cs = some c → cs.length = 2 := by
  intro cs c h
  unfold isiC at h
  split at h <;> first | rfl | cases h
theorem Rep.tyV {K : PySem.W.Frag} {Hs H : Hp} {v : V} {n : String} {o : List Addr} (r : Rep K Hs H v (.d (.ty n)) o) : v = .ty n := by
  cases r with
  | d h => cases h; rfl
theorem ops_isi {K : PySem.W.Frag} : OpS K (rIsi K) isiC := opsL2 isiC_len fun Hs H x y a b oa ob s ra rb c hc Q q => by
  unfold isiC at hc
  split at hc
  · rename_i n e
    cases e
    split at hc
    · rename_i hn
      cases e2 : tyName a with
      | none => rw [e2] at hc; cases hc
      | some t =>
        rw [e2] at hc
        cases hc
        exact ⟨x, .ty n, .type t, .type n, subTy t n, by rw [rb.tyV], .ty n, ra.ty s e2, kit_ty (kit_all t (tyName_mem e2) n hn), fin_d s q (.bl _)⟩
    · cases hc
  · cases hc
/-- a tuple of classes -/
def rIsiS (K : PySem.W.Frag) : List V → Hp → VK → Prop := fun xs H Q => ∃ (x : V) (tp : Addr) (cs : List V) (t : Value) (us : List Value) (b : Bool), xs = [x, .ref tp] ∧ SqT K H tp cs ∧ Paired ClsV cs us ∧ TyX K H x t ∧ PySem.W.kitAny K t us = some b ∧ Q (.bl b) H
theorem call_isiS {X : Cx} : CallR X (.builtin "isinstance") (rIsiS X.K) := by
  intro pins s σ H xs us Q I r h
  obtain ⟨x, tp, cs, t, ws, b, rfl, hT, k, ty, e, q⟩ := h
  obtain ⟨u1, u2, rfl, r1, r2⟩ := L2.vals2 r
  cases (show u2 = Value.ref tp from r2)
  obtain ⟨P, Z, p, hx⟩ := kit_of I r1 ty
  obtain ⟨its, rv, ⟨o, h1, h2, n, h3⟩, _⟩ := I.tuple hT
  have e3 := ClsV.all k rv
  subst e3
  obtain ⟨oc, od, dt, sl⟩ := o
  simp only at h2 h3
  subst h2 h3
  exact PySem.W.kia_tup Z I.kIn p h1 e hx fun tk => ⟨.bl b, H, I.tok tk, rfl, q⟩
def asTys : List D → Option (List String)
  | [] => some []
  | .ty i :: r => (asTys r).map (i :: ·)
  | _ => none
theorem asTys_vals {K : PySem.W.Frag} {H : Hp} : ∀ {vs : List V} {xs : List D} {ns : List String}, Dts K H vs xs → asTys xs = some ns → Paired ClsV vs (ns.map Value.type)
  | _, [], ns, .nil, h => by cases h; exact .nil
  | _, x :: r, ns, .cons h1 h2, h => by
    unfold asTys at h
    cases x with
    | ty i =>
      simp only at h
      cases e : asTys r with
      | none => rw [e] at h; cases h
      | some ms =>
        rw [e] at h
        cases h
        cases h1
        exact .cons (.ty i) (asTys_vals h2 e)
    | _ => cases h
theorem kit_any_all {K : PySem.W.Frag} {t : String} (ht : t ∈ tyNames) : ∀ {ns : List String}, (∀ n ∈ ns, n ∈ ["str", "int", "bool", "tuple", "list", "dict"]) → PySem.W.kitAny K (.type t) (ns.map Value.type) = some (ns.any (subTy t))
  | [], _ => rfl
  | n :: r, h => by
    refine kitAny_cons (kit_ty (kit_all t ht n (h n (by simp)))) (fun e => ?_) fun e => ?_
    · rw [List.any_cons, e, Bool.false_or]
      exact kit_any_all ht fun m hm => h m (List.mem_cons_of_mem _ hm)
    · rw [List.any_cons, e, Bool.true_or]
def isiTC : List C → Option C
  | [a, .d (.tup ts)] => match asTys ts with
    | some ns => if ∀ n ∈ ns, n ∈ ["str", "int", "bool", "tuple", "list", "dict"] then (tyName a).map fun t => .d (.bl (ns.any (subTy t))) else none
    | none => none
  | _ => none
theorem isiTC_len : ∀ cs c, isiTC cs = some c → cs.length = 2 := by
  intro cs c h
  unfold isiTC at h
  split at h <;> first | rfl | cases h
theorem ops_isiT {K : PySem.W.Frag} : OpS K (rIsiS K) isiTC := opsL2 isiTC_len fun Hs H x y a b oa ob s ra rb c hc Q q => by
  unfold isiTC at hc
  split at hc
  · rename_i ts e
    cases e
    split at hc
    · rename_i ns e1
      split at hc
      · rename_i hn
        cases e2 : tyName a with
        | none => rw [e2] at hc; cases hc
        | some t =>
          rw [e2] at hc
          cases hc
          obtain ⟨p, vs, rfl, h1, h2⟩ := rb.asT s rfl
          exact ⟨x, p, vs, .type t, ns.map Value.type, _, rfl, h1, asTys_vals h2 e1, ra.ty s e2, kit_any_all (tyName_mem e2) hn, fin_d s q (.bl _)⟩
      · cases hc
    · cases hc
  · cases hc
end VS

/-! tests, choices, statements, loops -/
namespace VS
open PySem PySem.Spec L2
open Evl (Ex Ex.refl Ex.trans Ex.new)

/-! ### tests -/
section
variable {K : PySem.W.Frag}
/-- the value of a test -/
def tstM (m : ME) : MT := fun L => match m L with
  | some (.d (.bl b), L') => some (b, L')
  | _ => none
theorem st_B {t : TE} {m : ME} (h : SE K t m) : STt K (tB t) (tstM m) := by
  intro Z σ H L T S b L' hm Q q
  unfold tstM at hm
  split at hm
  · rename_i b1 L1 e
    cases hm
    refine h Z σ H L T S _ _ e _ fun v H' S' => ?_
    obtain ⟨Hs, w, S0⟩ := id S'
    obtain ⟨o, r, _⟩ := S0.tmp T.length (v, .d (.bl b)) (by rw [List.getElem?_append_right (Nat.le_refl _), Nat.sub_self]; rfl)
    exact ⟨b, r.bl, q H' S'.pop⟩
  · cases hm
theorem st_test {t : TE} {m : ME} (h : SE K t m) : STt K (tTest t) (tstM m) := st_B h
def tAndM (a b : MT) : MT := fun L => match a L with
  | some (true, L') => b L'
  | some (false, L') => some (false, L')
  | none => none
def tOrM (a b : MT) : MT := fun L => match a L with
  | some (false, L') => b L'
  | some (true, L') => some (true, L')
  | none => none
def tNotM (a : MT) : MT := fun L => match a L with
  | some (k, L') => some (!k, L')
  | none => none
theorem st_and {t u : TT} {a b : MT} (h1 : STt K t a) (h2 : STt K u b) : STt K (tAnd t u) (tAndM a b) := by
  intro Z σ H L T S k L' hm Q q
  unfold tAndM at hm
  split at hm
  · rename_i L1 e
    exact h1 Z σ H L T S _ _ e _ fun H' S' => by
      show (if true = true then u σ H' Q else Q false H')
      rw [if_pos rfl]
      exact h2 Z σ H' L1 T S' k L' hm Q q
  · rename_i L1 e
    cases hm
    exact h1 Z σ H L T S _ _ e _ fun H' S' => by
      show (if false = true then u σ H' Q else Q false H')
      rw [if_neg (by decide)]
      exact q H' S'
  · cases hm
theorem st_or {t u : TT} {a b : MT} (h1 : STt K t a) (h2 : STt K u b) : STt K (tOr t u) (tOrM a b) := by
  intro Z σ H L T S k L' hm Q q
  unfold tOrM at hm
  split at hm
  · rename_i L1 e
    exact h1 Z σ H L T S _ _ e _ fun H' S' => by
      show (if false = true then Q true H' else u σ H' Q)
      rw [if_neg (by decide)]
      exact h2 Z σ H' L1 T S' k L' hm Q q
  · rename_i L1 e
    cases hm
    exact h1 Z σ H L T S _ _ e _ fun H' S' => by
      show (if true = true then Q true H' else u σ H' Q)
      rw [if_pos rfl]
      exact q H' S'
  · cases hm
theorem st_not {t : TT} {a : MT} (h1 : STt K t a) : STt K (tNot t) (tNotM a) := by
  intro Z σ H L T S k L' hm Q q
  unfold tNotM at hm
  split at hm
  · rename_i k1 L1 e
    cases hm
    exact h1 Z σ H L T S _ _ e _ fun H' S' => q H' S'
  · cases hm
/-- a choice between two values -/
def mIfE (t : MT) (a b : ME) : ME := fun L => match t L with
  | some (true, L') => a L'
  | some (false, L') => b L'
  | none => none
theorem se_if {t : TT} {ta tb : TE} {mt : MT} {a b : ME} (h : STt K t mt) (h1 : SE K ta a) (h2 : SE K tb b) : SE K (tIf t ta tb) (mIfE mt a b) := by
  intro Z σ H L T S c L' hm Q q
  unfold mIfE at hm
  split at hm
  · rename_i L1 e
    exact h Z σ H L T S _ _ e _ fun H' S' => by
      show (if true = true then ta σ H' Q else tb σ H' Q)
      rw [if_pos rfl]
      exact h1 Z σ H' L1 T S' c L' hm Q q
  · rename_i L1 e
    exact h Z σ H L T S _ _ e _ fun H' S' => by
      show (if false = true then ta σ H' Q else tb σ H' Q)
      rw [if_neg (by decide)]
      exact h2 Z σ H' L1 T S' c L' hm Q q
  · cases hm
/-- and, or, not as values that are truths -/
def mAndV (a b : ME) : ME := fun L => match a L with
  | some (.d (.bl true), L') => b L'
  | some (.d (.bl false), L') => some (.d (.bl false), L')
  | _ => none
def mOrV (a b : ME) : ME := fun L => match a L with
  | some (.d (.bl false), L') => b L'
  | some (.d (.bl true), L') => some (.d (.bl true), L')
  | _ => none
def mNotV (a : ME) : ME := fun L => match a L with
  | some (.d (.bl k), L') => some (.d (.bl !k), L')
  | _ => none
theorem SR.top {Z : Stat} {σ : L2.St} {H : Hp} {L : Ls} {T : List (V × C)} {v : V} {c : C} (S : SR K Z σ H L (T ++ [(v, c)])) : ∃ Hs o, Ex Hs H ∧ Rep K Hs H v c o := by
  obtain ⟨Hs, w, S0⟩ := S
  obtain ⟨o, r, _⟩ := S0.tmp T.length (v, c) (by rw [List.getElem?_append_right (Nat.le_refl _), Nat.sub_self]; rfl)
  exact ⟨Hs, o, S0.sub, r⟩
theorem se_andV {ta tb : TE} {a b : ME} (h1 : SE K ta a) (h2 : SE K tb b) : SE K (tAndV ta tb) (mAndV a b) := by
  intro Z σ H L T S c L' hm Q q
  unfold mAndV at hm
  split at hm
  · rename_i L1 e
    refine h1 Z σ H L T S _ _ e _ fun v H' S' => ?_
    obtain ⟨Hs, o, _, r⟩ := S'.top
    refine ⟨true, r.bl, ?_⟩
    rw [if_pos rfl]
    exact h2 Z σ H' L1 T S'.pop c L' hm Q q
  · rename_i L1 e
    cases hm
    refine h1 Z σ H L T S _ _ e _ fun v H' S' => ?_
    obtain ⟨Hs, o, _, r⟩ := S'.top
    refine ⟨false, r.bl, ?_⟩
    rw [if_neg (by decide)]
    have ev := r.bl
    subst ev
    exact q _ H' S'
  · cases hm
theorem se_orV {ta tb : TE} {a b : ME} (h1 : SE K ta a) (h2 : SE K tb b) : SE K (tOrV ta tb) (mOrV a b) := by
  intro Z σ H L T S c L' hm Q q
  unfold mOrV at hm
  split at hm
  · rename_i L1 e
    refine h1 Z σ H L T S _ _ e _ fun v H' S' => ?_
    obtain ⟨Hs, o, _, r⟩ := S'.top
    refine ⟨false, r.bl, ?_⟩
    rw [if_neg (by decide)]
    exact h2 Z σ H' L1 T S'.pop c L' hm Q q
  · rename_i L1 e
    cases hm
    refine h1 Z σ H L T S _ _ e _ fun v H' S' => ?_
    obtain ⟨Hs, o, _, r⟩ := S'.top
    refine ⟨true, r.bl, ?_⟩
    rw [if_pos rfl]
    have ev := r.bl
    subst ev
    exact q _ H' S'
  · cases hm
theorem SR.pushC (S : SR K Z σ H L T) {v : V} {x : D} (h : ∀ Hs, Dt K Hs v x) : SR K Z σ H L (T ++ [(v, .d x)]) := S.push (fun Hs _ => h Hs) rfl
theorem se_notV {ta : TE} {a : ME} (h1 : SE K ta a) : SE K (tNotV ta) (mNotV a) := by
  intro Z σ H L T S c L' hm Q q
  unfold mNotV at hm
  split at hm
  · rename_i k L1 e
    cases hm
    refine h1 Z σ H L T S _ _ e _ fun v H' S' => ?_
    obtain ⟨Hs, o, _, r⟩ := S'.top
    exact ⟨k, r.bl, q _ H' (S'.pop.pushC fun _ => .bl _)⟩
  · cases hm
/-- truth of a sequence or a number -/
def truB : C → Option Bool
  | .l xs => some (!xs.isEmpty)
  | .d (.lst xs) => some (!xs.isEmpty)
  | .d (.tup xs) => some (!xs.isEmpty)
  | .d (.bl b) => some b
  | .d (.int i) => some (i != 0)
  | .d .non => some false
  | _ => none
end
section
variable {X : Cx} {a b c : Expr} {es : List Expr} {ta tb te : TE} {t u : TT} {ma mb me : ME} {mt mu : MT} {pos : Pos}
/-- a test of and, or whatever its whole is -/
structure JW (X : Cx) (e : Expr) (t : TT) (m : MT) : Prop where
  pw : PW X e t
  st : STt X.K t m
theorem jt_pw (h : JW X a t mt) : JT X a t mt := ⟨h.pw.pt, h.st⟩
theorem jw_and1 (h : JT X a t mt) : JW X (.BoolOp .And [a] pos) t mt := ⟨pw_and1 h.pt, h.st⟩
theorem jw_or1 (h : JT X a t mt) : JW X (.BoolOp .Or [a] pos) t mt := ⟨pw_or1 h.pt, h.st⟩
theorem jw_and (h : JT X a t mt) (hr : JW X (.BoolOp .And (b :: es) pos) u mu) : JW X (.BoolOp .And (a :: b :: es) pos) (tAnd t u) (tAndM mt mu) := ⟨pw_and h.pt hr.pw, st_and h.st hr.st⟩
theorem jw_or (h : JT X a t mt) (hr : JW X (.BoolOp .Or (b :: es) pos) u mu) : JW X (.BoolOp .Or (a :: b :: es) pos) (tOr t u) (tOrM mt mu) := ⟨pw_or h.pt hr.pw, st_or h.st hr.st⟩
theorem jt_not (h : JT X a t mt) : JT X (.UnaryOp .Not a pos) (tNot t) (tNotM mt) := ⟨pt_not h.pt, st_not h.st⟩
theorem jt_val (h : JE X a ta ma) (he : ∀ whole, isTrue a X.env whole = (do let v ← whole; standAt a.pos; holding [v] (truthy v)) := by intro _; rfl) : JT X a (tB ta) (tstM ma) := ⟨pt_val h.pe he, st_B h.se⟩
theorem jt_cmp {op : CmpOp} {r : R2} {f : List C → Option C} {ga gb : MG} (ho : OpR X (compareOp op) r) (hs : OpS X.K (r2 r) f) (ha : JG X a ta ga) (hb : JG X b tb gb) (hm : behindInMarks op b = false := by rfl) : JT X (.Compare a [op] [b] pos) (tTest (tOp r ta tb)) (tstM (mOp f (maCons ga (maCons gb maNil)))) :=
  ⟨pt_cmpR ho ha.pe hb.pe hm, st_test (je_cmp ho hs ha hb hm (pos := pos)).se⟩
theorem je_if (h : JT X c t mt) (h1 : JE X a ta ma) (h2 : JE X b tb mb) : JE X (.IfExp c a b pos) (tIf t ta tb) (mIfE mt ma mb) := ⟨pe_ifExp h.pt h1.pe h2.pe, se_if h.st h1.se h2.se⟩
theorem je_one {op} (h : JE X a ta ma) : JE X (.BoolOp op [a] pos) ta ma := ⟨pe_one h.pe, h.se⟩
theorem je_and (h : JE X a ta ma) (hr : JE X (.BoolOp .And (b :: es) pos) tb mb) : JE X (.BoolOp .And (a :: b :: es) pos) (tAndV ta tb) (mAndV ma mb) := ⟨pe_and h.pe hr.pe, se_andV h.se hr.se⟩
theorem je_or (h : JE X a ta ma) (hr : JE X (.BoolOp .Or (b :: es) pos) tb mb) : JE X (.BoolOp .Or (a :: b :: es) pos) (tOrV ta tb) (mOrV ma mb) := ⟨pe_or h.pe hr.pe, se_orV h.se hr.se⟩
theorem je_not (h : JE X a ta ma) : JE X (.UnaryOp .Not a pos) (tNotV ta) (mNotV ma) := ⟨pe_not h.pe, se_notV h.se⟩
end

/-! ### statements -/
def EndOk (K : PySem.W.Frag) (Z : Stat) (D : Ends) (T : List (V × C)) : Out → Prop
  | .nx L => ∀ σ H, SR K Z σ H L T → D.nx σ H
  | .rt c L => ∀ σ v H, SR K Z σ H L (T ++ [(v, c)]) → D.rt v H
  | .bk L => ∀ σ H, SR K Z σ H L T → D.bk σ H
  | .ct L => ∀ σ H, SR K Z σ H L T → D.ct σ H
def SS (K : PySem.W.Frag) (ro : List Nat) (t : TS) (m : MS) : Prop := ∀ (Z : Stat), Z.ro = ro → ∀ (σ : L2.St) (H : Hp) (L : Ls) (T : List (V × C)), SR K Z σ H L T → ∀ out, m L = some out →
  ∀ D : Ends, EndOk K Z D T out → t D σ H
structure JS (X : Cx) (ro : List Nat) (st : Stmt) (t : TS) (m : MS) : Prop where
  ps : PS X st t
  ss : SS X.K ro t m
structure JSs (X : Cx) (ro : List Nat) (st : List Stmt) (t : TS) (m : MS) : Prop where
  ps : PSs X st t
  ss : SS X.K ro t m
def mSkip : MS := fun L => some (.nx L)
def mSeq (a b : MS) : MS := fun L => match a L with
  | some (.nx L') => b L'
  | x => x
def mSet (j : Nat) (e : ME) : MS := fun L => match e L with
  | some (c, L') => if j < L'.length then some (.nx (L'.set j (some c))) else none
  | none => none
def mRet (e : ME) : MS := fun L => match e L with
  | some (c, L') => some (.rt c L')
  | none => none
def mRetN : MS := fun L => some (.rt (.d .non) L)
def mExpr (e : ME) : MS := fun L => match e L with
  | some (_, L') => some (.nx L')
  | none => none
def mIf (t : MT) (a b : MS) : MS := fun L => match t L with
  | some (true, L') => a L'
  | some (false, L') => b L'
  | none => none
def mBreak : MS := fun L => some (.bk L)
def mCont : MS := fun L => some (.ct L)
def mNever : MS := fun _ => none
section
variable {K : PySem.W.Frag} {ro : List Nat}
theorem ss_skip : SS K ro tNext mSkip := fun Z hz σ H L T S out hm D q => by
  cases hm
  exact q σ H S
theorem ss_seq {t u : TS} {a b : MS} (h1 : SS K ro t a) (h2 : SS K ro u b) : SS K ro (tSeq t u) (mSeq a b) := fun Z hz σ H L T S out hm D q => by
  unfold mSeq at hm
  split at hm
  · rename_i L1 e
    exact h1 Z hz σ H L T S _ e { D with nx := u D } fun σ' H' S' => h2 Z hz σ' H' L1 T S' out hm D q
  · rename_i hn
    refine h1 Z hz σ H L T S out hm { D with nx := u D } ?_
    cases out with
    | nx L1 => exact absurd hm (hn L1)
    | rt c L1 => exact q
    | bk L1 => exact q
    | ct L1 => exact q
theorem ss_set {te : TE} {e : ME} {j : Nat} (h : SE K te e) (hj : j ∉ ro) : SS K ro (tAsg te (gName j)) (mSet j e) := fun Z hz σ H L T S out hm D q => by
  unfold mSet at hm
  split at hm
  · rename_i c L1 e1
    split at hm
    · rename_i hl
      cases hm
      refine h Z σ H L T S c L1 e1 _ fun v H' S' => ?_
      refine q _ _ (S'.store ?_ (by rw [hz]; exact hj))
      obtain ⟨_, _, S0⟩ := S'
      rw [← S0.len]
      exact hl
    · cases hm
  · cases hm
theorem ss_ret {te : TE} {e : ME} (h : SE K te e) : SS K ro (tRet te) (mRet e) := fun Z hz σ H L T S out hm D q => by
  unfold mRet at hm
  split at hm
  · rename_i c L1 e1
    cases hm
    exact h Z σ H L T S c L1 e1 _ fun v H' S' => q σ v H' S'
  · cases hm
theorem ss_retN : SS K ro tRetN mRetN := fun Z hz σ H L T S out hm D q => by
  cases hm
  exact q σ .non H (S.pushC fun _ => .non)
theorem ss_expr {te : TE} {e : ME} (h : SE K te e) : SS K ro (tDrop te) (mExpr e) := fun Z hz σ H L T S out hm D q => by
  unfold mExpr at hm
  split at hm
  · rename_i c L1 e1
    cases hm
    exact h Z σ H L T S c L1 e1 _ fun v H' S' => q σ H' S'.pop
  · cases hm
theorem ss_if {t : TT} {u v : TS} {mt : MT} {a b : MS} (h : STt K t mt) (h1 : SS K ro u a) (h2 : SS K ro v b) : SS K ro (tIfS t u v) (mIf mt a b) := fun Z hz σ H L T S out hm D q => by
  unfold mIf at hm
  split at hm
  · rename_i L1 e
    exact h Z σ H L T S _ _ e _ fun H' S' => by
      show (if true = true then u D σ H' else v D σ H')
      rw [if_pos rfl]
      exact h1 Z hz σ H' L1 T S' out hm D q
  · rename_i L1 e
    exact h Z σ H L T S _ _ e _ fun H' S' => by
      show (if false = true then u D σ H' else v D σ H')
      rw [if_neg (by decide)]
      exact h2 Z hz σ H' L1 T S' out hm D q
  · cases hm
theorem ss_break : SS K ro tBreak mBreak := fun Z hz σ H L T S out hm D q => by
  cases hm
  exact q σ H S
theorem ss_cont : SS K ro tCont mCont := fun Z hz σ H L T S out hm D q => by
  cases hm
  exact q σ H S
theorem ss_never : SS K ro tNever mNever := fun Z hz σ H L T S out hm D q => by cases hm
end
section
variable {X : Cx} {ro : List Nat} {st : Stmt} {rest : List Stmt} {a b : List Stmt} {t u : TS} {m n : MS} {e : Expr} {te : TE} {me : ME} {pos : Pos} {tt : TT} {mt : MT}
theorem js_nil : JSs X ro [] tNext mSkip := ⟨pss_nil, ss_skip⟩
theorem js_cons (h1 : JS X ro st t m) (h2 : JSs X ro rest u n) : JSs X ro (st :: rest) (tSeq t u) (mSeq m n) := ⟨pss_cons h1.ps h2.ps, ss_seq h1.ss h2.ss⟩
theorem js_one (h1 : JS X ro st t m) : JSs X ro [st] t m := ⟨pss_one h1.ps, h1.ss⟩
theorem js_set {x : PySem.Str} {pos' : Pos} (j : Nat) (hN : X.N.Nodup) (h : JE X e te me) (hj : j ∉ ro := by decide) (hi : X.N[j]? = some x := by rfl) (hx : Loc X.env.scope x := by first | exact .inl rfl | exact .inr rfl)
    (hs : swapsWith e (some (.Name x pos')) pos.line X.env = pure false := by rfl) (hf : X.fn x = true ∨ X.env.scope.names.lookup x = some .local := by first | exact .inl rfl | exact .inr rfl | assumption) :
    JS X ro (.Assign [.Name x pos'] e pos) (tAsg te (gName j)) (mSet j me) := ⟨ps_set hN hi hx h.pe hs hf, ss_set h.se hj⟩
theorem js_ret (h : JE X e te me) : JS X ro (.Return (some e) pos) (tRet te) (mRet me) := ⟨ps_ret h.pe, ss_ret h.se⟩
theorem js_retN : JS X ro (.Return none pos) tRetN mRetN := ⟨ps_retN, ss_retN⟩
theorem js_expr (h : JE X e te me) (hs : swapsWith e none pos.line X.env = pure false := by rfl) : JS X ro (.Expr e pos) (tDrop te) (mExpr me) := ⟨ps_expr h.pe hs, ss_expr h.se⟩
theorem js_if {c : Expr} (h : JT X c tt mt) (h1 : JSs X ro a t m) (h2 : JSs X ro b u n) : JS X ro (.If c a b pos) (tIfS tt t u) (mIf mt m n) := ⟨ps_if h.pt h1.ps h2.ps, ss_if h.st h1.ss h2.ss⟩
theorem js_pass : JS X ro (.Pass pos) tNext mSkip := ⟨ps_pass, ss_skip⟩
theorem js_break : JS X ro (.Break pos) tBreak mBreak := ⟨ps_break, ss_break⟩
theorem js_cont : JS X ro (.Continue pos) tCont mCont := ⟨ps_continue, ss_cont⟩
theorem js_never : JS X ro st tNever mNever := ⟨ps_never, ss_never⟩
end
end VS

/-! displays, targets, what is walked, for, comprehensions -/
namespace VS
open PySem PySem.Spec L2
open Evl (Ex Ex.refl Ex.trans Ex.new)

/-! ### displays -/
def datas : List C → Option (List D)
  | [] => some []
  | .d x :: r => (datas r).map (x :: ·)
  | _ => none
theorem datas_reps {K : PySem.W.Frag} {Hs H : Hp} : ∀ {cs : List C} {vs : List V} {xs : List D}, datas cs = some xs → vs.length = cs.length → (∀ (k : Nat) (v : V) (c : C), vs[k]? = some v → cs[k]? = some c → ∃ o, Rep K Hs H v c o) → Dts K Hs vs xs
  | [], [], xs, h, _, _ => by cases h; exact .nil
  | c :: cs, v :: vs, xs, h, hl, hr => by
    unfold datas at h
    split at h
    · rename_i e; cases e
    · rename_i x r e
      cases e
      cases e2 : datas cs with
      | none => rw [e2] at h; cases h
      | some ys =>
        rw [e2] at h
        cases h
        obtain ⟨o, r0⟩ := hr 0 v _ rfl rfl
        exact .cons r0.data (datas_reps e2 (by simpa using hl) fun k v' c' h1 h2 => hr (k + 1) v' c' (by simpa using h1) (by simpa using h2))
    · cases h
  | [], _ :: _, _, _, hl, _ => by simp at hl
  | _ :: _, [], _, _, hl, _ => by simp at hl
def dispT : List C → Option C := fun cs => match datas cs with
  | some xs => if xs.length ≤ 100000 then some (.d (.tup xs)) else none
  | none => none
def dispL : List C → Option C := fun cs => match datas cs with
  | some xs => if xs.length ≤ 100000 then some (.l xs) else none
  | none => none
theorem ops_dispT {K : PySem.W.Frag} : OpS K (fun vs H Q => vs.length ≤ sizeLine ∧ ∀ p, H p = none → Q (.ref p) (upd H p (.tup vs))) dispT := by
  intro Hs H vs cs s hl ha c hc Q q
  unfold dispT at hc
  split at hc
  · rename_i xs e
    split at hc
    · rename_i hz
      cases hc
      have d := datas_reps e hl ha
      exact ⟨by rw [d.len]; exact Evl.sz_of hz, fin_t s q d⟩
    · cases hc
  · cases hc
theorem ops_dispL {K : PySem.W.Frag} : OpS K (fun vs H Q => vs.length ≤ sizeLine ∧ ∀ p, H p = none → Q (.ref p) (upd H p (.lst vs))) dispL := by
  intro Hs H vs cs s hl ha c hc Q q
  unfold dispL at hc
  split at hc
  · rename_i xs e
    split at hc
    · rename_i hz
      cases hc
      have d := datas_reps e hl ha
      exact ⟨by rw [d.len]; exact Evl.sz_of hz, fin_l s q d⟩
    · cases hc
  · cases hc
theorem je_tup {X : Cx} {es : List Expr} {t : TA} {m : MA} {x1} {pos : Pos} (h : JA X es t m) : JE X (.Tuple es x1 pos) (tTup t) (mOp dispT m) := ⟨pe_tup h.pa, se_op ops_dispT h.sa⟩
theorem je_lst {X : Cx} {es : List Expr} {t : TA} {m : MA} {pos : Pos} (h : JA X es t m) : JE X (.List es pos) (tLst t) (mOp dispL m) := ⟨pe_lst h.pa, se_op ops_dispL h.sa⟩

/-! ### targets -/
abbrev MTg := D → Ls → Option Ls
/-- js: the slots that are stored -/
def ST (K : PySem.W.Frag) (js : List Nat) (g : TG) (mt : MTg) : Prop := ∀ (Z : Stat), (∀ j ∈ js, j ∉ Z.ro) → ∀ (σ : L2.St) (H : Hp) (L : Ls) (T : List (V × C)) (v : V) (x : D), SR K Z σ H L (T ++ [(v, .d x)]) → ∀ L', mt x L = some L' →
  ∀ Q : L2.St → Hp → Prop, (∀ σ' H', SR K Z σ' H' L' T → (∀ i, i ∉ js → σ'[i]? = σ[i]?) → σ'.length = σ.length → Q σ' H') → g v σ H Q
def STs (K : PySem.W.Frag) (js : List Nat) (g : TGs) (mt : List D → Ls → Option Ls) : Prop := ∀ (Z : Stat), (∀ j ∈ js, j ∉ Z.ro) → ∀ (σ : L2.St) (H : Hp) (L : Ls) (T : List (V × C)) (vs : List V) (xs : List D), vs.length = xs.length → SR K Z σ H L (T ++ (vs.zip (xs.map C.d)).reverse) → ∀ L', mt xs L = some L' →
  ∀ Q : L2.St → Hp → Prop, (∀ σ' H', SR K Z σ' H' L' T → (∀ i, i ∉ js → σ'[i]? = σ[i]?) → σ'.length = σ.length → Q σ' H') → g vs σ H Q
structure JTg (X : Cx) (e : Expr) (js : List Nat) (g : TG) (mt : MTg) : Prop where
  pg : PG X e g
  st : ST X.K js g mt
structure JTgs (X : Cx) (es : List Expr) (js : List Nat) (g : TGs) (mt : List D → Ls → Option Ls) : Prop where
  pgs : PGs X es g
  st : STs X.K js g mt
def gSet (j : Nat) : MTg := fun x L => if j < L.length then some (L.set j (some (.d x))) else none
def gsNil : List D → Ls → Option Ls := fun xs L => match xs with
  | [] => some L
  | _ => none
def gsCons (m : MTg) (ms : List D → Ls → Option Ls) : List D → Ls → Option Ls := fun xs L => match xs with
  | x :: r => match m x L with
    | some L' => ms r L'
    | none => none
  | [] => none
def gUnp (n : Nat) (ms : List D → Ls → Option Ls) : MTg := fun x L => match x with
  | .tup xs => if xs.length = n then ms xs L else none
  | _ => none
section
variable {K : PySem.W.Frag}
theorem st_set {j : Nat} : ST K [j] (gName j) (gSet j) := by
  intro Z hz σ H L T v x S L' hm Q q
  unfold gSet at hm
  split at hm
  · rename_i hl
    cases hm
    have hj : j < σ.length := by
      obtain ⟨_, _, S0⟩ := id S
      rw [← S0.len]; exact hl
    refine q _ _ (S.store hj (hz j (by simp))) (fun i hi => ?_) (List.length_set ..)
    rw [List.getElem?_set_ne (by simpa using Ne.symm (by simpa using hi))]
  · cases hm
theorem sts_nil : STs K [] gNil gsNil := by
  intro Z hz σ H L T vs xs hl S L' hm Q q
  unfold gsNil at hm
  split at hm
  · cases hm
    cases vs with
    | nil => exact ⟨rfl, q _ _ (by simpa using S) (fun _ _ => rfl) rfl⟩
    | cons _ _ => simp at hl
  · cases hm
theorem sts_cons {js ks : List Nat} {g : TG} {gs : TGs} {m : MTg} {ms : List D → Ls → Option Ls} (h : ST K js g m) (hs : STs K ks gs ms) : STs K (js ++ ks) (gCons g gs) (gsCons m ms) := by
  intro Z hz σ H L T vs xs hl S L' hm Q q
  unfold gsCons at hm
  split at hm
  · rename_i x r
    split at hm
    · rename_i L1 e1
      cases vs with
      | nil => simp at hl
      | cons v vr =>
        rw [List.map_cons, List.zip_cons_cons, List.reverse_cons, ← List.append_assoc] at S
        refine ⟨v, vr, rfl, h Z (fun j hj => hz j (List.mem_append_left _ hj)) σ H L _ v x S L1 e1 _ fun σ1 H1 S1 f1 l1 => ?_⟩
        refine hs Z (fun j hj => hz j (List.mem_append_right _ hj)) σ1 H1 L1 T vr r (by simpa using hl) S1 L' hm Q fun σ2 H2 S2 f2 l2 => q σ2 H2 S2 (fun i hi => ?_) (l2.trans l1)
        rw [List.mem_append, not_or] at hi
        exact (f2 i hi.2).trans (f1 i hi.1)
    · cases hm
  · cases hm
/-- the parts of data are pushed, the last first -/
theorem SRw.pushAll {Z : Stat} {σ : L2.St} {H Hs : Hp} {L : Ls} : ∀ {vs : List V} {xs : List D} {T : List (V × C)} {w : Own}, SRw K Z σ H L T Hs w → Dts K Hs vs xs → ∃ w', SRw K Z σ H L (T ++ (vs.zip (xs.map C.d)).reverse) Hs w'
  | _, _, T, w, S, .nil => ⟨w, by simpa using S⟩
  | v :: vs, x :: xs, T, w, S, .cons h hs => by
    classical
    obtain ⟨w1, S1⟩ := SRw.pushAll S hs
    -- push (v, x) behind
    generalize hU : T ++ (vs.zip (xs.map C.d)).reverse = U at S1
    refine ⟨cutOwn w1 U.length, ?_⟩
    have e : T ++ ((v :: vs).zip ((x :: xs).map C.d)).reverse = U ++ [(v, .d x)] := by
      rw [List.map_cons, List.zip_cons_cons, List.reverse_cons, ← List.append_assoc, hU]
    rw [e]
    have S2 := S1.cut U.length
    rw [List.take_length] at S2
    refine ⟨S2.grow, S2.sub, S2.news, S2.own, S2.slot, fun i vc hi => ?_, S2.frame, S2.rd, S2.len, S2.tups⟩
    by_cases hlt : i < U.length
    · rw [List.getElem?_append_left hlt] at hi
      exact S2.tmp i vc hi
    · rw [List.getElem?_append_right (by omega)] at hi
      have : i - U.length = 0 := by
        cases q : i - U.length with
        | zero => rfl
        | succ m => rw [q] at hi; simp at hi
      rw [this] at hi
      have e' : (v, C.d x) = vc := Option.some.inj hi
      subst e'
      exact ⟨[], .d h, fun a ha => absurd ha (by simp)⟩
theorem st_unp {js : List Nat} {n : Nat} {gs : TGs} {ms : List D → Ls → Option Ls} (h : STs K js gs ms) : ST K js (gTup K n gs) (gUnp n ms) := by
  intro Z hz σ H L T v x S L' hm Q q
  unfold gUnp at hm
  split at hm
  · rename_i xs
    split at hm
    · rename_i hn
      obtain ⟨Hs, w, S0⟩ := S
      obtain ⟨o, r, _⟩ := S0.tmp T.length (v, .d (.tup xs)) (by rw [List.getElem?_append_right (Nat.le_refl _), Nat.sub_self]; rfl)
      obtain ⟨a, vs, rfl, h1, h2⟩ := r.asT S0.sub rfl
      refine ⟨a, vs, rfl, h1, by rw [h2.len, hn], ?_⟩
      have S1 := S0.drop T.length
      rw [List.take_left] at S1
      obtain ⟨w2, S2⟩ := S1.pushAll h2
      exact h Z hz σ H L T vs xs h2.len ⟨Hs, w2, S2⟩ L' hm Q q
    · cases hm
  · cases hm
end
section
variable {X : Cx} {e : Expr} {es : List Expr} {js ks : List Nat} {g : TG} {gs : TGs} {m : MTg} {ms : List D → Ls → Option Ls} {pos : Pos}
theorem jt_set {x : PySem.Str} (j : Nat) (hN : X.N.Nodup) (hi : X.N[j]? = some x := by rfl) (hx : Loc X.env.scope x := by first | exact .inl rfl | exact .inr rfl) (hf : X.fn x = true ∨ X.env.scope.names.lookup x = some .local := by first | exact .inl rfl | exact .inr rfl | assumption) :
    JTg X (.Name x pos) [j] (gName j) (gSet j) := ⟨pg_name hN hi hx hf, st_set⟩
theorem jts_nil : JTgs X [] [] gNil gsNil := ⟨pgs_nil, sts_nil⟩
theorem jts_cons (h : JTg X e js g m) (hs : JTgs X es ks gs ms) (hp : (assignEach (e :: es) X.env).map (·.2) = assign e X.env :: (assignEach es X.env).map (·.2) := by rfl) : JTgs X (e :: es) (js ++ ks) (gCons g gs) (gsCons m ms) := ⟨pgs_cons h.pg hs.pgs hp, sts_cons h.st hs.st⟩
theorem jt_unp {k : Nat} {n : Nat} (hc : X.calm = true) (h : JTgs X es js gs ms) (hn : (assignEach es X.env).length = n := by rfl) (hst : (assignEach es X.env).findIdx? (·.1) = none := by rfl) : JTg X (.Tuple es k pos) js (gTup X.K n gs) (gUnp n ms) := ⟨pg_tup hc h.pgs hn hst, st_unp h.st⟩
end
/-- a, b = a tuple -/
def mUnp (mt : MTg) (e : ME) : MS := fun L => match e L with
  | some (.d x, L') => match mt x L' with
    | some L2 => some (.nx L2)
    | none => none
  | _ => none
theorem ss_unp {K : PySem.W.Frag} {ro js : List Nat} {te : TE} {e : ME} {g : TG} {mt : MTg} (h : SE K te e) (hg : ST K js g mt) (hj : ∀ j ∈ js, j ∉ ro) : SS K ro (tAsg te g) (mUnp mt e) := fun Z hz σ H L T S out hm D q => by
  unfold mUnp at hm
  split at hm
  · rename_i x L1 e1
    split at hm
    · rename_i L2 e2
      cases hm
      exact h Z σ H L T S _ L1 e1 _ fun v H' S' => hg Z (by rw [hz]; exact hj) σ H' L1 T v x S' L2 e2 _ fun σ2 H2 S2 _ _ => q σ2 H2 S2
    · cases hm
  · cases hm
theorem js_unp {X : Cx} {ro js : List Nat} {tg e : Expr} {te : TE} {me : ME} {g : TG} {mt : MTg} {pos : Pos} (h : JE X e te me) (hg : JTg X tg js g mt) (hj : ∀ j ∈ js, j ∉ ro := by decide) (hs : swapsWithSole [tg] e pos.line X.env = pure false := by rfl)
    (hw : swappedStores [tg] e X.env = pure none := by rfl) (h1 : (assignEach [tg] X.env).map (·.2) = [assign tg X.env] := by rfl) : JS X ro (.Assign [tg] e pos) (tAsg te g) (mUnp mt me) := ⟨ps_asg h.pe hg.pg hs hw h1, ss_unp h.se hg.st hj⟩

/-! ### what is walked -/
def Walk (B : Hp) (K : PySem.W.Frag) (J : It) (xs : List D) (U : List (V × C)) : Prop := ∀ (Z : Stat) (σ : L2.St) (H : Hp) (L : Ls) (T T2 : List (V × C)) (i : Nat), Z.Hs0 = B → SR K Z σ H L (T ++ U ++ T2) →
  (∀ x, xs[i]? = some x → J.go i H ∧ ∀ v H', J.yld i H v H' → SR K Z σ H' L (T ++ U ++ T2 ++ [(v, .d x)])) ∧ (xs.length ≤ i → J.stop i H)
abbrev MI := Ls → Option (List D × Ls)
def SIat (K : PySem.W.Frag) (wi : TI) (mi : MI) (Z : Stat) (σ : L2.St) : Prop := ∀ (H : Hp) (L : Ls) (T : List (V × C)), SR K Z σ H L T → ∀ xs L', mi L = some (xs, L') →
  ∀ R : It → Hp → Prop, (∀ J H' U, SR K Z σ H' L' (T ++ U) → Walk Z.Hs0 K J xs U → R J H') → wi σ H R
def SI (K : PySem.W.Frag) (wi : TI) (mi : MI) : Prop := ∀ (Z : Stat) (σ : L2.St), SIat K wi mi Z σ
def SEat (K : PySem.W.Frag) (te : TE) (m : ME) (Z : Stat) (σ : L2.St) : Prop := ∀ (H : Hp) (L : Ls) (T : List (V × C)), SR K Z σ H L T → ∀ c L', m L = some (c, L') →
  ∀ Q : VK, (∀ v H', SR K Z σ H' L' (T ++ [(v, c)]) → Q v H') → te σ H Q
def SSat (K : PySem.W.Frag) (t : TS) (m : MS) (Z : Stat) (σ : L2.St) : Prop := ∀ (H : Hp) (L : Ls) (T : List (V × C)), SR K Z σ H L T → ∀ out, m L = some out →
  ∀ D : Ends, EndOk K Z D T out → t D σ H
structure JI (X : Cx) (tg iter : Expr) (wi : TI) (mi : MI) : Prop where
  pi : PI X tg iter wi
  si : SI X.K wi mi
/-- a list or a tuple -/
def iSeq (K : PySem.W.Frag) (tl : TE) : TI := fun σ H R => tl σ H fun x H1 => ∃ a, x = .ref a ∧ (((∃ xs, SqL K H1 a xs) ∧ R (Itl K a) H1) ∨ ((∃ xs, SqT K H1 a xs) ∧ R (Itt K a) H1))
theorem pi_seq {X : Cx} {tg l : Expr} {tl : TE} (hl : PE X l tl) : PI X tg l (iSeq X.K tl) := by
  refine ⟨fun pins s σ H R I h => ?_⟩
  refine thn (hl.run pins s σ H _ I h) fun v s1 ⟨x, H1, I1, r1, a, ex, q⟩ => ?_
  subst ex
  cases r1
  have fp : ∀ b ∈ [s1.heap.objs.size], FpOk X pins H1 b := fun b hb => by
    rw [List.mem_singleton.mp hb]
    exact I1.fpOk (Nat.le_refl _) (I1.hok.fresh (Nat.le_refl _))
  have kp : ∀ (o : Obj), ∀ b u, s1.heap.get? b = some u → (s1.heap.push o).get? b = some u := fun o b u e => Heap.get?_push_of_some _ e
  rcases q with ⟨⟨xs, hx⟩, q⟩ | ⟨⟨xs, hx⟩, q⟩
  · obtain ⟨its, _, p, _⟩ := I1.list hx
    exact wpAny_pyIter_list p.isList ⟨s1.heap.objs.size, _, _, _, H1, rfl, I1.kept (t' := s1.toks) (kp _), turn_list a _, ⟨_, Heap.get?_push_size _ rfl, rfl, rfl⟩, fp, q⟩
  · obtain ⟨its, _, p, _⟩ := I1.tuple hx
    exact wpAny_pyIter_tuple (show s1.heap.IsTuple a its.toArray from p) ⟨s1.heap.objs.size, _, _, _, H1, rfl, I1.kept (t' := s1.toks) (kp _), turn_tuple a _, ⟨_, Heap.get?_push_size _ rfl, rfl, rfl⟩, fp, q⟩
def asSeqD : C → Option (List D)
  | .d (.lst xs) => some xs
  | .d (.tup xs) => some xs
  | _ => none
theorem asSeqD_inv {y : D} {xs : List D} (h : asSeqD (.d y) = some xs) : y = .lst xs ∨ y = .tup xs := by
  unfold asSeqD at h
  split at h
  · rename_i e; cases e; cases h; exact .inl rfl
  · rename_i e; cases e; cases h; exact .inr rfl
  · cases h
def miSeq (e : ME) : MI := fun L => match e L with
  | some (c, L') => match asSeqD (.d (frz c)) with
    | some xs => some (xs, L')
    | none => none
  | none => none
theorem SRw.mid {K : PySem.W.Frag} {Z : Stat} {σ : L2.St} {H Hs : Hp} {L : Ls} {T T2 : List (V × C)} {vc : V × C} {w : Own} (S : SRw K Z σ H L (T ++ [vc] ++ T2) Hs w) : ∃ o, Rep K Hs H vc.1 vc.2 o := by
  obtain ⟨o, r, _⟩ := S.tmp T.length vc (by rw [List.append_assoc, List.getElem?_append_right (Nat.le_refl _), Nat.sub_self]; rfl)
  exact ⟨o, r⟩
theorem walk_l {B : Hp} {K : PySem.W.Frag} {a : Addr} {xs : List D} : Walk B K (Itl K a) xs [(.ref a, .d (.lst xs))] := by
  intro Z σ H L T T2 i _ S
  obtain ⟨Hs, w, S0⟩ := S
  obtain ⟨o, r⟩ := S0.mid
  obtain ⟨a', vs, e, h1, h2⟩ := r.asL S0.sub rfl
  cases e
  refine ⟨fun x hx => ?_, fun hi => ⟨vs, h1, by rw [h2.len]; exact hi⟩⟩
  obtain ⟨v, hv, hd⟩ := h2.get hx
  refine ⟨⟨vs, v, h1, hv⟩, fun v' H' y => ?_⟩
  obtain ⟨e, y⟩ := y
  subst e
  have e2 := y vs h1
  rw [hv] at e2
  cases e2
  have q := S0.result (n := (T ++ [(V.ref a, C.d (.lst xs))] ++ T2).length) (Nat.le_refl _) (Grow.refl S0.sub) (.d hd) (fun a ha => absurd ha (by simp)) fun _ _ e => .inl e
  rwa [List.take_length] at q
theorem walk_t {B : Hp} {K : PySem.W.Frag} {a : Addr} {xs : List D} : Walk B K (Itt K a) xs [(.ref a, .d (.tup xs))] := by
  intro Z σ H L T T2 i _ S
  obtain ⟨Hs, w, S0⟩ := S
  obtain ⟨o, r⟩ := S0.mid
  obtain ⟨a', vs, e, h1, h2⟩ := r.asT S0.sub rfl
  cases e
  refine ⟨fun x hx => ?_, fun hi => ⟨vs, h1, by rw [h2.len]; exact hi⟩⟩
  obtain ⟨v, hv, hd⟩ := h2.get hx
  refine ⟨⟨vs, v, h1, hv⟩, fun v' H' y => ?_⟩
  obtain ⟨e, y⟩ := y
  subst e
  have e2 := y vs h1
  rw [hv] at e2
  cases e2
  have q := S0.result (n := (T ++ [(V.ref a, C.d (.tup xs))] ++ T2).length) (Nat.le_refl _) (Grow.refl S0.sub) (.d hd) (fun a ha => absurd ha (by simp)) fun _ _ e => .inl e
  rwa [List.take_length] at q
theorem si_seq {K : PySem.W.Frag} {tl : TE} {e : ME} (h : SE K tl e) : SI K (iSeq K tl) (miSeq e) := by
  intro Z σ H L T S xs L' hm R q
  unfold miSeq at hm
  split at hm
  · rename_i c L1 e1
    split at hm
    · rename_i xs' e2
      cases hm
      refine h Z σ H L T S c L' e1 _ fun v H' S' => ?_
      have S1 := S'.freezeTop
      obtain ⟨Hs, o, s0, r⟩ := S1.top
      rcases asSeqD_inv e2 with e3 | e3
      · rw [e3] at r S1
        obtain ⟨a, vs, rfl, h1, h2⟩ := r.asL s0 rfl
        exact ⟨a, rfl, .inl ⟨⟨vs, h1⟩, q _ _ _ S1 walk_l⟩⟩
      · rw [e3] at r S1
        obtain ⟨a, vs, rfl, h1, h2⟩ := r.asT s0 rfl
        exact ⟨a, rfl, .inr ⟨⟨vs, h1⟩, q _ _ _ S1 walk_t⟩⟩
    · cases hm
  · cases hm
theorem ji_seq {X : Cx} {tg l : Expr} {tl : TE} {e : ME} (h : JE X l tl e) : JI X tg l (iSeq X.K tl) (miSeq e) := ⟨pi_seq h.pe, si_seq h.se⟩
/-- range -/
def rngD (lo : Int) : Nat → List D
  | 0 => []
  | n + 1 => rngD lo n ++ [.int (lo + n)]
theorem rngD_len (lo : Int) : ∀ n, (rngD lo n).length = n
  | 0 => rfl
  | n + 1 => by rw [rngD, List.length_append, rngD_len lo n]; rfl
theorem rngD_get (lo : Int) : ∀ (n i : Nat), i < n → (rngD lo n)[i]? = some (.int (lo + i))
  | n + 1, i, h => by
    rw [rngD]
    by_cases hi : i < n
    · rw [List.getElem?_append_left (by rw [rngD_len]; exact hi)]
      exact rngD_get lo n i hi
    · have : i = n := by omega
      subst this
      rw [List.getElem?_append_right (by rw [rngD_len]; exact Nat.le_refl _), rngD_len, Nat.sub_self]
      rfl
theorem walk_r {B : Hp} {K : PySem.W.Frag} {lo : Int} {n : Nat} : Walk B K (Itr lo n) (rngD lo n) [] := by
  intro Z σ H L T T2 i _ S
  refine ⟨fun x hx => ?_, fun hi => by rw [rngD_len] at hi; exact hi⟩
  have hi : i < n := by
    have := (List.getElem?_eq_some_iff.mp hx).1
    rw [rngD_len] at this
    exact this
  rw [rngD_get lo n i hi] at hx
  cases hx
  refine ⟨hi, fun v H' y => ?_⟩
  obtain ⟨e1, e2⟩ := y
  subst e1 e2
  exact S.pushC fun _ => .int _
def miR1 (m : MA) : MI := fun L => match m L with
  | some (avs, L') => match conts L' avs with
    | some [.d (.int j)] => if -(2 ^ 62) ≤ j ∧ j < 2 ^ 62 then some (rngD 0 j.toNat, L') else none
    | _ => none
  | none => none
def miR2 (m : MA) : MI := fun L => match m L with
  | some (avs, L') => match conts L' avs with
    | some [.d (.int i), .d (.int j)] => if -(2 ^ 62) ≤ i ∧ i < 2 ^ 62 ∧ -(2 ^ 62) ≤ j ∧ j < 2 ^ 62 then some (rngD i (j - i).toNat, L') else none
    | _ => none
  | none => none
theorem SR.argInt {K : PySem.W.Frag} {Z : Stat} {σ : L2.St} {H : Hp} {L : Ls} {T tv : List (V × C)} {avs : List AV} {vs : List V} {cs : List C} (S : SR K Z σ H L (T ++ tv)) (ha : AvOk σ avs vs tv) (hc : conts L avs = some cs) {k : Nat} {i : Int} (h : cs[k]? = some (.d (.int i))) : vs[k]? = some (.int i) := by
  obtain ⟨Hs, w, S0⟩ := S
  have hk : k < vs.length := by
    rw [ha.len, ← conts_len hc]
    exact (List.getElem?_eq_some_iff.mp h).1
  obtain ⟨o, t, _, r, _⟩ := S0.args ha hc k vs[k] _ (List.getElem?_eq_getElem hk) h
  rw [List.getElem?_eq_getElem hk, r.int]
theorem si_r1 {K : PySem.W.Frag} {ta : TA} {m : MA} (h : SA K ta m) : SI K (iRng1 ta) (miR1 m) := by
  intro Z σ H L T S xs L' hm R q
  unfold miR1 at hm
  split at hm
  · rename_i avs L1 e1
    split at hm
    · rename_i j e2
      split at hm
      · rename_i hj
        cases hm
        refine h Z σ H L T S avs L' e1 _ fun vs H' tv S1 a1 => ?_
        have h1 := S1.argInt a1 e2 (k := 0) rfl
        have hl : vs.length = 1 := by rw [a1.len, ← conts_len e2]; rfl
        match vs, hl, h1 with
        | [x], _, h1 =>
          have ex : x = .int j := Option.some.inj h1
          subst ex
          exact ⟨j, rfl, hj.1, hj.2, q _ H' [] (by rw [List.append_nil]; exact S1.pop) walk_r⟩
      · cases hm
    · cases hm
  · cases hm
theorem si_r2 {K : PySem.W.Frag} {ta : TA} {m : MA} (h : SA K ta m) : SI K (iRng2 ta) (miR2 m) := by
  intro Z σ H L T S xs L' hm R q
  unfold miR2 at hm
  split at hm
  · rename_i avs L1 e1
    split at hm
    · rename_i i j e2
      split at hm
      · rename_i hj
        cases hm
        refine h Z σ H L T S avs L' e1 _ fun vs H' tv S1 a1 => ?_
        have h1 := S1.argInt a1 e2 (k := 0) rfl
        have h2 := S1.argInt a1 e2 (k := 1) rfl
        have hl : vs.length = 2 := by rw [a1.len, ← conts_len e2]; rfl
        match vs, hl, h1, h2 with
        | [x, y], _, h1, h2 =>
          have ex : x = .int i := Option.some.inj h1
          have ey : y = .int j := Option.some.inj h2
          subst ex ey
          exact ⟨i, j, rfl, hj, q _ H' [] (by rw [List.append_nil]; exact S1.pop) walk_r⟩
      · cases hm
    · cases hm
  · cases hm
section
variable {X : Cx} {tg a b : Expr} {ta : TA} {m : MA} {p pos : Pos}
theorem ji_r1 (hg : Gl X "range") (hm : X.mg "range" = none) (ha : JA X [a] ta m) (hs : starEach [a] X.env = [(false, eval a X.env)] := by rfl) : JI X tg (.Call (.Name "range" p) [a] [] pos) (iRng1 ta) (miR1 m) := ⟨pi_range1 hg hm ha.pa hs, si_r1 ha.sa⟩
theorem ji_r2 (hg : Gl X "range") (hm : X.mg "range" = none) (ha : JA X [a, b] ta m) (hs : starEach [a, b] X.env = [(false, eval a X.env), (false, eval b X.env)] := by rfl) (hs2 : starEach [b] X.env = [(false, eval b X.env)] := by rfl) : JI X tg (.Call (.Name "range" p) [a, b] [] pos) (iRng2 ta) (miR2 m) := ⟨pi_range2 hg hm ha.pa hs hs2, si_r2 ha.sa⟩
end

/-! ### for -/
def forM (mt : MTg) (body : MS) : List D → Ls → Option Out
  | [], L => some (.nx L)
  | x :: xs, L => match mt x L with
    | some L1 => match body L1 with
      | some (.nx L2) => forM mt body xs L2
      | some (.ct L2) => forM mt body xs L2
      | some (.bk L2) => some (.nx L2)
      | some (.rt c L2) => some (.rt c L2)
      | none => none
    | none => none
def mFor (mi : MI) (mt : MTg) (body : MS) : MS := fun L => match mi L with
  | some (xs, L') => forM mt body xs L'
  | none => none
def squ (w : Own) (n m : Nat) : Own := fun a => if w a = some (.inr m) then some (.inr n) else if w a = some (.inr n) then none else w a
theorem SR.squeeze {K : PySem.W.Frag} {Z : Stat} {σ : L2.St} {H : Hp} {L : Ls} {T U : List (V × C)} {vc : V × C} (S : SR K Z σ H L (T ++ U ++ [vc])) : SR K Z σ H L (T ++ [vc]) := by
  obtain ⟨Hs, w, S⟩ := S
  let n := T.length
  let m := (T ++ U).length
  refine ⟨Hs, squ w n m, S.grow, S.sub, S.news, fun a t e => ?_, fun i c e => ?_, fun i x e => ?_, S.frame, S.rd, S.len, S.tups⟩
  · unfold squ at e
    split at e
    · rename_i q; exact S.own a _ q
    · split at e
      · cases e
      · exact S.own a _ e
  · obtain ⟨v, o, h1, h2, h3⟩ := S.slot i c e
    refine ⟨v, o, h1, h2, fun a ha => ?_⟩
    unfold squ
    rw [if_neg (by rw [h3 a ha]; simp), if_neg (by rw [h3 a ha]; simp)]
    exact h3 a ha
  · by_cases hi : i < T.length
    · rw [List.getElem?_append_left hi] at e
      obtain ⟨o, h2, h3⟩ := S.tmp i x (by rw [List.append_assoc, List.getElem?_append_left hi]; exact e)
      refine ⟨o, h2, fun a ha => ?_⟩
      unfold squ
      rw [if_neg (by rw [h3 a ha]; intro z; have := Sum.inr.inj (Option.some.inj z); simp only [m, List.length_append] at this; omega), if_neg (by rw [h3 a ha]; intro z; have := Sum.inr.inj (Option.some.inj z); omega)]
      exact h3 a ha
    · rw [List.getElem?_append_right (by omega)] at e
      have h0 : i - T.length = 0 := by
        cases q : i - T.length with
        | zero => rfl
        | succ k => rw [q] at e; simp at e
      rw [h0] at e
      have e' : vc = x := Option.some.inj e
      subst e'
      have hin : i = n := by show i = T.length; omega
      subst hin
      obtain ⟨o, h2, h3⟩ := S.tmp m vc (by rw [List.getElem?_append_right (Nat.le_refl _), Nat.sub_self]; rfl)
      refine ⟨o, h2, fun a ha => ?_⟩
      unfold squ
      rw [if_pos (h3 a ha)]
theorem for_at {K : PySem.W.Frag} {ro js : List Nat} {wi : TI} {mi : MI} {g : TG} {mt : MTg} {tb : TS} {body : MS} {Z : Stat} {σ : L2.St} (hz : Z.ro = ro) (hi : SIat K wi mi Z σ) (hg : ST K js g mt) (hj : ∀ j ∈ js, j ∉ ro) (hb : SS K ro tb body) : SSat K (tFor wi g tb) (mFor mi mt body) Z σ := fun H L T S out hm D q => by
  unfold mFor at hm
  split at hm
  · rename_i xs L1 e1
    refine hi H L T S xs L1 e1 _ fun J H1 U S1 wk => ?_
    refine ⟨fun i m σ' H' => ∃ L', m = xs.length - i ∧ i ≤ xs.length ∧ SR K Z σ' H' L' (T ++ U) ∧ forM mt body (xs.drop i) L' = some out, ⟨xs.length, L1, by simp, Nat.zero_le _, S1, hm⟩, fun i m σ' H' ⟨L', em, hle, S2, hf⟩ => ?_⟩
    obtain ⟨w1, w2⟩ := wk Z σ' H' L' T [] i rfl (by rw [List.append_nil]; exact S2)
    by_cases hlt : i < xs.length
    · have hx : xs[i]? = some xs[i] := List.getElem?_eq_getElem hlt
      obtain ⟨go, yl⟩ := w1 _ hx
      rw [List.drop_eq_getElem_cons hlt] at hf
      unfold forM at hf
      cases e2 : mt xs[i] L' with
      | none => rw [e2] at hf; cases hf
      | some L2 =>
        rw [e2] at hf
        simp only at hf
        cases e3 : body L2 with
        | none => rw [e3] at hf; cases hf
        | some o2 =>
          rw [e3] at hf
          refine .inr ⟨go, fun σ3 H3 => ∃ L3, SR K Z σ3 H3 L3 (T ++ U) ∧ forM mt body (xs.drop (i + 1)) L3 = some out, fun σ3 H3 ⟨L3, S3, f3⟩ => ⟨m - 1, by omega, L3, by omega, hlt, S3, f3⟩, fun v H3 y => ?_⟩
          have S3 := yl v H3 y
          rw [List.append_nil] at S3
          refine hg Z (by rw [hz]; exact hj) σ' H3 L' (T ++ U) v _ S3 L2 e2 _ fun σ4 H4 S4 _ _ => ?_
          refine hb Z hz σ4 H4 L2 (T ++ U) S4 o2 e3 _ ?_
          cases o2 with
          | nx L5 => exact fun σ5 H5 S5 => ⟨L5, S5, hf⟩
          | ct L5 => exact fun σ5 H5 S5 => ⟨L5, S5, hf⟩
          | bk L5 =>
            cases hf
            exact fun σ5 H5 S5 => q σ5 H5 S5.pop
          | rt c L5 =>
            cases hf
            exact fun σ5 v5 H5 S5 => q σ5 v5 H5 S5.squeeze
    · have ei : i = xs.length := by omega
      subst ei
      rw [List.drop_length] at hf
      cases hf
      exact .inl ⟨w2 (Nat.le_refl _), q σ' H' S2.pop⟩
  · cases hm
theorem ss_for {K : PySem.W.Frag} {ro js : List Nat} {wi : TI} {mi : MI} {g : TG} {mt : MTg} {tb : TS} {body : MS} (hi : SI K wi mi) (hg : ST K js g mt) (hj : ∀ j ∈ js, j ∉ ro) (hb : SS K ro tb body) : SS K ro (tFor wi g tb) (mFor mi mt body) := fun Z hz σ => for_at hz (hi Z σ) hg hj hb
theorem js_for {X : Cx} {ro js : List Nat} {tg iter : Expr} {body : List Stmt} {wi : TI} {mi : MI} {g : TG} {mt : MTg} {tb : TS} {mb : MS} {pos : Pos} (hc : X.calm = true) (hp : PassesOwn (model X.prog X.w) X.A X.env X.xe) (hi : JI X tg iter wi mi) (hg : JTg X tg js g mt) (hb : JSs X ro body tb mb) (hj : ∀ j ∈ js, j ∉ ro := by decide)
    (hs : ∀ x, foldedSetIterable iter X.env x = pure x := by intro _; rfl) : JS X ro (.For tg iter body [] pos) (tFor wi g tb) (mFor mi mt mb) := ⟨ps_for hp hc hi.pi hg.pg hb.ps hs, ss_for hi.si hg.st hj hb.ss⟩
end VS

/-! list comprehensions -/
namespace VS
open PySem PySem.Spec L2
open Evl (Ex Ex.refl Ex.trans Ex.new)

def wipeL (L : Ls) : List Nat → Ls
  | [] => L
  | v :: vs => (wipeL L vs).set v none
theorem wipeL_length (L : Ls) : ∀ vs : List Nat, (wipeL L vs).length = L.length
  | [] => rfl
  | v :: vs => by unfold wipeL; rw [List.length_set, wipeL_length L vs]
theorem wipeL_some {L : Ls} {i : Nat} {x : C} : ∀ {vs : List Nat}, (wipeL L vs)[i]? = some (some x) → L[i]? = some (some x) ∧ i ∉ vs
  | [], h => ⟨h, by simp⟩
  | v :: vs, h => by
    unfold wipeL at h
    by_cases hi : v = i
    · subst hi
      by_cases hv : v < (wipeL L vs).length
      · rw [List.getElem?_set_self hv] at h; cases h
      · rw [List.getElem?_eq_none (by simpa using hv)] at h; cases h
    · rw [List.getElem?_set_ne hi] at h
      obtain ⟨h1, h2⟩ := wipeL_some h
      exact ⟨h1, by simp only [List.mem_cons, not_or]; exact ⟨fun e => hi e.symm, h2⟩⟩
theorem wipe_in {σ : L2.St} {i : Nat} : ∀ {vs : List Nat}, i ∈ vs → i < σ.length → (wipe σ vs)[i]? = some none
  | v :: vs, h, hl => by
    unfold wipe
    by_cases e : v = i
    · subst e
      rw [List.getElem?_set_self (by rw [wipe_length]; exact hl)]
    · rw [List.getElem?_set_ne e]
      exact wipe_in ((List.mem_cons.mp h).resolve_left fun z => e z.symm) hl
/-- wiping forgets what was stored into the wiped -/
theorem wipe_eq {σ σ' : L2.St} {vs : List Nat} (hl : σ'.length = σ.length) (h : ∀ i, i ∉ vs → σ'[i]? = σ[i]?) : wipe σ' vs = wipe σ vs := by
  apply List.ext_getElem?
  intro i
  by_cases hi : i ∈ vs
  · by_cases hb : i < σ.length
    · rw [wipe_in hi hb, wipe_in hi (by rw [hl]; exact hb)]
    · rw [List.getElem?_eq_none (by rw [wipe_length, hl]; omega), List.getElem?_eq_none (by rw [wipe_length]; omega)]
  · rw [wipe_out hi, wipe_out hi]
    exact h i hi
theorem wipe_wipe {σ : L2.St} {vs : List Nat} : wipe (wipe σ vs) vs = wipe σ vs := wipe_eq (wipe_length _ _) fun i hi => wipe_out hi

section
variable {K : PySem.W.Frag} {Z : Stat} {σ : L2.St} {H : Hp} {L : Ls} {T : List (V × C)}
/-- a block's own context -/
abbrev Stat.free (Z : Stat) : Stat := { Z with ro := [] }
theorem SRw.free {Hs : Hp} {w : Own} (S : SRw K Z σ H L T Hs w) : SRw K Z.free σ H L T Hs w := ⟨S.grow, S.sub, S.news, S.own, S.slot, S.tmp, S.frame, fun i hi => absurd hi (by simp), S.len, S.tups⟩
theorem SRw.wipe {Hs : Hp} {w : Own} (S : SRw K Z.free σ H L T Hs w) (vs : List Nat) : SRw K Z.free (wipe σ vs) H (wipeL L vs) T Hs w :=
  ⟨S.grow, S.sub, S.news, S.own, fun i c e => by
    obtain ⟨h1, h2⟩ := wipeL_some e
    obtain ⟨v, o, q1, q2, q3⟩ := S.slot i c h1
    exact ⟨v, o, by rw [wipe_out h2]; exact q1, q2, q3⟩, S.tmp, S.frame, fun i hi => absurd hi (by simp), by rw [wipeL_length, wipe_length]; exact S.len, S.tups⟩
/-- data in slots, kept beside -/
theorem SR.keep (S : SR K Z σ H L T) : ∀ vs : List Nat, ∃ U, SR K Z σ H L (T ++ U) ∧ ∀ i ∈ vs, ∀ x, L[i]? = some (some (.d x)) → ∃ v, σ[i]? = some (some v) ∧ (v, C.d x) ∈ U
  | [] => ⟨[], by rw [List.append_nil]; exact S, fun i hi => absurd hi (by simp)⟩
  | j :: vs => by
    obtain ⟨U, S1, h1⟩ := SR.keep S vs
    by_cases hd : ∃ x, L[j]? = some (some (.d x))
    · obtain ⟨x, hx⟩ := hd
      obtain ⟨v, hv, S2⟩ := S1.read hx
      refine ⟨U ++ [(v, .d x)], by rw [← List.append_assoc]; exact S2, fun i hi y hy => ?_⟩
      rcases List.mem_cons.mp hi with e | hi
      · subst e
        rw [hx] at hy
        cases hy
        exact ⟨v, hv, by simp⟩
      · obtain ⟨v', h2, h3⟩ := h1 i hi y hy
        exact ⟨v', h2, List.mem_append_left _ h3⟩
    · refine ⟨U, S1, fun i hi y hy => ?_⟩
      rcases List.mem_cons.mp hi with e | hi
      · subst e
        exact absurd ⟨y, hy⟩ hd
      · exact h1 i hi y hy
end
/-- behind a block: its own slots hold what they held, if it was data -/
def unwipe (L0 L : Ls) : List Nat → Ls
  | [] => L
  | v :: vs => (unwipe L0 L vs).set v (match L0[v]? with | some (some (.d x)) => some (.d x) | _ => none)
theorem unwipe_length (L0 L : Ls) : ∀ vs : List Nat, (unwipe L0 L vs).length = L.length
  | [] => rfl
  | v :: vs => by unfold unwipe; rw [List.length_set, unwipe_length L0 L vs]
theorem unwipe_some {L0 L : Ls} {i : Nat} {c : C} : ∀ {vs : List Nat}, (unwipe L0 L vs)[i]? = some (some c) → (i ∉ vs ∧ L[i]? = some (some c)) ∨ (i ∈ vs ∧ ∃ x, c = .d x ∧ L0[i]? = some (some (.d x)))
  | [], h => .inl ⟨by simp, h⟩
  | v :: vs, h => by
    unfold unwipe at h
    by_cases hi : v = i
    · subst hi
      by_cases hv : v < (unwipe L0 L vs).length
      · rw [List.getElem?_set_self hv] at h
        split at h
        · rename_i x e
          cases h
          exact .inr ⟨by simp, x, rfl, e⟩
        · cases h
      · rw [List.getElem?_eq_none (by simpa using hv)] at h; cases h
    · rw [List.getElem?_set_ne hi] at h
      rcases unwipe_some h with ⟨h1, h2⟩ | ⟨h1, h2⟩
      · exact .inl ⟨by simp only [List.mem_cons, not_or]; exact ⟨fun e => hi e.symm, h1⟩, h2⟩
      · exact .inr ⟨List.mem_cons_of_mem _ h1, h2⟩
section
variable {K : PySem.W.Frag} {Z : Stat} {σ : L2.St} {H : Hp} {L L0 : Ls} {T U : List (V × C)}
theorem SR.leave {vs : List Nat} (S : SR K Z.free (wipe σ vs) H L (T ++ U)) (hk : ∀ i ∈ vs, ∀ x, L0[i]? = some (some (.d x)) → ∃ v, σ[i]? = some (some v) ∧ (v, C.d x) ∈ U) (hr : ∀ i ∈ Z.ro, σ[i]? = Z.σ0[i]?) : SR K Z σ H (unwipe L0 L vs) (T ++ U) := by
  obtain ⟨Hs, w, S⟩ := S
  refine ⟨Hs, w, S.grow, S.sub, S.news, S.own, fun i c e => ?_, S.tmp, S.frame, hr, by rw [unwipe_length, S.len, wipe_length], S.tups⟩
  rcases unwipe_some e with ⟨h1, h2⟩ | ⟨h1, x, rfl, h2⟩
  · obtain ⟨v, o, q1, q2, q3⟩ := S.slot i c h2
    rw [wipe_out h1] at q1
    exact ⟨v, o, q1, q2, q3⟩
  · obtain ⟨v, hv, hm⟩ := hk i h1 x h2
    obtain ⟨k, hk2, e2⟩ := List.mem_iff_getElem.mp hm
    obtain ⟨o, r, _⟩ := S.tmp (T.length + k) (v, .d x) (by rw [List.getElem?_append_right (by omega), Nat.add_sub_cancel_left, List.getElem?_eq_getElem hk2, e2])
    exact ⟨v, [], hv, .d r.data, fun a ha => absurd ha (by simp)⟩
/-- a list on the way, at level n, grows by the last value -/
theorem SR.grow1 {p : Addr} {xs : List D} {v : V} {x : D} (S : SR K Z σ H L (T ++ [(.ref p, .l xs)] ++ [(v, .d x)])) : ∃ vs, H p = some (.lst vs) ∧ vs.length = xs.length ∧ SR K Z σ (upd H p (.lst (vs ++ [v]))) L (T ++ [(.ref p, .l (xs ++ [x]))]) := by
  obtain ⟨Hs, w, S⟩ := S
  obtain ⟨o, r, ho⟩ := S.tmp T.length (.ref p, .l xs) (by rw [List.append_assoc, List.getElem?_append_right (Nat.le_refl _), Nat.sub_self]; rfl)
  obtain ⟨o2, r2, _⟩ := S.tmp (T ++ [(V.ref p, C.l xs)]).length (v, .d x) (by rw [List.getElem?_append_right (Nat.le_refl _), Nat.sub_self]; rfl)
  cases r with
  | l h1 h2 =>
    rename_i vs
    have hp : w p = some (.inr T.length) := ho p (by simp)
    refine ⟨vs, h1, h2.len, Hs, w, S.grow, fun a u e => ?_, S.news, S.own, fun i c e => ?_, fun i vc e => ?_, fun a u e hP => ?_, S.rd, S.len, fun a zs e => by
      by_cases z : a = p
      · subst z; rw [upd_same] at e; cases e
      · rw [upd_ne z] at e; exact S.tups a zs e⟩
    · have : a ≠ p := fun z => by rw [z, (S.own p _ hp).1] at e; cases e
      rw [upd_ne this]
      exact S.sub a u e
    · obtain ⟨v', o', q1, q2, q3⟩ := S.slot i c e
      refine ⟨v', o', q1, q2.mono (Ex.refl _) fun a ha u q => ?_, q3⟩
      have : a ≠ p := fun z => by rw [← z, q3 a ha] at hp; cases hp
      rw [upd_ne this]; exact q
    · by_cases hi : i < T.length
      · rw [List.getElem?_append_left hi] at e
        obtain ⟨o', q2, q3⟩ := S.tmp i vc (by rw [List.append_assoc, List.getElem?_append_left hi]; exact e)
        refine ⟨o', q2.mono (Ex.refl _) fun a ha u q => ?_, q3⟩
        have : a ≠ p := fun z => by rw [← z, q3 a ha] at hp; have := Sum.inr.inj (Option.some.inj hp); omega
        rw [upd_ne this]; exact q
      · rw [List.getElem?_append_right (by omega)] at e
        have h0 : i - T.length = 0 := by
          cases q : i - T.length with
          | zero => rfl
          | succ k => rw [q] at e; simp at e
        rw [h0] at e
        have e' : (V.ref p, C.l (xs ++ [x])) = vc := Option.some.inj e
        subst e'
        have : i = T.length := by omega
        subst this
        exact ⟨[p], .l upd_same (h2.append (.cons r2.data .nil)), ho⟩
    · have : a ≠ p := fun z => by
        rcases (S.own p _ hp).2 with q | q
        · exact hP (z ▸ q)
        · rw [z, q] at e; cases e
      rw [upd_ne this]
      exact S.frame a u e hP
/-- a new list on the way -/
theorem SR.newList (S : SR K Z σ H L T) {p : Addr} (hp : H p = none) : SR K Z σ (upd H p (.lst [])) L (T ++ [(.ref p, .l [])]) := by
  obtain ⟨Hs, w, S⟩ := S
  have q := S.result (n := T.length) (Nat.le_refl _) (Grow.owned (u := .lst []) S.sub hp) (.l upd_same .nil) (fun a ha => by
    have e : a = p := by simpa using ha
    subst e
    exact ⟨hp, none_sub S.sub hp⟩) fun _ _ e => .inl e
  rwa [List.take_length] at q
end

/-! ### the mirror -/
def lcM (vs : List Nat) (mt : MTg) (tst : MT) (elt : ME) : List D → List D → Ls → Option (List D × Ls)
  | [], acc, L => some (acc, L)
  | x :: xs, acc, L => match mt x L with
    | some L1 => match tst L1 with
      | some (true, L2) => match elt L2 with
        | some (c, L3) => lcM vs mt tst elt xs (acc ++ [frz c]) (wipeL L3 vs)
        | none => none
      | some (false, L2) => lcM vs mt tst elt xs acc (wipeL L2 vs)
      | none => none
    | none => none
def mLc (vs : List Nat) (mi : MI) (mt : MTg) (tst : MT) (elt : ME) : ME := fun L => match mi L with
  | some (xs, L1) => if xs.length < sizeLine then match lcM vs mt tst elt xs [] (wipeL L1 vs) with
      | some (r, L2) => some (.l r, unwipe L1 L2 vs)
      | none => none
    else none
  | none => none
/-- no test -/
def tYesM : MT := fun L => some (true, L)
theorem st_yes {K : PySem.W.Frag} : STt K tYes tYesM := by
  intro Z σ H L T S b L' hm Q q
  cases hm
  exact q H S
theorem lc_at {K : PySem.W.Frag} {vs js : List Nat} {wi : TI} {mi : MI} {g : TG} {mt : MTg} {tt : TT} {tst : MT} {te : TE} {elt : ME} {Z : Stat} {σ : L2.St} (hi : SIat K wi mi Z σ) (hg : ST K js g mt) (hj : ∀ j ∈ js, j ∈ vs) (ht : STt K tt tst) (he : SE K te elt) : SEat K (tLc wi g tt te vs) (mLc vs mi mt tst elt) Z σ := by
  intro H L T S c L' hm Q q
  unfold mLc at hm
  split at hm
  · rename_i xs L1 e1
    split at hm
    · rename_i hz
      split at hm
      · rename_i r L2 e2
        cases hm
        refine hi H L T S xs L1 e1 _ fun J H1 U S1 wk D hD => ?_
        obtain ⟨Uk, S2, hk⟩ := S1.keep vs
        have hr : ∀ i ∈ Z.ro, σ[i]? = Z.σ0[i]? := by
          obtain ⟨_, _, S0⟩ := S
          exact S0.rd
        have S3 : SR K Z.free (wipe σ vs) H1 (wipeL L1 vs) (T ++ U ++ Uk) := by
          obtain ⟨Hs, w, S0⟩ := S2
          exact ⟨Hs, w, S0.free.wipe vs⟩
        refine ⟨fun i m H' => ∃ L' acc, m = xs.length - i ∧ i ≤ xs.length ∧ acc.length ≤ i ∧ SR K Z.free (wipe σ vs) H' L' (T ++ U ++ Uk ++ [(.ref D, .l acc)]) ∧ lcM vs mt tst elt (xs.drop i) acc L' = some (r, L2),
          ⟨xs.length, wipeL L1 vs, [], by simp, Nat.zero_le _, Nat.le_refl _, S3.newList hD, e2⟩, fun i m H' ⟨L', acc, em, hle, hacc, S4, hf⟩ => ?_⟩
        have S4' : SR K Z.free (wipe σ vs) H' L' (T ++ U ++ (Uk ++ [(.ref D, .l acc)])) := by rw [← List.append_assoc]; exact S4
        obtain ⟨w1, w2⟩ := wk Z.free (wipe σ vs) H' L' T (Uk ++ [(.ref D, .l acc)]) i rfl S4'
        by_cases hlt : i < xs.length
        · have hx : xs[i]? = some xs[i] := List.getElem?_eq_getElem hlt
          obtain ⟨go, yl⟩ := w1 _ hx
          rw [List.drop_eq_getElem_cons hlt] at hf
          unfold lcM at hf
          cases e3 : mt xs[i] L' with
          | none => rw [e3] at hf; cases hf
          | some L3 =>
            rw [e3] at hf
            simp only at hf
            cases e4 : tst L3 with
            | none => rw [e4] at hf; cases hf
            | some bl =>
              obtain ⟨b, L4⟩ := bl
              rw [e4] at hf
              refine .inr ⟨go, fun H3 => ∃ L' acc, acc.length ≤ i + 1 ∧ SR K Z.free (wipe σ vs) H3 L' (T ++ U ++ Uk ++ [(.ref D, .l acc)]) ∧ lcM vs mt tst elt (xs.drop (i + 1)) acc L' = some (r, L2),
                fun H3 ⟨L', acc, h1, h2, h3⟩ => ⟨m - 1, by omega, L', acc, by omega, hlt, h1, h2, h3⟩, fun v H3 y => ?_⟩
              have S5 := yl v H3 y
              refine hg Z.free (fun j _ => by simp) (wipe σ vs) H3 L' _ v _ S5 L3 e3 _ fun σ4 H4 S6 f4 l4 => ?_
              have ew : wipe σ4 vs = wipe σ vs := by
                rw [← wipe_wipe (σ := σ)]
                exact wipe_eq l4 fun i hi => f4 i fun hm => hi (hj i hm)
              refine ⟨ew, ht Z.free σ4 H4 L3 _ S6 b L4 e4 _ fun H5 S7 => ?_⟩
              have S7' : SR K Z.free σ4 H5 L4 (T ++ U ++ Uk ++ [(.ref D, .l acc)]) := by rw [← List.append_assoc] at S7; exact S7
              have back : ∀ {H6 : Hp} {L6 : Ls} {acc6 : List VS.D}, SR K Z.free σ4 H6 L6 (T ++ U ++ Uk ++ [(.ref D, .l acc6)]) → SR K Z.free (wipe σ vs) H6 (wipeL L6 vs) (T ++ U ++ Uk ++ [(.ref D, .l acc6)]) := fun {H6 L6 acc6} S8 => by
                obtain ⟨Hs, w, S0⟩ := S8
                have := S0.wipe vs
                rw [ew] at this
                exact ⟨Hs, w, this⟩
              cases b with
              | false =>
                rw [if_neg (by decide)]
                exact ⟨_, acc, by omega, back S7', hf⟩
              | true =>
                rw [if_pos rfl]
                simp only at hf
                cases e5 : elt L4 with
                | none => rw [e5] at hf; cases hf
                | some cl =>
                  obtain ⟨c5, L5⟩ := cl
                  rw [e5] at hf
                  simp only at hf
                  refine he Z.free σ4 H5 L4 _ S7' c5 L5 e5 _ fun y6 H6 S8 => ?_
                  obtain ⟨ws, hD6, hl6, S9⟩ := S8.freezeTop.grow1
                  refine ⟨ws, hD6, by omega, _, acc ++ [frz c5], by rw [List.length_append]; show acc.length + 1 ≤ i + 1; omega, back S9, hf⟩
        · have ei : i = xs.length := by omega
          subst ei
          rw [List.drop_length] at hf
          cases hf
          refine .inl ⟨w2 (Nat.le_refl _), ?_⟩
          -- out of the block
          have S5 : SR K Z.free (wipe σ vs) H' L2 (T ++ U ++ (Uk ++ [(.ref D, .l r)])) := S4'
          have S6 := S5.leave (L0 := L1) (fun i hi x hx => by
            obtain ⟨v, h1, h2⟩ := hk i hi x hx
            exact ⟨v, h1, List.mem_append_left _ h2⟩) hr
          have S7 : SR K Z σ H' (unwipe L1 L2 vs) (T ++ (U ++ Uk) ++ [(.ref D, .l r)]) := by
            have e9 : T ++ U ++ (Uk ++ [(V.ref D, C.l r)]) = T ++ (U ++ Uk) ++ [(V.ref D, C.l r)] := by simp [List.append_assoc]
            rw [e9] at S6
            exact S6
          exact q _ H' S7.squeeze
      · cases hm
    · cases hm
  · cases hm
theorem se_lc {K : PySem.W.Frag} {vs js : List Nat} {wi : TI} {mi : MI} {g : TG} {mt : MTg} {tt : TT} {tst : MT} {te : TE} {elt : ME} (hi : SI K wi mi) (hg : ST K js g mt) (hj : ∀ j ∈ js, j ∈ vs) (ht : STt K tt tst) (he : SE K te elt) : SE K (tLc wi g tt te vs) (mLc vs mi mt tst elt) := fun Z σ => lc_at (hi Z σ) hg hj ht he
section
variable {X : Cx} {elt tg iter : Expr} {ifs : List Expr} {scope : Scope} {own : List (PySem.Str × Nat)} {js : List Nat} {wi : TI} {mi : MI} {g : TG} {mt : MTg} {tt : TT} {tst : MT} {te : TE} {me : ME} {pos : Pos}
/-- a comprehension's tests -/
structure JTsts (X : Cx) (ifs : List Expr) (t : TT) (m : MT) : Prop where
  pts : PTs X ifs t
  st : STt X.K t m
theorem jts_yes : JTsts X [] tYes tYesM := ⟨pts_nil, st_yes⟩
theorem jts_if {c : Expr} {t : TT} {m : MT} (h : JT X c t m) : JTsts X [c] t m := ⟨pts_one h.pt, h.st⟩
theorem je_lc (own : List (PySem.Str × Nat)) {ok : BlkOk X.N X.env.scope scope own} (hc : X.calm = true) (hN : X.N.Nodup) (hi : JI X tg iter wi mi)
    (hg : ∀ (s : Shared) (H : Hp) (C : Addr) (cl : List (PySem.Str × Addr)) (fp : List Addr), JTg (X.blk s H scope (compEnvC scope cl C X.env) fp) tg js g mt)
    (ht : ∀ (s : Shared) (H : Hp) (C : Addr) (cl : List (PySem.Str × Addr)) (fp : List Addr), JTsts (X.blk s H scope (compEnvC scope cl C X.env) fp) ifs tt tst)
    (he : ∀ (s : Shared) (H : Hp) (C : Addr) (cl : List (PySem.Str × Addr)) (fp : List Addr), JE (X.blk s H scope (compEnvC scope cl C X.env) fp) elt te me)
    (hj : ∀ j ∈ js, j ∈ own.map (·.2) := by decide) (hs : ∀ x, foldedSetIterable iter X.env x = pure x := by intro _; rfl) :
    JE X (.ListComp elt [⟨tg, iter, ifs, 0⟩] scope pos) (tLc wi g tt te (own.map (·.2))) (mLc (own.map (·.2)) mi mt tst me) :=
  ⟨pe_lc hc hN hi.pi ok (fun s H C cl fp => (hg s H C cl fp).pg) (fun s H C cl fp => (ht s H C cl fp).pts) (fun s H C cl fp => (he s H C cl fp).pe) hs,
    se_lc hi.si (hg {} (fun _ => none) 0 [] []).st hj (ht {} (fun _ => none) 0 [] []).st (he {} (fun _ => none) 0 [] []).se⟩
/-- name = [..] on one line, the name a local -/
theorem js_setLc {ro : List Nat} (i : Nat) {y : PySem.Str} {py spos : Pos} (own : List (PySem.Str × Nat)) {ok : BlkOk X.N X.env.scope scope own} (hc : X.calm = true) (hN : X.N.Nodup) (hi : JI X tg iter wi mi)
    (hg : ∀ (s : Shared) (H : Hp) (C : Addr) (cl : List (PySem.Str × Addr)) (fp : List Addr), JTg (X.blk s H scope (compEnvC scope cl C X.env) fp) tg js g mt)
    (ht : ∀ (s : Shared) (H : Hp) (C : Addr) (cl : List (PySem.Str × Addr)) (fp : List Addr), JTsts (X.blk s H scope (compEnvC scope cl C X.env) fp) ifs tt tst)
    (he : ∀ (s : Shared) (H : Hp) (C : Addr) (cl : List (PySem.Str × Addr)) (fp : List Addr), JE (X.blk s H scope (compEnvC scope cl C X.env) fp) elt te me)
    (hro : i ∉ ro := by decide) (hj : ∀ j ∈ js, j ∈ own.map (·.2) := by decide) (hy : X.N[i]? = some y := by rfl) (hyl : X.env.scope.names.lookup y = some .local := by rfl)
    (hsw : swapsWith (.ListComp elt [⟨tg, iter, ifs, 0⟩] scope pos) (some (.Name y py)) spos.line X.env = pure true := by exact sw_true rfl rfl rfl (by decide +kernel)) (hs : ∀ x, foldedSetIterable iter X.env x = pure x := by intro _; rfl) :
    JS X ro (.Assign [.Name y py] (.ListComp elt [⟨tg, iter, ifs, 0⟩] scope pos) spos) (tAsg (tLc wi g tt te (own.map (·.2))) (gName i)) (mSet i (mLc (own.map (·.2)) mi mt tst me)) :=
  ⟨ps_setLc hc hN hy hyl hsw hi.pi ok (fun s H C cl fp => (hg s H C cl fp).pg) (fun s H C cl fp => (ht s H C cl fp).pts) (fun s H C cl fp => (he s H C cl fp).pe) hs,
    ss_set (se_lc hi.si (hg {} (fun _ => none) 0 [] []).st hj (ht {} (fun _ => none) 0 [] []).st (he {} (fun _ => none) 0 [] []).se) hro⟩
end
end VS

/-! list comprehensions of two clauses -/
namespace VS
open PySem PySem.Spec L2
open Evl (Ex Ex.refl Ex.trans Ex.new)
section
variable {K : PySem.W.Frag} {Z : Stat} {σ : L2.St} {H : Hp} {L L0 : Ls} {T U : List (V × C)}
/-- a list on the way, below others, grows by the last value -/
theorem SR.grow2 {p : Addr} {xs : List D} {v : V} {x : D} (S : SR K Z σ H L (T ++ [(.ref p, .l xs)] ++ U ++ [(v, .d x)])) : ∃ vs, H p = some (.lst vs) ∧ vs.length = xs.length ∧ SR K Z σ (upd H p (.lst (vs ++ [v]))) L (T ++ [(.ref p, .l (xs ++ [x]))] ++ U) := by
  obtain ⟨Hs, w, S⟩ := S
  have at1 : (T ++ [(V.ref p, C.l xs)] ++ U ++ [(v, C.d x)])[T.length]? = some (V.ref p, C.l xs) := by
    rw [List.append_assoc, List.append_assoc, List.getElem?_append_right (Nat.le_refl _), Nat.sub_self]; rfl
  obtain ⟨o, r, ho⟩ := S.tmp T.length _ at1
  obtain ⟨o2, r2, _⟩ := S.tmp (T ++ [(V.ref p, C.l xs)] ++ U).length (v, .d x) (by rw [List.getElem?_append_right (Nat.le_refl _), Nat.sub_self]; rfl)
  cases r with
  | l h1 h2 =>
    rename_i vs
    have hp : w p = some (.inr T.length) := ho p (by simp)
    refine ⟨vs, h1, h2.len, Hs, w, S.grow, fun a u e => ?_, S.news, S.own, fun i c e => ?_, fun i vc e => ?_, fun a u e hP => ?_, S.rd, S.len, fun a zs e => by
      by_cases z : a = p
      · subst z; rw [upd_same] at e; cases e
      · rw [upd_ne z] at e; exact S.tups a zs e⟩
    · have : a ≠ p := fun z => by rw [z, (S.own p _ hp).1] at e; cases e
      rw [upd_ne this]
      exact S.sub a u e
    · obtain ⟨v', o', q1, q2, q3⟩ := S.slot i c e
      refine ⟨v', o', q1, q2.mono (Ex.refl _) fun a ha u q => ?_, q3⟩
      have : a ≠ p := fun z => by rw [← z, q3 a ha] at hp; cases hp
      rw [upd_ne this]; exact q
    · by_cases hi : i = T.length
      · subst hi
        rw [List.append_assoc, List.getElem?_append_right (Nat.le_refl _), Nat.sub_self] at e
        have e' : (V.ref p, C.l (xs ++ [x])) = vc := Option.some.inj e
        subst e'
        exact ⟨[p], .l upd_same (h2.append (.cons r2.data .nil)), ho⟩
      · have e2 : (T ++ [(V.ref p, C.l xs)] ++ U ++ [(v, C.d x)])[i]? = some vc := by
          by_cases hlt : i < T.length
          · rw [List.append_assoc, List.getElem?_append_left hlt] at e
            rw [List.append_assoc, List.append_assoc, List.getElem?_append_left hlt]
            exact e
          · have hb : i < (T ++ [(V.ref p, C.l (xs ++ [x]))] ++ U).length := (List.getElem?_eq_some_iff.mp e).1
            have hb2 : i < (T ++ [(V.ref p, C.l xs)] ++ U).length := by simpa using hb
            rw [List.getElem?_append_left hb2]
            rw [List.append_assoc, List.getElem?_append_right (by omega)] at e ⊢
            cases q : i - T.length with
            | zero => exact absurd q (by omega)
            | succ k => rw [q] at e; simpa using e
        obtain ⟨o', q2, q3⟩ := S.tmp i vc e2
        refine ⟨o', q2.mono (Ex.refl _) fun a ha u q => ?_, q3⟩
        have : a ≠ p := fun z => by rw [← z, q3 a ha] at hp; exact hi (Sum.inr.inj (Option.some.inj hp))
        rw [upd_ne this]; exact q
    · have : a ≠ p := fun z => by
        rcases (S.own p _ hp).2 with q | q
        · exact hP (z ▸ q)
        · rw [z, q] at e; cases e
      rw [upd_ne this]
      exact S.frame a u e hP
end
def lc2M (vs vs1 : List Nat) (mt : MTg) (tst : MT) (mi1 : MI) (mt1 : MTg) (tst1 : MT) (elt : ME) : List D → List D → Ls → Option (List D × Ls)
  | [], acc, L => some (acc, L)
  | x :: xs, acc, L => match mt x L with
    | some L1 => match tst L1 with
      | some (true, L2) => match mi1 L2 with
        | some (ys, L3) => if acc.length + ys.length < sizeLine then match lcM vs1 mt1 tst1 elt ys acc (wipeL L3 vs1) with
            | some (acc', L4) => lc2M vs vs1 mt tst mi1 mt1 tst1 elt xs acc' (wipeL L4 vs)
            | none => none
          else none
        | none => none
      | some (false, L2) => lc2M vs vs1 mt tst mi1 mt1 tst1 elt xs acc (wipeL L2 vs)
      | none => none
    | none => none
def mLc2 (vs vs1 : List Nat) (mi : MI) (mt : MTg) (tst : MT) (mi1 : MI) (mt1 : MTg) (tst1 : MT) (elt : ME) : ME := fun L => match mi L with
  | some (xs, L1) => match lc2M vs vs1 mt tst mi1 mt1 tst1 elt xs [] (wipeL L1 vs) with
      | some (r, L2) => some (.l r, unwipe L1 L2 vs)
      | none => none
  | none => none
theorem wipe_sub {σ σ' : L2.St} {vs vs1 : List Nat} (hs : ∀ i ∈ vs1, i ∈ vs) (hl : σ'.length = σ.length) (h : wipe σ' vs1 = wipe σ vs1) : wipe σ' vs = wipe σ vs := by
  refine wipe_eq hl fun i hi => ?_
  have h1 : i ∉ vs1 := fun z => hi (hs i z)
  have := congrArg (fun l => l[i]?) h
  simp only [wipe_out h1] at this
  exact this
theorem se_lc2 {K : PySem.W.Frag} {vs vs1 js js1 : List Nat} {wi wi1 : TI} {mi mi1 : MI} {g g1 : TG} {mt mt1 : MTg} {tt tt1 : TT} {tst tst1 : MT} {te : TE} {elt : ME} (hi : SI K wi mi) (hg : ST K js g mt) (hj : ∀ j ∈ js, j ∈ vs) (ht : STt K tt tst)
    (hi1 : SI K wi1 mi1) (hg1 : ST K js1 g1 mt1) (hj1 : ∀ j ∈ js1, j ∈ vs1) (ht1 : STt K tt1 tst1) (he : SE K te elt) (hv : ∀ i ∈ vs1, i ∈ vs) : SE K (tLc2 wi g tt wi1 g1 tt1 te vs vs1) (mLc2 vs vs1 mi mt tst mi1 mt1 tst1 elt) := by
  intro Z σ H L T S c L' hm Q q
  unfold mLc2 at hm
  split at hm
  · rename_i xs L1 e1
    split at hm
    · rename_i r L2 e2
      cases hm
      refine hi Z σ H L T S xs L1 e1 _ fun J H1 U S1 wk D hD => ?_
      obtain ⟨Uk, S2, hk⟩ := S1.keep vs
      have hr : ∀ i ∈ Z.ro, σ[i]? = Z.σ0[i]? := by
        obtain ⟨_, _, S0⟩ := S
        exact S0.rd
      have S3 : SR K Z.free (wipe σ vs) H1 (wipeL L1 vs) (T ++ U ++ Uk) := by
        obtain ⟨Hs, w, S0⟩ := S2
        exact ⟨Hs, w, S0.free.wipe vs⟩
      refine ⟨fun i m H' => ∃ L' acc, m = xs.length - i ∧ i ≤ xs.length ∧ SR K Z.free (wipe σ vs) H' L' (T ++ U ++ Uk ++ [(.ref D, .l acc)]) ∧ lc2M vs vs1 mt tst mi1 mt1 tst1 elt (xs.drop i) acc L' = some (r, L2),
        ⟨xs.length, wipeL L1 vs, [], by simp, Nat.zero_le _, S3.newList hD, e2⟩, fun i m H' ⟨L', acc, em, hle, S4, hf⟩ => ?_⟩
      have S4' : SR K Z.free (wipe σ vs) H' L' (T ++ U ++ (Uk ++ [(.ref D, .l acc)])) := by rw [← List.append_assoc]; exact S4
      obtain ⟨w1, w2⟩ := wk Z.free (wipe σ vs) H' L' T (Uk ++ [(.ref D, .l acc)]) i rfl S4'
      by_cases hlt : i < xs.length
      · have hx : xs[i]? = some xs[i] := List.getElem?_eq_getElem hlt
        obtain ⟨go, yl⟩ := w1 _ hx
        rw [List.drop_eq_getElem_cons hlt] at hf
        unfold lc2M at hf
        cases e3 : mt xs[i] L' with
        | none => rw [e3] at hf; cases hf
        | some L3 =>
          rw [e3] at hf
          simp only at hf
          cases e4 : tst L3 with
          | none => rw [e4] at hf; cases hf
          | some bl =>
            obtain ⟨b, L4⟩ := bl
            rw [e4] at hf
            refine .inr ⟨go, fun H3 => ∃ L' acc, SR K Z.free (wipe σ vs) H3 L' (T ++ U ++ Uk ++ [(.ref D, .l acc)]) ∧ lc2M vs vs1 mt tst mi1 mt1 tst1 elt (xs.drop (i + 1)) acc L' = some (r, L2),
              fun H3 ⟨L', acc, h2, h3⟩ => ⟨m - 1, by omega, L', acc, by omega, hlt, h2, h3⟩, fun v H3 y => ?_⟩
            have S5 := yl v H3 y
            refine hg Z.free (fun j _ => by simp) (wipe σ vs) H3 L' _ v _ S5 L3 e3 _ fun σ4 H4 S6 f4 l4 => ?_
            have ew : wipe σ4 vs = wipe σ vs := by
              rw [← wipe_wipe (σ := σ)]
              exact wipe_eq l4 fun i hi => f4 i fun hm => hi (hj i hm)
            refine ⟨ew, ht Z.free σ4 H4 L3 _ S6 b L4 e4 _ fun H5 S7 => ?_⟩
            have S7' : SR K Z.free σ4 H5 L4 (T ++ U ++ Uk ++ [(.ref D, .l acc)]) := by rw [← List.append_assoc] at S7; exact S7
            have back : ∀ {σ6 : List (Option V)} {H6 : Hp} {L6 : Ls} {T6 : List (V × C)}, wipe σ6 vs = wipe σ vs → SR K Z.free σ6 H6 L6 T6 → SR K Z.free (wipe σ vs) H6 (wipeL L6 vs) T6 := fun {σ6 H6 L6 T6} e6 S8 => by
              obtain ⟨Hs, w, S0⟩ := S8
              have := S0.wipe vs
              rw [e6] at this
              exact ⟨Hs, w, this⟩
            cases b with
            | false =>
              rw [if_neg (by decide)]
              exact ⟨_, acc, back ew S7', hf⟩
            | true =>
              rw [if_pos rfl]
              simp only at hf
              cases e5 : mi1 L4 with
              | none => rw [e5] at hf; cases hf
              | some yl1 =>
                obtain ⟨ys, L5⟩ := yl1
                rw [e5] at hf
                simp only at hf
                split at hf
                · rename_i hz
                  cases e6 : lcM vs1 mt1 tst1 elt ys acc (wipeL L5 vs1) with
                  | none => rw [e6] at hf; cases hf
                  | some al =>
                    obtain ⟨acc', L6⟩ := al
                    rw [e6] at hf
                    simp only at hf
                    refine hi1 Z.free σ4 H5 L4 _ S7' ys L5 e5 _ fun J1 H6 U1 S8 wk1 => ?_
                    have hl4 : (wipe σ4 vs1).length = σ.length := by rw [wipe_length, l4, wipe_length]
                    have S9 : SR K Z.free (wipe σ4 vs1) H6 (wipeL L5 vs1) (T ++ U ++ Uk ++ [(.ref D, .l acc)] ++ U1) := by
                      obtain ⟨Hs, w, S0⟩ := S8
                      exact ⟨Hs, w, S0.wipe vs1⟩
                    have ew1 : wipe (wipe σ4 vs1) vs = wipe σ vs := by
                      rw [← ew]
                      exact wipe_eq (wipe_length _ _) fun i hi => wipe_out fun z => hi (hv i z)
                    refine ⟨fun j k H' => ∃ L' a1, k = ys.length - j ∧ j ≤ ys.length ∧ a1.length ≤ acc.length + j ∧ SR K Z.free (wipe σ4 vs1) H' L' (T ++ U ++ Uk ++ [(.ref D, .l a1)] ++ U1) ∧ lcM vs1 mt1 tst1 elt (ys.drop j) a1 L' = some (acc', L6),
                      ⟨ys.length, _, acc, by simp, Nat.zero_le _, Nat.le_refl _, S9, e6⟩, fun j k H' ⟨L', a1, ek, hjl, ha1, S10, hf1⟩ => ?_⟩
                    have S10' : SR K Z.free (wipe σ4 vs1) H' L' (T ++ U ++ Uk ++ [(.ref D, .l a1)] ++ U1 ++ []) := by rw [List.append_nil]; exact S10
                    obtain ⟨x1, x2⟩ := wk1 Z.free (wipe σ4 vs1) H' L' (T ++ U ++ Uk ++ [(.ref D, .l a1)]) [] j rfl S10'
                    by_cases hjt : j < ys.length
                    · have hy : ys[j]? = some ys[j] := List.getElem?_eq_getElem hjt
                      obtain ⟨go1, yl1⟩ := x1 _ hy
                      rw [List.drop_eq_getElem_cons hjt] at hf1
                      unfold lcM at hf1
                      cases e7 : mt1 ys[j] L' with
                      | none => rw [e7] at hf1; cases hf1
                      | some L7 =>
                        rw [e7] at hf1
                        simp only at hf1
                        cases e8 : tst1 L7 with
                        | none => rw [e8] at hf1; cases hf1
                        | some bl1 =>
                          obtain ⟨b1, L8⟩ := bl1
                          rw [e8] at hf1
                          refine .inr ⟨go1, fun H3 => ∃ L' a1, a1.length ≤ acc.length + (j + 1) ∧ SR K Z.free (wipe σ4 vs1) H3 L' (T ++ U ++ Uk ++ [(.ref D, .l a1)] ++ U1) ∧ lcM vs1 mt1 tst1 elt (ys.drop (j + 1)) a1 L' = some (acc', L6),
                            fun H3 ⟨L', a1, h1, h2, h3⟩ => ⟨k - 1, by omega, L', a1, by omega, hjt, h1, h2, h3⟩, fun v1 H8 y1 => ?_⟩
                          have S11 := yl1 v1 H8 y1
                          rw [List.append_nil] at S11
                          refine hg1 Z.free (fun j _ => by simp) (wipe σ4 vs1) H8 L' _ v1 _ S11 L7 e7 _ fun σ5 H9 S12 f5 l5 => ?_
                          have ew5 : wipe σ5 vs1 = wipe σ4 vs1 := by
                            rw [← wipe_wipe (σ := σ4)]
                            exact wipe_eq l5 fun i hi => f5 i fun hm => hi (hj1 i hm)
                          refine ⟨ew5, ht1 Z.free σ5 H9 L7 _ S12 b1 L8 e8 _ fun H10 S13 => ?_⟩
                          have back1 : ∀ {H6 : Hp} {L6 : Ls} {T6 : List (V × C)}, SR K Z.free σ5 H6 L6 T6 → SR K Z.free (wipe σ4 vs1) H6 (wipeL L6 vs1) T6 := fun {H6 L6 T6} S8 => by
                            obtain ⟨Hs, w, S0⟩ := S8
                            have := S0.wipe vs1
                            rw [ew5] at this
                            exact ⟨Hs, w, this⟩
                          cases b1 with
                          | false =>
                            rw [if_neg (by decide)]
                            exact ⟨_, a1, by omega, back1 S13, hf1⟩
                          | true =>
                            rw [if_pos rfl]
                            simp only at hf1
                            cases e9 : elt L8 with
                            | none => rw [e9] at hf1; cases hf1
                            | some cl =>
                              obtain ⟨c9, L9⟩ := cl
                              rw [e9] at hf1
                              simp only at hf1
                              refine he Z.free σ5 H10 L8 _ S13 c9 L9 e9 _ fun y9 H11 S14 => ?_
                              obtain ⟨ws, hD6, hl6, S15⟩ := S14.freezeTop.grow2
                              refine ⟨ws, hD6, by omega, _, a1 ++ [frz c9], by rw [List.length_append]; show a1.length + 1 ≤ acc.length + (j + 1); omega, back1 S15, hf1⟩
                    · have ej : j = ys.length := by omega
                      subst ej
                      rw [List.drop_length] at hf1
                      cases hf1
                      exact .inl ⟨x2 (Nat.le_refl _), _, acc', back ew1 S10.pop, hf⟩
                · cases hf
      · have ei : i = xs.length := by omega
        subst ei
        rw [List.drop_length] at hf
        cases hf
        refine .inl ⟨w2 (Nat.le_refl _), ?_⟩
        have S6 := S4'.leave (L0 := L1) (fun i hi x hx => by
          obtain ⟨v, h1, h2⟩ := hk i hi x hx
          exact ⟨v, h1, List.mem_append_left _ h2⟩) hr
        have S7 : SR K Z σ H' (unwipe L1 L2 vs) (T ++ (U ++ Uk) ++ [(.ref D, .l r)]) := by
          have e9 : T ++ U ++ (Uk ++ [(V.ref D, C.l r)]) = T ++ (U ++ Uk) ++ [(V.ref D, C.l r)] := by simp [List.append_assoc]
          rw [e9] at S6
          exact S6
        exact q _ H' S7.squeeze
    · cases hm
  · cases hm
section
variable {X : Cx} {elt tg iter tg1 iter1 : Expr} {ifs ifs1 : List Expr} {scope : Scope} {js js1 : List Nat} {wi wi1 : TI} {mi mi1 : MI} {g g1 : TG} {mt mt1 : MTg} {tt tt1 : TT} {tst tst1 : MT} {te : TE} {me : ME} {pos : Pos}
theorem je_lc2 (own : List (PySem.Str × Nat)) (vs1 : List Nat) {ok : BlkOk X.N X.env.scope scope own} (hc : X.calm = true) (hN : X.N.Nodup) (hi : JI X tg iter wi mi)
    (hg : ∀ (s : Shared) (H : Hp) (C : Addr) (cl : List (PySem.Str × Addr)) (fp : List Addr), JTg (X.blk s H scope (compEnvC scope cl C X.env) fp) tg js g mt)
    (ht : ∀ (s : Shared) (H : Hp) (C : Addr) (cl : List (PySem.Str × Addr)) (fp : List Addr), JTsts (X.blk s H scope (compEnvC scope cl C X.env) fp) ifs tt tst)
    (hi1 : ∀ (s : Shared) (H : Hp) (C : Addr) (cl : List (PySem.Str × Addr)) (fp : List Addr), JI (X.blk s H scope (compEnvC scope cl C X.env) fp) tg1 iter1 wi1 mi1)
    (hg1 : ∀ (s : Shared) (H : Hp) (C : Addr) (cl : List (PySem.Str × Addr)) (fp : List Addr), JTg (X.blk s H scope (compEnvC scope cl C X.env) fp) tg1 js1 g1 mt1)
    (ht1 : ∀ (s : Shared) (H : Hp) (C : Addr) (cl : List (PySem.Str × Addr)) (fp : List Addr), JTsts (X.blk s H scope (compEnvC scope cl C X.env) fp) ifs1 tt1 tst1)
    (he : ∀ (s : Shared) (H : Hp) (C : Addr) (cl : List (PySem.Str × Addr)) (fp : List Addr), JE (X.blk s H scope (compEnvC scope cl C X.env) fp) elt te me)
    (hj : ∀ j ∈ js, j ∈ own.map (·.2) := by decide) (hj1 : ∀ j ∈ js1, j ∈ vs1 := by decide) (hv : ∀ i ∈ vs1, i ∈ own.map (·.2) := by decide) (hs : ∀ x, foldedSetIterable iter X.env x = pure x := by intro _; rfl) (hs1 : ∀ env x, foldedSetIterable iter1 env x = pure x := by intro _ _; rfl) :
    JE X (.ListComp elt [⟨tg, iter, ifs, 0⟩, ⟨tg1, iter1, ifs1, 0⟩] scope pos) (tLc2 wi g tt wi1 g1 tt1 te (own.map (·.2)) vs1) (mLc2 (own.map (·.2)) vs1 mi mt tst mi1 mt1 tst1 me) :=
  ⟨pe_lc2 hc hN hi.pi ok hv (fun s H C cl fp => (hg s H C cl fp).pg) (fun s H C cl fp => (ht s H C cl fp).pts) (fun s H C cl fp => (hi1 s H C cl fp).pi) (fun s H C cl fp => (hg1 s H C cl fp).pg) (fun s H C cl fp => (ht1 s H C cl fp).pts) (fun s H C cl fp => (he s H C cl fp).pe) hs hs1,
    se_lc2 hi.si (hg {} (fun _ => none) 0 [] []).st hj (ht {} (fun _ => none) 0 [] []).st (hi1 {} (fun _ => none) 0 [] []).si (hg1 {} (fun _ => none) 0 [] []).st hj1 (ht1 {} (fun _ => none) 0 [] []).st (he {} (fun _ => none) 0 [] []).se hv⟩
/-- name = [..] of two clauses on one line, the name a local -/
theorem js_setLc2 {ro : List Nat} (i : Nat) {y : PySem.Str} {py spos : Pos} (own : List (PySem.Str × Nat)) (vs1 : List Nat) {ok : BlkOk X.N X.env.scope scope own} (hc : X.calm = true) (hN : X.N.Nodup) (hi : JI X tg iter wi mi)
    (hg : ∀ (s : Shared) (H : Hp) (C : Addr) (cl : List (PySem.Str × Addr)) (fp : List Addr), JTg (X.blk s H scope (compEnvC scope cl C X.env) fp) tg js g mt)
    (ht : ∀ (s : Shared) (H : Hp) (C : Addr) (cl : List (PySem.Str × Addr)) (fp : List Addr), JTsts (X.blk s H scope (compEnvC scope cl C X.env) fp) ifs tt tst)
    (hi1 : ∀ (s : Shared) (H : Hp) (C : Addr) (cl : List (PySem.Str × Addr)) (fp : List Addr), JI (X.blk s H scope (compEnvC scope cl C X.env) fp) tg1 iter1 wi1 mi1)
    (hg1 : ∀ (s : Shared) (H : Hp) (C : Addr) (cl : List (PySem.Str × Addr)) (fp : List Addr), JTg (X.blk s H scope (compEnvC scope cl C X.env) fp) tg1 js1 g1 mt1)
    (ht1 : ∀ (s : Shared) (H : Hp) (C : Addr) (cl : List (PySem.Str × Addr)) (fp : List Addr), JTsts (X.blk s H scope (compEnvC scope cl C X.env) fp) ifs1 tt1 tst1)
    (he : ∀ (s : Shared) (H : Hp) (C : Addr) (cl : List (PySem.Str × Addr)) (fp : List Addr), JE (X.blk s H scope (compEnvC scope cl C X.env) fp) elt te me)
    (hro : i ∉ ro := by decide) (hj : ∀ j ∈ js, j ∈ own.map (·.2) := by decide) (hj1 : ∀ j ∈ js1, j ∈ vs1 := by decide) (hv : ∀ i ∈ vs1, i ∈ own.map (·.2) := by decide) (hy : X.N[i]? = some y := by rfl) (hyl : X.env.scope.names.lookup y = some .local := by rfl)
    (hsw : swapsWith (.ListComp elt [⟨tg, iter, ifs, 0⟩, ⟨tg1, iter1, ifs1, 0⟩] scope pos) (some (.Name y py)) spos.line X.env = pure true := by exact sw_true rfl rfl rfl (by decide +kernel)) (hs : ∀ x, foldedSetIterable iter X.env x = pure x := by intro _; rfl) (hs1 : ∀ env x, foldedSetIterable iter1 env x = pure x := by intro _ _; rfl) :
    JS X ro (.Assign [.Name y py] (.ListComp elt [⟨tg, iter, ifs, 0⟩, ⟨tg1, iter1, ifs1, 0⟩] scope pos) spos) (tAsg (tLc2 wi g tt wi1 g1 tt1 te (own.map (·.2)) vs1) (gName i)) (mSet i (mLc2 (own.map (·.2)) vs1 mi mt tst mi1 mt1 tst1 me)) :=
  ⟨ps_setLc2 hc hN hy hyl hsw hi.pi ok hv (fun s H C cl fp => (hg s H C cl fp).pg) (fun s H C cl fp => (ht s H C cl fp).pts) (fun s H C cl fp => (hi1 s H C cl fp).pi) (fun s H C cl fp => (hg1 s H C cl fp).pg) (fun s H C cl fp => (ht1 s H C cl fp).pts) (fun s H C cl fp => (he s H C cl fp).pe) hs hs1,
    ss_set (se_lc2 hi.si (hg {} (fun _ => none) 0 [] []).st hj (ht {} (fun _ => none) 0 [] []).st (hi1 {} (fun _ => none) 0 [] []).si (hg1 {} (fun _ => none) 0 [] []).st hj1 (ht1 {} (fun _ => none) 0 [] []).st (he {} (fun _ => none) 0 [] []).se hv) hro⟩
end
end VS

/-! defs and their calls: the state's side -/
namespace VS
open PySem PySem.Spec L2
open Evl (Ex Ex.refl Ex.trans Ex.new)

abbrev Tag := Sum Nat Nat
def ixOf (t : Tag) : List Tag → Option Nat
  | [] => none
  | x :: r => if x = t then some 0 else (ixOf t r).map (· + 1)
theorem ixOf_get {t : Tag} : ∀ {l : List Tag} {k : Nat}, ixOf t l = some k → l[k]? = some t
  | [], k, h => by cases h
  | x :: r, k, h => by
    unfold ixOf at h
    split at h
    · rename_i e; cases h; rw [e]; rfl
    · cases e2 : ixOf t r with
      | none => rw [e2] at h; cases h
      | some j =>
        rw [e2] at h
        cases h
        exact (show r[j]? = some t from ixOf_get e2)
theorem ixOf_of {t : Tag} : ∀ {l : List Tag} {k : Nat}, l.Nodup → l[k]? = some t → ixOf t l = some k
  | [], k, _, h => by simp at h
  | x :: r, 0, _, h => by
    have e : x = t := by simpa using h
    unfold ixOf
    rw [if_pos e]
  | x :: r, k + 1, nd, h => by
    have h' : r[k]? = some t := by simpa using h
    have nd' := List.nodup_cons.mp nd
    unfold ixOf
    have hne : ¬ x = t := fun e => nd'.1 (by rw [e]; exact List.mem_of_getElem? h')
    rw [if_neg hne, ixOf_of nd'.2 h']
    rfl
/-- the objects that the arguments own -/
def Pm (w : Own) (tgs : List Tag) (a : Addr) : Prop := ∃ t ∈ tgs, w a = some t
structure PostM (K : PySem.W.Frag) (Hs H : Hp) (w : Own) (tgs : List Tag) (vs : List V) (cs' : List C) (c : C) (v : V) (H' : Hp) (Hs' : Hp) (w' : Addr → Option Nat) : Prop where
  exs : Ex Hs Hs'
  sub : Ex Hs' H'
  news : ∀ a u, Hs' a = some u → Hs a = some u ∨ Pm w tgs a ∨ H a = none
  own : ∀ a t, w' a = some t → Hs' a = none ∧ (Pm w tgs a ∨ H a = none)
  len : cs'.length = vs.length
  par : ∀ (k : Nat) (v : V) (c : C), vs[k]? = some v → cs'[k]? = some c → ∃ o, Rep K Hs' H' v c o ∧ ∀ a ∈ o, w' a = some (k + 1)
  res : ∃ o, Rep K Hs' H' v c o ∧ ∀ a ∈ o, w' a = some 0
  frame : ∀ a u, H a = some u → ¬ Pm w tgs a → H' a = some u
  tups : ∀ a xs, H' a = some (.tup xs) → Hs' a = some (.tup xs)
structure PreM (K : PySem.W.Frag) (Hs H : Hp) (w : Own) (tgs : List Tag) (vs : List V) (cs : List C) : Prop where
  lenC : cs.length = vs.length
  lenT : tgs.length = vs.length
  nd : tgs.Nodup
  sub : Ex Hs H
  own : ∀ a t, w a = some t → Hs a = none
  par : ∀ (k : Nat) (v : V) (c : C) (t : Tag), vs[k]? = some v → cs[k]? = some c → tgs[k]? = some t → ∃ o, Rep K Hs H v c o ∧ ∀ a ∈ o, w a = some t
  tups : ∀ a xs, H a = some (.tup xs) → Hs a = some (.tup xs)
/-- a def's promise, by its mirror -/
def spM (K : PySem.W.Frag) (m : FM) (n : Nat) : Sp := fun vs H Q _ => vs.length = n ∧ ∃ (Hs : Hp) (w : Own) (tgs : List Tag) (cs cs' : List C) (c : C), PreM K Hs H w tgs vs cs ∧ m cs = some (c, cs') ∧ ∀ v H' Hs' w', PostM K Hs H w tgs vs cs' c v H' Hs' w' → Q v H'

/-! ### the caller -/
def refsOf : List AV → List Nat
  | [] => []
  | .val _ :: r => refsOf r
  | .ref i :: r => i :: refsOf r
def setRefs : Ls → List AV → List C → Ls
  | L, .ref i :: r, c :: cs => (setRefs L r cs).set i (some c)
  | L, .val _ :: r, _ :: cs => setRefs L r cs
  | L, _, _ => L
theorem setRefs_len : ∀ {L : Ls} {avs : List AV} {cs : List C}, (setRefs L avs cs).length = L.length
  | L, [], cs => by cases cs <;> rfl
  | L, .ref i :: r, [] => rfl
  | L, .val c :: r, [] => rfl
  | L, .ref i :: r, c :: cs => by rw [setRefs, List.length_set, setRefs_len]
  | L, .val _ :: r, c :: cs => by rw [setRefs, setRefs_len]
/-- a slot behind a call: it was not handed over, or it holds what the def left -/
theorem setRefs_get : ∀ {L : Ls} {avs : List AV} {cs : List C} {i : Nat} {c : C}, cs.length = avs.length → (setRefs L avs cs)[i]? = some (some c) → (i ∉ refsOf avs ∧ L[i]? = some (some c)) ∨ ∃ k : Nat, avs[k]? = some (.ref i) ∧ cs[k]? = some c
  | L, [], cs, i, c, hl, h => by
    have e : cs = [] := List.length_eq_zero_iff.mp (by simpa using hl)
    subst e
    exact .inl ⟨by simp [refsOf], h⟩
  | L, .ref j :: r, [], i, c, hl, h => by simp at hl
  | L, .val _ :: r, [], i, c, hl, h => by simp at hl
  | L, .ref j :: r, c0 :: cs, i, c, hl, h => by
    rw [setRefs] at h
    by_cases hj : j = i
    · subst hj
      by_cases hb : j < (setRefs L r cs).length
      · rw [List.getElem?_set_self hb] at h
        have e : c0 = c := by simpa using h
        subst e
        exact .inr ⟨0, rfl, rfl⟩
      · rw [List.getElem?_eq_none (by simpa using hb)] at h; cases h
    · rw [List.getElem?_set_ne hj] at h
      rcases setRefs_get (by simpa using hl) h with ⟨h1, h2⟩ | ⟨k, h1, h2⟩
      · exact .inl ⟨by simp only [refsOf, List.mem_cons, not_or]; exact ⟨fun e => hj e.symm, h1⟩, h2⟩
      · exact .inr ⟨k + 1, by simpa using h1, by simpa using h2⟩
  | L, .val _ :: r, c0 :: cs, i, c, hl, h => by
    rw [setRefs] at h
    rcases setRefs_get (by simpa using hl) h with ⟨h1, h2⟩ | ⟨k, h1, h2⟩
    · exact .inl ⟨h1, h2⟩
    · exact .inr ⟨k + 1, by simpa using h1, by simpa using h2⟩
theorem tags_mem : ∀ {n : Nat} {avs : List AV} {t : Tag}, t ∈ tags n avs → (∃ i, t = .inl i ∧ i ∈ refsOf avs) ∨ ∃ j, t = .inr j ∧ n ≤ j
  | n, [], t, h => by simp [tags] at h
  | n, .val _ :: r, t, h => by
    rw [tags, List.mem_cons] at h
    rcases h with rfl | h
    · exact .inr ⟨n, rfl, Nat.le_refl _⟩
    · rcases tags_mem h with ⟨i, e, hi⟩ | ⟨j, e, hj⟩
      · exact .inl ⟨i, e, hi⟩
      · exact .inr ⟨j, e, by omega⟩
  | n, .ref i :: r, t, h => by
    rw [tags, List.mem_cons] at h
    rcases h with rfl | h
    · exact .inl ⟨i, rfl, by simp [refsOf]⟩
    · rcases tags_mem h with ⟨j, e, hj⟩ | ⟨j, e, hj⟩
      · exact .inl ⟨j, e, by simp [refsOf, hj]⟩
      · exact .inr ⟨j, e, hj⟩
theorem tags_nodup : ∀ {n : Nat} {avs : List AV}, (refsOf avs).Nodup → (tags n avs).Nodup
  | n, [], _ => List.Pairwise.nil
  | n, .val _ :: r, h => by
    rw [tags, List.nodup_cons]
    refine ⟨fun hm => ?_, tags_nodup (avs := r) h⟩
    rcases tags_mem hm with ⟨i, e, _⟩ | ⟨j, e, hj⟩
    · cases e
    · have := Sum.inr.inj e; omega
  | n, .ref i :: r, h => by
    rw [refsOf, List.nodup_cons] at h
    rw [tags, List.nodup_cons]
    refine ⟨fun hm => ?_, tags_nodup (avs := r) h.2⟩
    rcases tags_mem hm with ⟨j, e, hj⟩ | ⟨j, e, hj⟩
    · have := Sum.inl.inj e; exact h.1 (this ▸ hj)
    · cases e
theorem tags_ref : ∀ {n : Nat} {avs : List AV} {k i : Nat}, avs[k]? = some (.ref i) → (tags n avs)[k]? = some (.inl i)
  | n, [], k, i, h => by simp at h
  | n, .val _ :: r, 0, i, h => by simp at h
  | n, .ref j :: r, 0, i, h => by
    have e : j = i := by simpa using h
    subst e; rfl
  | n, .val _ :: r, k + 1, i, h => tags_ref (avs := r) (by simpa using h)
  | n, .ref _ :: r, k + 1, i, h => tags_ref (avs := r) (by simpa using h)
theorem avok_ref {σ : L2.St} : ∀ {avs : List AV} {vs : List V} {tv : List (V × C)} {k i : Nat}, AvOk σ avs vs tv → avs[k]? = some (.ref i) → ∃ v, vs[k]? = some v ∧ σ[i]? = some (some v)
  | _, _, _, k, i, .nil, h => by simp at h
  | _, _, _, 0, i, .val _, h => by simp at h
  | _, _, _, 0, i, .ref e _, h => by
    have e' := Option.some.inj h
    cases e'
    exact ⟨_, rfl, e⟩
  | _, _, _, k + 1, i, .val r, h => by
    rw [List.getElem?_cons_succ] at h
    obtain ⟨v, h1, h2⟩ := avok_ref (k := k) r h
    exact ⟨v, by rw [List.getElem?_cons_succ]; exact h1, h2⟩
  | _, _, _, k + 1, i, .ref _ r, h => by
    rw [List.getElem?_cons_succ] at h
    obtain ⟨v, h1, h2⟩ := avok_ref (k := k) r h
    exact ⟨v, by rw [List.getElem?_cons_succ]; exact h1, h2⟩
def mCall (m : FM) (ms : MA) : ME := fun L => match ms L with
  | some (avs, L1) => if (refsOf avs).Nodup then match conts L1 avs with
      | some cs => match m cs with
        | some (c, cs') => if cs'.length = avs.length then some (c, setRefs L1 avs cs') else none
        | none => none
      | none => none
    else none
  | none => none
theorem SR.call {K : PySem.W.Frag} {Z : Stat} {σ : L2.St} {H : Hp} {L : Ls} {T tv : List (V × C)} {avs : List AV} {vs : List V} {cs cs' : List C} {c : C} {m : FM} {Q : VK} {E : XK} (S : SR K Z σ H L (T ++ tv)) (ha : AvOk σ avs vs tv) (hn : (refsOf avs).Nodup) (hc : conts L avs = some cs) (hf : m cs = some (c, cs'))
    (hl : cs'.length = avs.length) (q : ∀ v H', SR K Z σ H' (setRefs L avs cs') (T ++ [(v, c)]) → Q v H') : spM K m avs.length vs H Q E := by
  classical
  obtain ⟨Hs, w, S⟩ := S
  refine ⟨ha.len, Hs, w, tags T.length avs, cs, cs', c, ⟨by rw [conts_len hc, ha.len], by rw [tags_len, ha.len], tags_nodup hn, S.sub, fun a t e => (S.own a t e).1, fun k v c t h1 h2 h3 => ?_, S.tups⟩, hf, fun v H' Hs' w' p => q v H' ?_⟩
  · obtain ⟨o, t', e, r, ho⟩ := S.args ha hc k v c h1 h2
    rw [h3] at e
    cases e
    exact ⟨o, r, ho⟩
  -- behind the call
  let n := T.length
  let tg := tags n avs
  let w2 : Own := fun a => match w' a with
    | some 0 => some (.inr n)
    | some (k + 1) => (match tg[k]? with | some (.inl i) => some (.inl i) | _ => none)
    | none => if (H a).isSome ∧ ¬ Pm w tg a then cutOwn w n a else none
  have freshP : ∀ a, Pm w tg a ∨ H a = none → Z.P a ∨ Z.H0 a = none := fun a h => by
    rcases h with ⟨t, _, h⟩ | h
    · exact (S.own a t h).2
    · exact S.fresh0 h
  -- what others hold is kept
  have others : ∀ {v : V} {c : C} {o : List Addr} {t : Tag}, Rep K Hs H v c o → (∀ a ∈ o, w a = some t) → t ∉ tg → (∀ a, w a = some t → cutOwn w n a = some t) → Rep K Hs' H' v c o ∧ ∀ a ∈ o, w2 a = some t := fun {v c o t} r ho nt hcut => by
    have np : ∀ a ∈ o, ¬ Pm w tg a := fun a ha0 ⟨t', ht', e⟩ => nt (by rw [ho a ha0] at e; cases e; exact ht')
    refine ⟨r.mono p.exs fun a ha0 u e => p.frame a u e (np a ha0), fun a ha0 => ?_⟩
    obtain ⟨u, hu⟩ := r.known a ha0
    have hw' : w' a = none := by
      cases e : w' a with
      | none => rfl
      | some t' =>
        rcases (p.own a t' e).2 with z | z
        · exact absurd z (np a ha0)
        · rw [z] at hu; cases hu
    show w2 a = some t
    simp only [w2, hw']
    rw [if_pos ⟨by rw [hu]; rfl, np a ha0⟩]
    exact hcut a (ho a ha0)
  have hlenT : (T ++ [(v, c)]).length = n + 1 := by rw [List.length_append]; rfl
  refine ⟨Hs', w2, S.grow.trans p.exs, p.sub, fun a u e => ?_, fun a t e => ?_, fun i c1 e => ?_, fun i vc e => ?_, fun a u e hP => ?_, S.rd, by rw [setRefs_len]; exact S.len, p.tups⟩
  · rcases p.news a u e with h | h
    · exact S.news a u h
    · exact .inr (freshP a h)
  · cases hw' : w' a with
    | some t' =>
      have h1 := p.own a t' hw'
      exact ⟨h1.1, freshP a h1.2⟩
    | none =>
      have e2 : (if (H a).isSome ∧ ¬ Pm w tg a then cutOwn w n a else none) = some t := by
        have : w2 a = some t := e
        simp only [w2, hw'] at this
        exact this
      split at e2
      · rename_i hk
        have h1 := S.own a t (cutOwn_some e2)
        refine ⟨?_, h1.2⟩
        cases z : Hs' a with
        | none => rfl
        | some u =>
          rcases p.news a u z with z | z | z
          · rw [h1.1] at z; cases z
          · exact absurd z hk.2
          · rw [z] at hk; exact absurd hk.1 (by simp)
      · cases e2
  · rcases setRefs_get hl e with ⟨h1, h2⟩ | ⟨k, h1, h2⟩
    · obtain ⟨v0, o, q1, q2, q3⟩ := S.slot i c1 h2
      have nt : (Sum.inl i : Tag) ∉ tg := fun z => by
        rcases tags_mem z with ⟨j, e1, hj⟩ | ⟨j, e1, _⟩
        · have := Sum.inl.inj e1; exact h1 (this ▸ hj)
        · cases e1
      obtain ⟨k1, k2⟩ := others q2 q3 nt fun a ea => cutOwn_slot ea
      exact ⟨v0, o, q1, k1, k2⟩
    · obtain ⟨v0, hv, hσ⟩ := avok_ref ha h1
      obtain ⟨o, r, ho⟩ := p.par k v0 c1 hv h2
      refine ⟨v0, o, hσ, r, fun a ha0 => ?_⟩
      show w2 a = _
      have ht : tg[k]? = some (.inl i) := tags_ref h1
      simp only [w2, ho a ha0, ht]
  · by_cases hi : i < n
    · rw [List.getElem?_append_left hi] at e
      obtain ⟨o, q2, q3⟩ := S.tmp i vc (by rw [List.getElem?_append_left hi]; exact e)
      have nt : (Sum.inr i : Tag) ∉ tg := fun z => by
        rcases tags_mem z with ⟨j, e1, hj⟩ | ⟨j, e1, hj⟩
        · cases e1
        · have := Sum.inr.inj e1
          omega
      obtain ⟨k1, k2⟩ := others q2 q3 nt fun a ea => cutOwn_tmp ea hi
      exact ⟨o, k1, k2⟩
    · rw [List.getElem?_append_right (by omega)] at e
      have h0 : i - T.length = 0 := by
        cases z : i - T.length with
        | zero => rfl
        | succ k => rw [z] at e; simp at e
      rw [h0] at e
      have e' : (v, c) = vc := Option.some.inj e
      subst e'
      have hin : i = n := by show i = T.length; omega
      subst hin
      obtain ⟨o, r, ho⟩ := p.res
      refine ⟨o, r, fun a ha0 => ?_⟩
      show w2 a = _
      simp only [w2, ho a ha0]
  · refine p.frame a u (S.frame a u e hP) fun ⟨t, _, h⟩ => ?_
    rcases (S.own a t h).2 with z | z
    · exact hP z
    · rw [e] at z; cases z
theorem se_call {K : PySem.W.Frag} {ta : TA} {ms : MA} {m : FM} {n : Nat} {E : XK} (hn : ∀ L avs L', ms L = some (avs, L') → avs.length = n) (h : SA K ta ms) : SE K (fun σ H Q => ta σ H fun vs H1 => spM K m n vs H1 Q E) (mCall m ms) := by
  intro Z σ H L T S c L' hm Q q
  unfold mCall at hm
  split at hm
  · rename_i avs L1 e1
    split at hm
    · rename_i hnd
      split at hm
      · rename_i cs e2
        split at hm
        · rename_i c1 cs' e3
          split at hm
          · rename_i hl
            cases hm
            refine h Z σ H L T S avs L1 e1 _ fun vs H1 tv S1 a1 => ?_
            have := hn L avs L1 e1
            subst this
            exact S1.call a1 hnd e2 e3 hl q
          · cases hm
        · cases hm
      · cases hm
    · cases hm
  · cases hm

/-! ### the def -/
def isD : C → Bool
  | .d _ => true
  | _ => false
/-- what the arguments hold behind the def: data stays; the slots that are never stored tell the rest -/
def outs (ro : List Nat) (L : Ls) : Nat → List C → Option (List C)
  | _, [] => some []
  | i, c :: cs => match (if isD c then some c else if i ∈ ro then (match L[i]? with | some (some c') => some c' | _ => none) else none), outs ro L (i + 1) cs with
    | some c', some r => some (c' :: r)
    | _, _ => none
/-- a def's mirror by its body's: n parameters, s slots -/
def mFn (n s : Nat) (ro : List Nat) (body : MS) : FM := fun cs => if cs.length = n then match body (cs.map some ++ List.replicate (s - n) none) with
    | some (.rt c L) => (outs ro L 0 cs).map fun r => (c, r)
    | some (.nx L) => (outs ro L 0 cs).map fun r => (.d .non, r)
    | _ => none
  else none
theorem outs_len {ro : List Nat} {L : Ls} : ∀ {i : Nat} {cs r : List C}, outs ro L i cs = some r → r.length = cs.length
  | i, [], r, h => by cases h; rfl
  | i, c :: cs, r, h => by
    unfold outs at h
    split at h
    · rename_i c' r' e1 e2
      cases h
      exact congrArg (· + 1) (outs_len e2)
    · cases h
theorem outs_get {ro : List Nat} {L : Ls} : ∀ {i : Nat} {cs r : List C} {k : Nat} {c' : C}, outs ro L i cs = some r → r[k]? = some c' → ∃ c, cs[k]? = some c ∧ ((isD c = true ∧ c' = c) ∨ (i + k ∈ ro ∧ L[i + k]? = some (some c')))
  | i, [], r, k, c', h, e => by cases h; simp at e
  | i, c :: cs, r, k, c', h, e => by
    unfold outs at h
    split at h
    · rename_i c1 r' e1 e2
      cases h
      cases k with
      | zero =>
        have e3 : c1 = c' := by simpa using e
        subst e3
        refine ⟨c, rfl, ?_⟩
        split at e1
        · rename_i hd; cases e1; exact .inl ⟨hd, rfl⟩
        · split at e1
          · rename_i hr
            split at e1
            · rename_i c2 e4
              cases e1
              exact .inr ⟨hr, e4⟩
            · cases e1
          · cases e1
      | succ k =>
        obtain ⟨c2, h1, h2⟩ := outs_get e2 (by simpa using e)
        refine ⟨c2, by simpa using h1, ?_⟩
        have ek : i + 1 + k = i + (k + 1) := by omega
        rw [ek] at h2
        exact h2
    · cases h
/-- from a promise's premise: the state at the body's entry -/
theorem SR.enter {K : PySem.W.Frag} {Hs H : Hp} {w : Own} {tgs : List Tag} {vs : List V} {cs : List C} {ro : List Nat} {N : List PySem.Str} (p : PreM K Hs H w tgs vs cs) : SR K ⟨H, Hs, Pm w tgs, ro, L2.start N vs⟩ (L2.start N vs) H (cs.map some ++ List.replicate (N.length - vs.length) none) [] := by
  refine ⟨Hs, fun a => match w a with
    | some t => (ixOf t tgs).map .inl
    | none => none, Ex.refl _, p.sub, fun a u e => .inl e, fun a t e => ?_, fun i c e => ?_, fun i vc e => by simp at e, fun a u e _ => e, fun i _ => rfl, ?_, p.tups⟩
  · cases hw : w a with
    | none => simp only [hw] at e; cases e
    | some t' =>
      simp only [hw] at e
      cases hx : ixOf t' tgs with
      | none => rw [hx] at e; cases e
      | some k => exact ⟨p.own a t' hw, .inl ⟨t', List.mem_of_getElem? (ixOf_get hx), hw⟩⟩
  · have hi : i < cs.length := by
      by_cases hi : i < cs.length
      · exact hi
      · rw [List.getElem?_append_right (by simpa using hi), List.getElem?_replicate] at e
        split at e <;> cases e
    rw [List.getElem?_append_left (by simpa using hi), List.getElem?_map, List.getElem?_eq_getElem hi] at e
    have e1 : cs[i] = c := by simpa using e
    have hv : i < vs.length := by rw [← p.lenC]; exact hi
    have ht : i < tgs.length := by rw [p.lenT]; exact hv
    obtain ⟨o, r, ho⟩ := p.par i vs[i] cs[i] tgs[i] (List.getElem?_eq_getElem hv) (List.getElem?_eq_getElem hi) (List.getElem?_eq_getElem ht)
    refine ⟨vs[i], o, ?_, by rw [← e1]; exact r, fun a ha => ?_⟩
    · unfold L2.start
      rw [List.getElem?_append_left (by simpa using hv), List.getElem?_map, List.getElem?_eq_getElem hv]
      rfl
    · simp only [ho a ha]
      rw [ixOf_of p.nd (List.getElem?_eq_getElem ht)]
      rfl
  · unfold L2.start
    simp only [List.length_append, List.length_map, List.length_replicate]
    rw [p.lenC]
theorem SR.exit {K : PySem.W.Frag} {Hs H H' : Hp} {w : Own} {tgs : List Tag} {vs : List V} {cs cs' : List C} {ro : List Nat} {N : List PySem.Str} {σ : L2.St} {L : Ls} {v : V} {c : C} (p : PreM K Hs H w tgs vs cs) (hvN : vs.length ≤ N.length) (S : SR K ⟨H, Hs, Pm w tgs, ro, L2.start N vs⟩ σ H' L [(v, c)]) (ho : outs ro L 0 cs = some cs') :
    ∃ Hs' w', PostM K Hs H w tgs vs cs' c v H' Hs' w' := by
  obtain ⟨Hs', w2, S⟩ := S
  refine ⟨Hs', fun a => match w2 a with
    | some (.inr _) => some 0
    | some (.inl k) => some (k + 1)
    | none => none, S.grow, S.sub, S.news, fun a t e => ?_, by rw [outs_len ho, p.lenC], fun k v0 c0 h1 h2 => ?_, ?_, S.frame, S.tups⟩
  · cases hw : w2 a with
    | none => simp only [hw] at e; cases e
    | some t' => exact S.own a t' hw
  · obtain ⟨c1, e1, h⟩ := outs_get ho h2
    rcases h with ⟨hd, rfl⟩ | ⟨hr, hL⟩
    · have ht : k < tgs.length := by rw [p.lenT]; exact (List.getElem?_eq_some_iff.mp h1).1
      obtain ⟨o, r, _⟩ := p.par k v0 c0 tgs[k] h1 e1 (List.getElem?_eq_getElem ht)
      cases c0 with
      | d x => exact ⟨[], .d (r.data.ex S.grow), fun a ha => absurd ha (by simp)⟩
      | _ => cases hd
    · rw [Nat.zero_add] at hr hL
      obtain ⟨v1, o, q1, q2, q3⟩ := S.slot k c0 hL
      have e2 := S.rd k hr
      rw [q1] at e2
      have hk : k < vs.length := (List.getElem?_eq_some_iff.mp h1).1
      have e3 : (L2.start N vs)[k]? = some (some v0) := by
        unfold L2.start
        rw [List.getElem?_append_left (by simpa using hk), List.getElem?_map, h1]
        rfl
      have e4 : some (some v1) = some (some v0) := e2.trans e3
      cases e4
      exact ⟨o, q2, fun a ha => by simp only [q3 a ha]⟩
  · obtain ⟨o, r, hw⟩ := S.tmp 0 (v, c) rfl
    exact ⟨o, r, fun a ha => by simp only [hw a ha]⟩
/-- THE BODY: its mirror gives the def's -/
theorem spM_body {K : PySem.W.Frag} {ro : List Nat} {t : TS} {body : MS} {N ps : List PySem.Str} {vs : List V} {H : Hp} {Q : VK} {E : XK} (hpN : ps.length ≤ N.length) (hb : SS K ro t body) (h : spM K (mFn ps.length N.length ro body) ps.length vs H Q E) : t { nx := fun _ H' => Q .non H', rt := Q } (L2.start N vs) H := by
  obtain ⟨hl, Hs, w, tgs, cs, cs', c, p, hm, q⟩ := h
  unfold mFn at hm
  split at hm
  · rename_i hcl
    have S := SR.enter (ro := ro) (N := N) p
    rw [hl] at S
    split at hm
    · rename_i c1 L1 e1
      cases e2 : outs ro L1 0 cs with
      | none => rw [e2] at hm; cases hm
      | some r =>
        rw [e2] at hm
        cases hm
        refine hb _ rfl _ H _ [] S _ e1 _ fun σ' v H' S' => ?_
        obtain ⟨Hs', w', pm⟩ := SR.exit p (by rw [hl]; exact hpN) S' e2
        exact q v H' Hs' w' pm
    · rename_i L1 e1
      cases e2 : outs ro L1 0 cs with
      | none => rw [e2] at hm; cases hm
      | some r =>
        rw [e2] at hm
        cases hm
        refine hb _ rfl _ H _ [] S _ e1 _ fun σ' H' S' => ?_
        have S2 : SR K _ σ' H' L1 ([] ++ [(V.non, C.d .non)]) := S'.pushC fun _ => .non
        obtain ⟨Hs', w', pm⟩ := SR.exit p (by rw [hl]; exact hpN) S2 e2
        exact q _ H' Hs' w' pm
    · cases hm
  · cases hm
end VS

/-! defs and their calls: the machine's side; no guard is on the stack -/
namespace VS
open PySem PySem.Spec L2
open Evl (Ex Ex.refl Ex.trans Ex.new)

/-- the def at f gives what its mirror m says, where no repr is under way -/
structure FnG (P : Program) (w : World) (K : PySem.W.Frag) (mg : PySem.Str → Option Value) (base : Heap) (k : Nat) (f : Addr) (fd : FuncData) (ps : List PySem.Str) (m : FM) : Prop where
  run : ∀ (A : Around) (fr : List Env) (st : Shared) (H : Hp) (ags : Args) (us : List Value) (vs : List V) (Q : VK) (E : XK), A.guards = some [] → Room k A → Env0 P w K mg base A fr st H → BindsTo st fd ags (ps.zip us) →
    Vals vs us → spM K m ps.length vs H Q E → codeAny (model P w) A (.call (.ref f) ags) (CR CX0 fr P w H st Q E) st
theorem FnG.mono {P : Program} {w : World} {K : PySem.W.Frag} {mg : PySem.Str → Option Value} {base : Heap} {j k : Nat} {f : Addr} {fd : FuncData} {ps : List PySem.Str} {m : FM} (F : FnG P w K mg base j f fd ps m) (h : j ≤ k) : FnG P w K mg base k f fd ps m :=
  ⟨fun A fr st H ags us vs Q E g hr => F.run A fr st H ags us vs Q E g (hr.mono h)⟩
/-- another mirror that says no more -/
theorem FnG.imp {P : Program} {w : World} {K : PySem.W.Frag} {mg : PySem.Str → Option Value} {base : Heap} {k : Nat} {f : Addr} {fd : FuncData} {ps : List PySem.Str} {m m' : FM} (F : FnG P w K mg base k f fd ps m) (h : ∀ cs r, m' cs = some r → m cs = some r) : FnG P w K mg base k f fd ps m' :=
  ⟨fun A fr st H ags us vs Q E g hr he hb hv ⟨h1, Hs, w, tgs, cs, cs', c, p, hm, q⟩ => F.run A fr st H ags us vs Q E g hr he hb hv ⟨h1, Hs, w, tgs, cs, cs', c, p, h _ _ hm, q⟩⟩

section
variable {P : Program} {w : World} {K : PySem.W.Frag} {mg : PySem.Str → Option Value} {base : Heap}
/-- THE RULE for a def of the text -/
theorem fnG_of {x qual : PySem.Str} {st : Stmt} {f : Addr} {fd : FuncData} {N ps : List PySem.Str} {k : Nat} {ro : List Nat} {body : MS} (F : Fun K x qual st f fd) (S : FnScope N ps (defScope st))
    (hb : ∀ (X : Cx), X.prog = P → X.w = w → X.K = K → X.mg = mg → X.base = base → X.N = N → X.env.scope = defScope st → X.calm = true → X.fn = (fun _ => true) → Room k X.A → X.A.guards = some [] → (X.xe = fun _ _ => False) → ∃ t, JSs X ro (defBody st) t body) : FnG P w K mg base (k + 1) f fd ps (mFn ps.length N.length ro body) := by
  obtain ⟨oc, od, kV, doc, pm, an, cdv, ct, osl, rfl, lk, hcd⟩ := F.ex
  have hpN : ps.length ≤ N.length := by
    have e := congrArg List.length S.pre
    rw [List.length_take] at e
    omega
  refine ⟨fun A fr s0 H ags us vs Q E hG hR e0 bnd rv hsp => ?_⟩
  have lv : vs.length = ps.length := hsp.1
  have kin : K.In s0.heap := e0.mod.kin.keeps fun a o h => (e0.bs a o h).1
  have nlm : s0.heap.NoLimit := e0.mod.nolimit.keeps fun a o h => (e0.bs a o h).1
  have kinds : ∀ y ∈ ps.zip us, (defScope st).names.lookup y.1 = some .local ∨ ((defScope st).names.lookup y.1 = some .cell ∧ ((cellsFrom (s0.heap.objs.size + 1) (defScope st).names []).lookup y.1).isSome = true) := by
    intro ⟨n, v⟩ hy
    have hn := (List.of_mem_zip hy).1
    cases S.par n hn with
    | inl q => exact .inl q
    | inr q => exact .inr ⟨q, PySem.W.cellsFrom_some _ _ _ (.inl q)⟩
  refine codeAny_call_function hR.depth (kin _ _ lk) rfl S.co S.gen rfl (PySem.W.codeRec_of kin hcd) (bnd _ _ _ _ (wpAny_newFunctionEnv_cells S.kind kinds fun env henv s1 hx => ?_))
  subst henv
  refine ⟨nlm.keeps hx.toInCall.keep, codeAny_func ?_⟩
  have I := inv_start (CX := CX0) (mg := mg) (base := base) (E := E) S hR.hd e0 lv rv hx
  obtain ⟨t, ht⟩ := hb (cxOf CX0 P w K mg base N qual (defScope st) f cdv A fr s0 H E).nox rfl rfl rfl rfl rfl rfl rfl rfl rfl (hR.deeper _) hG rfl
  have read := spM_body (N := N) (ps := ps) hpN ht.ss hsp
  refine wpAny_mono (ht.ps.nox.run [] s1 _ H { nx := fun _ H' => Q .non H', rt := Q } I read) (fun fl s2 hs => ?_) fun _ _ z => z
  have done : ∀ {σ2 : L2.St} {H2 : Hp} {v : V} {u : Value}, Inv (cxOf CX0 P w K mg base N qual (defScope st) f cdv A fr s0 H E) [] σ2 H2 s2 → RelV v u → Q v H2 → CE fr P w H s0 Q u s2 :=
    fun J r q => ⟨_, _, J.os, J.bare, J.base, J.hok, r, q⟩
  match fl, hs with
  | .ret u, ⟨v, _, _, J, r, q⟩ => exact done J r q
  | .next, ⟨_, _, J, q⟩ => exact done (v := .non) (u := .none) J rfl q
  | .brk, ⟨_, _, _, q⟩ => exact q.elim
  | .cont, ⟨_, _, _, q⟩ => exact q.elim
end

/-! ### calls -/
section
variable {X : Cx} {k : Nat} {f : Addr} {fd : FuncData} {ps : List PySem.Str} {m : FM} {x : PySem.Str} {p pos : Pos} {a : Expr} {es : List Expr} {kws : List Keyword} {ta tk : TA} {ma mk : MA} {ds : List Value} {dvs : List V}
theorem run_fnG {pins : List (Addr × Obj)} {σ : L2.St} {H : Hp} {s : Shared} {Q : VK} {us : List Value} {vs : List V} {ags : Args} (F : FnG X.prog X.w X.K X.mg X.base k f fd ps m) (hr : Room k X.A) (hG : X.A.guards = some []) (I : Inv X pins σ H s)
    (hb : BindsTo s fd ags (ps.zip us)) (r : Vals vs us) (h : spM X.K m ps.length vs H Q E0) : codeAny (model X.prog X.w) X.A (.call (.ref f) ags) (fun z s' => match z with | .ok (.ret v) => EP X pins σ Q v s' | .ok _ => False | .error e => X.xe e s') s := by
  refine codeAny_mono (F.run X.A X.stack s H ags us vs Q E0 hG hr I.env0 hb r h) fun z s' hz => ?_
  match z, hz with
  | .ok (.ret u), hz => exact I.after hz
theorem pe_callG (F : FnG X.prog X.w X.K X.mg X.base k f fd ps m) (hr : Room k X.A) (hG : X.A.guards = some []) (hg : Gl X x) (hm : X.mg x = some (.ref f)) (hk : PySem.W.keepIn X.K (.ref f) = true) (hb : Binds X.K fd ps []) (ha : PA X (a :: es) ta)
    (hdb : (x == ("__debug__" : PySem.Str)) = false := by decide) (he : starEach (a :: es) X.env = (false, eval a X.env) :: starEach es X.env := by rfl) (hpl : (backTo pos (starEach es X.env)).any (·.1) = false := by rfl) :
    PE X (.Call (.Name x p) (a :: es) [] pos) (fun σ H Q => ta σ H fun vs H1 => spM X.K m ps.length vs H1 Q E0) := by
  refine ⟨fun pins s σ H Q I h => wpAny_Call_Name_kw (ld_glob I hg hm ?_ hdb)⟩
  refine PySem.W.callWith_K (h₀ := X.base) I.ok.mod.kin hk (thn (ha.run pos pins s σ H _ I h) fun us s1 ⟨vs, H1, I1, r, q⟩ => ⟨I1.kIn, ?_⟩) he hpl
  have hl : us.length = ps.length := by rw [← r.length]; exact q.1
  have hbb := hb s1 us I1.kIn (by rw [List.append_nil]; exact hl)
  rw [List.append_nil] at hbb
  exact wpAny_call (run_fnG F hr hG I1 hbb r q)
theorem je_call (F : FnG X.prog X.w X.K X.mg X.base k f fd ps m) (hr : Room k X.A) (hG : X.A.guards = some []) (hg : Gl X x) (hm : X.mg x = some (.ref f)) (hk : PySem.W.keepIn X.K (.ref f) = true) (hb : Binds X.K fd ps []) (ha : JA X (a :: es) ta ma)
    (hn : ∀ L avs L', ma L = some (avs, L') → avs.length = ps.length)
    (hdb : (x == ("__debug__" : PySem.Str)) = false := by decide) (he : starEach (a :: es) X.env = (false, eval a X.env) :: starEach es X.env := by rfl) (hpl : (backTo pos (starEach es X.env)).any (·.1) = false := by rfl) :
    JE X (.Call (.Name x p) (a :: es) [] pos) (fun σ H Q => ta σ H fun vs H1 => spM X.K m ps.length vs H1 Q E0) (mCall m ma) := ⟨pe_callG F hr hG hg hm hk hb ha.pa hdb he hpl, se_call hn ha.sa⟩
/-- how many arguments there are -/
theorem maNil_len : ∀ L avs L', maNil L = some (avs, L') → avs.length = 0 := by
  intro L avs L' h
  cases h
  rfl
theorem maCons_len {g : MG} {r : MA} {n : Nat} (h : ∀ L avs L', r L = some (avs, L') → avs.length = n) : ∀ L avs L', maCons g r L = some (avs, L') → avs.length = n + 1 := by
  intro L avs L' e
  unfold maCons at e
  split at e
  · split at e
    · rename_i avs1 L2 e2
      cases e
      exact congrArg (· + 1) (h _ _ _ e2)
    · cases e
  · cases e
/-- keyword arguments are evaluated as they stand -/
structure JK (X : Cx) (kws : List Keyword) (t : TA) (m : MA) : Prop where
  pk : PK X kws t
  sa : SA X.K t m
theorem jk_nil : JK X [] tNil maNil := ⟨pk_nil, sa_nil⟩
end
end VS

/-! calls by keywords; the law's end -/
namespace VS
open PySem PySem.Spec L2
open Evl (Ex Ex.refl Ex.trans Ex.new)

/-! ### calls whose arguments are data, in any order -/
def pick {α : Type} (π : List Nat) (l : List α) : List α := π.filterMap fun i => l[i]?
theorem pick_len {α : Type} : ∀ {π : List Nat} {l : List α}, (∀ i ∈ π, i < l.length) → (pick π l).length = π.length
  | [], _, _ => rfl
  | i :: π, l, h => by
    have hi := h i (by simp)
    unfold pick
    rw [List.filterMap_cons, List.getElem?_eq_getElem hi]
    exact congrArg (· + 1) (pick_len (π := π) fun j hj => h j (List.mem_cons_of_mem _ hj))
theorem pick_vals {π : List Nat} : ∀ {vs : List V} {us : List Value}, Vals vs us → Vals (pick π vs) (pick π us) := by
  intro vs us r
  induction π with
  | nil => exact .nil
  | cons i π ih =>
    unfold pick at ih ⊢
    rw [List.filterMap_cons, List.filterMap_cons]
    cases e : vs[i]? with
    | none => rw [r.none_of e]; exact ih
    | some v =>
      obtain ⟨u, hu, ru⟩ := r.get e
      rw [hu]
      exact .cons ru ih
theorem pick_dts {K : PySem.W.Frag} {H : Hp} {π : List Nat} : ∀ {vs : List V} {xs : List D}, Dts K H vs xs → Dts K H (pick π vs) (pick π xs) := by
  intro vs xs r
  induction π with
  | nil => exact .nil
  | cons i π ih =>
    unfold pick at ih ⊢
    rw [List.filterMap_cons, List.filterMap_cons]
    cases e : vs[i]? with
    | none =>
      have : xs[i]? = none := by
        rw [List.getElem?_eq_none_iff] at e ⊢
        rw [← r.len]; exact e
      rw [this]; exact ih
    | some v =>
      obtain ⟨u, hu, ru⟩ := r.getV e
      rw [hu]
      exact .cons ru ih
/-- a call of data in the order π -/
def mCallD (m : FM) (π : List Nat) (ms : MA) : ME := fun L => match ms L with
  | some (avs, L1) => match conts L1 avs with
    | some cs => match datas cs with
      | some xs => match m ((pick π xs).map .d) with
        | some (c, _) => some (c, L1)
        | none => none
      | none => none
    | none => none
  | none => none
theorem dataPre {K : PySem.W.Frag} {Hs H : Hp} {vs : List V} {xs : List D} (s : Ex Hs H) (ht : ∀ a xs, H a = some (.tup xs) → Hs a = some (.tup xs)) (h : Dts K Hs vs xs) : PreM K Hs H (fun _ => none) ((List.range vs.length).map .inr) vs (xs.map .d) :=
  ⟨by rw [List.length_map, h.len], by rw [List.length_map, List.length_range], List.Pairwise.map _ (fun a b hab e => hab (Sum.inr.inj e)) List.nodup_range, s, fun _ _ e => (nomatch e), fun k v c t h1 h2 _ => by
    rw [List.getElem?_map] at h2
    obtain ⟨x, hx, hd⟩ := h.getV h1
    rw [hx] at h2
    cases h2
    exact ⟨[], .d hd, fun a ha => absurd ha (by simp)⟩, ht⟩
theorem SR.callD {K : PySem.W.Frag} {Z : Stat} {σ : L2.St} {H : Hp} {L : Ls} {T tv : List (V × C)} {avs : List AV} {vs : List V} {cs : List C} {xs : List D} {c : C} {cs' : List C} {m : FM} {Q : VK} {E : XK} {π : List Nat} {n : Nat} (S : SR K Z σ H L (T ++ tv)) (ha : AvOk σ avs vs tv) (hc : conts L avs = some cs) (hx : datas cs = some xs)
    (hf : m ((pick π xs).map .d) = some (c, cs')) (hn : (pick π vs).length = n) (q : ∀ v H', SR K Z σ H' L (T ++ [(v, c)]) → Q v H') : spM K m n (pick π vs) H Q E := by
  obtain ⟨Hs, w, S⟩ := S
  have d : Dts K Hs vs xs := datas_reps hx (by rw [ha.len, conts_len hc]) fun k v c h1 h2 => by
    obtain ⟨o, t, _, r, _⟩ := S.args ha hc k v c h1 h2
    exact ⟨o, r⟩
  refine ⟨hn, Hs, fun _ => none, _, _, cs', c, dataPre S.sub S.tups (pick_dts (π := π) d), hf, fun v H' Hs' w' p => ?_⟩
  have np : ∀ a, ¬ Pm (fun _ => none) ((List.range (pick π vs).length).map Sum.inr) a := fun a ⟨t, _, e⟩ => by cases e
  have g : Grow Hs H Hs' H' := ⟨fun a u e => p.frame a u e (np a), p.exs, p.sub, fun a u e => by
    rcases p.news a u e with z | z | z
    · exact .inl z
    · exact absurd z (np a)
    · exact .inr z, fun a xs e => .inr (p.tups a xs e)⟩
  obtain ⟨o, r, ho⟩ := p.res
  have S1 := S.result (n := T.length) (by rw [List.length_append]; omega) g r (fun a ha0 => by
    have z := p.own a 0 (ho a ha0)
    exact ⟨z.2.resolve_left (np a), z.1⟩) g.new
  rw [List.take_left] at S1
  exact q v H' S1
section
variable {X : Cx} {k : Nat} {f : Addr} {fd : FuncData} {ps ks : List PySem.Str} {m : FM} {x : PySem.Str} {p pos : Pos} {a e : Expr} {es : List Expr} {kws : List Keyword} {ta tk : TA} {ma mk : MA} {te : TE} {g : MG} {nm : Option PySem.Str} {kpos : Pos}
theorem jk_cons (h : JG X e te g) (hr : JK X kws tk mk) : JK X (⟨nm, e, kpos⟩ :: kws) (tCons te tk) (maCons g mk) := ⟨pk_cons h.pe hr.pk, sa_cons h.se hr.sa⟩
/-- how keywords alone bind -/
def KB0 (K : PySem.W.Frag) (fd : FuncData) (ps ks : List PySem.Str) (π : List Nat) : Prop := ∀ (s : Shared) (ws : List Value), K.In s.heap → ws.length = ks.length → BindsTo s fd ⟨[], ks.zip ws⟩ (ps.zip (pick π ws))
theorem je_callK0 (π : List Nat) (F : FnG X.prog X.w X.K X.mg X.base k f fd ps m) (hr : Room k X.A) (hG : X.A.guards = some []) (hg : Gl X x) (hm : X.mg x = some (.ref f)) (hk : PySem.W.keepIn X.K (.ref f) = true) (hb : KB0 X.K fd ps ks π) (ha : JK X kws tk mk)
    (hn : ∀ L avs L', mk L = some (avs, L') → avs.length = ks.length) (hp : ∀ i ∈ π, i < ks.length := by decide) (hpl2 : π.length = ps.length := by rfl)
    (hall : (backToKw pos (keywordEach kws X.env)).all (·.1.isSome) = true := by rfl) (hks : (backToKw pos (keywordEach kws X.env)).filterMap (·.1) = ks := by rfl) (hdb : (x == ("__debug__" : PySem.Str)) = false := by decide)
    (hpl : ((backTo pos (starEach [] X.env)).any (·.1) || (backToKw pos (keywordEach kws X.env)).any (·.1.isNone)) = false := by rfl) :
    JE X (.Call (.Name x p) [] kws pos) (fun σ H Q => tk σ H fun vs H1 => vs.length = ks.length ∧ spM X.K m ps.length (pick π vs) H1 Q E0) (mCallD m π mk) := by
  refine ⟨⟨fun pins s σ H Q I h => wpAny_Call_Name_kw (ld_glob I hg hm ?_ hdb)⟩, ?_⟩
  · refine PySem.W.callWith_KW0 (h₀ := X.base) I.ok.mod.kin hk hall ?_ hpl
    refine thn (ha.pk.run pos pins s σ H _ I h) fun ws s1 ⟨zs, H1, I1, r, hl, q⟩ => ⟨I1.kIn, ?_⟩
    rw [hks]
    exact wpAny_call (run_fnG F hr hG I1 (hb s1 ws I1.kIn (by rw [← r.length]; exact hl)) (pick_vals r) q)
  · intro Z σ H L T S c L' hmm Q q
    unfold mCallD at hmm
    split at hmm
    · rename_i avs L1 e1
      split at hmm
      · rename_i cs e2
        split at hmm
        · rename_i xs e3
          split at hmm
          · rename_i c1 cs' e4
            cases hmm
            refine ha.sa Z σ H L T S avs L' e1 _ fun vs H1 tv S1 a1 => ?_
            have hl : vs.length = ks.length := by rw [a1.len]; exact hn L avs L' e1
            exact ⟨hl, S1.callD a1 e2 e3 e4 (by rw [pick_len (fun i hi => by rw [hl]; exact hp i hi), hpl2]) q⟩
          · cases hmm
        · cases hmm
      · cases hmm
    · cases hmm
/-- positional arguments, then keywords -/
def KBn (K : PySem.W.Frag) (fd : FuncData) (ps ks : List PySem.Str) (n : Nat) (π : List Nat) : Prop := ∀ (s : Shared) (us ws : List Value), K.In s.heap → us.length = n → ws.length = ks.length → BindsTo s fd ⟨us, ks.zip ws⟩ (ps.zip (pick π (us ++ ws)))
theorem sa_append {K : PySem.W.Frag} {t t' : TA} {m m' : MA} (h : SA K t m) (h' : SA K t' m') : SA K (fun σ H Q => t σ H fun vs H1 => t' σ H1 fun ws H2 => Q (vs ++ ws) H2) (fun L => match m L with
    | some (avs, L1) => match m' L1 with
      | some (avs', L2) => some (avs ++ avs', L2)
      | none => none
    | none => none) := by
  intro Z σ H L T S avs L' hm Q q
  simp only at hm
  split at hm
  · rename_i avs1 L1 e1
    split at hm
    · rename_i avs2 L2 e2
      cases hm
      refine h Z σ H L T S avs1 L1 e1 _ fun vs H1 tv S1 a1 => ?_
      refine h' Z σ H1 L1 _ S1 avs2 L' e2 _ fun ws H2 tv2 S2 a2 => ?_
      refine q (vs ++ ws) H2 (tv ++ tv2) (by rw [← List.append_assoc]; exact S2) ?_
      clear e1 q S1 S2
      induction a1 with
      | nil => exact a2
      | val _ ih => exact .val ih
      | ref e _ ih => exact .ref e ih
    · cases hm
  · cases hm
end

/-! ### the law's end -/
/-- the law's promise for a script: its mirror says True -/
theorem law_callG {P : Program} {w : World} {K : PySem.W.Frag} {mg mb : PySem.Str → Option Value} {k : Nat} {fa a : Addr} {fd : FuncData} {x : PySem.Str} {m : FM} {s1 : Shared} {vs : List Value} {ns : List Int}
    (kin : K.In s1.heap) (gl : s1.heap.Ns mainGlobals mg) (bl : s1.heap.Ns builtinsNs mb) (bt : ∀ y : PySem.Str, y ≠ "__name__" → mb y = bootBuiltins y) (lim : s1.heap.NoLimit) (gen : s1.gens = #[])
    (ha : s1.heap.get? a = some { cls := .type "list", data := .seq vs.toArray }) (hi : PyProof.Rows.IntsAre vs ns) (hl : ns.length ≤ sizeLine) (room : Room k callerA)
    (F : ∀ base : Heap, K.In base → base.Ns mainGlobals mg → FnG P w K mg base k fa fd [x] m) (bind : ∀ (s : Shared) (u : Value), BindsTo s fd ⟨[u], []⟩ [(x, u)])
    (hm : ∃ cs', m [.d (.lst (ns.map .int))] = some (.d (.bl true), cs')) :
    codeAny (model P w) callerA (.call (.ref fa) ⟨[.ref a], []⟩) (fun r s' => r = .ok (.ret (.bool true)) ∧ OldK s1.heap s'.heap ∧ s'.os = s1.os ∧ PyProof.Rows.AllBare s'.gens) s1 := by
  have rv := vals_ints hi
  -- the abstract heap: the script alone, if it is no object of the module
  obtain ⟨H, onlyA, known, notK, sq, hok⟩ : ∃ H : Hp, (∀ b u, H b = some u → b = a ∧ ∃ o xs, u = .frz o (.lst xs)) ∧ (∀ b o xs, H b = some (.frz o (.lst xs)) → s1.heap.get? b = some o) ∧ (H a ≠ none → K.lookup a = none) ∧ SqL K H a (ns.map V.int) ∧ HOk P w H s1.heap := by
    cases hk : K.lookup a with
    | some o =>
      have e := kin a o hk
      rw [ha] at e
      cases e
      refine ⟨fun _ => none, fun b u z => (nomatch z), fun b o xs z => (nomatch z), fun z => absurd rfl z, .inr ⟨_, vs.toArray, _, hk, rfl, rfl, rfl, ?_, by simpa using rv⟩, fun b u z => (nomatch z)⟩
      rw [List.size_toArray, hi.length]
      exact hl
    | none =>
      refine ⟨fun b => if b = a then some (.frz { cls := .type "list", data := .seq vs.toArray } (.lst (ns.map V.int))) else none, fun b u z => ?_, fun b o xs z => ?_, fun _ => rfl, .inl (.inr ⟨_, if_pos rfl⟩), fun b u z => ?_⟩
      · by_cases hb : b = a
        · simp only [hb, if_true] at z
          cases z
          exact ⟨hb, _, _, rfl⟩
        · simp only [hb, if_false] at z
          cases z
      · by_cases hb : b = a
        · simp only [hb, if_true] at z
          cases z
          rw [hb]
          exact ha
        · simp only [hb, if_false] at z
          cases z
      · by_cases hb : b = a
        · simp only [hb, if_true] at z
          cases z
          rw [hb]
          exact ⟨ha, by rw [List.length_map]; exact hl, vs, _, rv, ha⟩
        · simp only [hb, if_false] at z
          cases z
  -- the base: all but the script
  have dictFree : ∀ {b : Addr} {o : Obj} {es : Array DictEntry} {ep : Nat}, s1.heap.get? b = some o → o.data = .dict es ep → H b = none := fun {b o es ep} e d => by
    cases q : H b with
    | none => rfl
    | some u =>
      obtain ⟨rfl, _⟩ := onlyA b u q
      rw [ha] at e
      cases e
      cases (show Data.seq vs.toArray _ = Data.dict es ep from d)
  have nsOf : ∀ {b : Addr} {mp : PySem.Str → Option Value}, s1.heap.Ns b mp → (hidT s1.heap H).Ns b mp := fun ⟨o, es, ep, e, d, r⟩ => ⟨o, es, ep, hidT_get e (dictFree e d), d, r⟩
  have kinB : K.In (hidT s1.heap H) := fun b o e => hidT_get (kin b o e) (by
    cases q : H b with
    | none => rfl
    | some u =>
      obtain ⟨rfl, _⟩ := onlyA b u q
      rw [notK (by rw [q]; simp)] at e
      cases e)
  have md : Mod K mg (hidT s1.heap H) := ⟨kinB, nsOf gl, ⟨mb, nsOf bl, bt⟩, let ⟨mc, h1, h2⟩ := lim; ⟨mc, nsOf h1, h2⟩⟩
  have e0 : Env0 P w K mg (hidT s1.heap H) callerA [] s1 H := ⟨rfl, md, fun b o e => of_hidT e, Nat.le_of_eq (hidT_size _ _), trivial, fun b hb => absurd (show b ∈ ([] : List Addr) from hb) (by simp), hok, .of_eq gen⟩
  obtain ⟨cs', hm⟩ := hm
  have pre : PreM K H H (fun _ => none) ((List.range 1).map .inr) [.ref a] ([D.lst (ns.map .int)].map .d) := dataPre (vs := [.ref a]) (Ex.refl _) (fun _ _ e => e) (.cons (.lst sq (Dts.ints ns)) .nil)
  have sp : spM K m 1 [.ref a] H (fun v _ => v = .bl true) (fun _ _ _ => False) := ⟨rfl, H, _, _, _, cs', _, pre, hm, fun v H' Hs' w' p => by
    obtain ⟨o, r, _⟩ := p.res
    exact r.bl⟩
  refine codeAny_mono ((F _ kinB (nsOf gl)).run callerA [] s1 H ⟨[.ref a], []⟩ [.ref a] [.ref a] _ _ rfl room e0 (bind s1 (.ref a)) (.cons rfl .nil) sp) fun r s' h => ?_
  match r, h with
  | .ok (.ret u), ⟨v, H', os, bare, un, hok', rr, q⟩ =>
    have q' : v = .bl true := q
    subst q'
    obtain rfl : u = Value.bool true := rr
    refine ⟨rfl, OldK.of_keep fun b o e => ?_, os, bare⟩
    cases z : H b with
    | none => exact un.keep b o e z (by intro y; exact absurd (show b ∈ ([] : List Addr) from y) (by simp)) (by simp)
    | some u =>
      obtain ⟨_, ob, xs, rfl⟩ := onlyA b u z
      obtain ⟨e2, _⟩ := hok' b _ (un.frzs b ob _ z)
      rw [known b ob xs z] at e
      cases e
      exact e2
theorem walk_ofG {l : PySem.W.OpenLaw} {n k : Nat} {q : Program} {loose : List PySem.Str} {XP : (PySem.Str → Option Value) → Heap → Prop} {YP : World → Heap → Prop} {d : DefRec} {K : Params → PySem.W.Frag} {x : PySem.Str} {m : FM}
    (hn : l.most = some n) (hn2 : n ≤ sizeLine) (hdf : d.params.defaults = []) (room : Room k callerA) (hY : ∀ (w : World) (h : Heap), YP w h → (K w.params).In h)
    (F : ∀ (w : World) (mg : PySem.Str → Option Value) (fa : Addr) (h : Heap), (K w.params).In h → h.Ns mainGlobals mg → mg d.name = some (.ref fa) →
      ∃ fd : FuncData, (∀ (s : Shared) (u : Value), BindsTo s fd ⟨[u], []⟩ [(x, u)]) ∧ ∀ base : Heap, (K w.params).In base → base.Ns mainGlobals mg → FnG l.prog w (K w.params) mg base k fa fd [x] m)
    (hm : ∀ ns : List Int, ns.length ≤ n → ∃ cs', m [.d (.lst (ns.map .int))] = some (.d (.bl true), cs')) :
    PySem.W.WalkO q loose XP YP l.row.toRowW d [] (fun f vs => PySem.call f vs) := by
  refine Att.attach_call hn hdf fun w s0 s1 mg mb fa o pm cd doc a vs ns G Y ho hd hcd hmg hobj hints hlen hg => ?_
  have kin := hY w _ Y
  obtain ⟨fd, hb, hF⟩ := F w mg fa _ kin G.T.g hmg
  exact law_callG kin G.T.g G.T.b G.T.builtins G.T.nolimit hg hobj hints (Nat.le_trans hlen hn2) room hF hb (hm ns hlen)
end VS

/-! what is moved, changed in place, stored at a place -/
namespace VS
open PySem PySem.Spec L2
open Evl (Ex Ex.refl Ex.trans Ex.new)

/-! ### a slot's content is moved out -/
section
variable {K : PySem.W.Frag} {Z : Stat} {σ : L2.St} {H H' : Hp} {L : Ls} {T : List (V × C)}
theorem SR.move (S : SR K Z σ H L T) {i : Nat} {c : C} (h : L[i]? = some (some c)) : ∃ v, σ[i]? = some (some v) ∧ SR K Z σ H (L.set i none) (T ++ [(v, c)]) := by
  classical
  obtain ⟨Hs, w, S⟩ := S
  obtain ⟨v, o, h1, h2, h3⟩ := S.slot i _ h
  refine ⟨v, h1, ?_⟩
  have S1 := S.cut T.length
  rw [List.take_length] at S1
  let w1 : Own := fun a => if w a = some (.inl i) then some (.inr T.length) else cutOwn w T.length a
  refine ⟨Hs, w1, S.grow, S.sub, S.news, fun a t e => ?_, fun j c' e => ?_, fun j vc e => ?_, S.frame, S.rd, by rw [List.length_set]; exact S.len, S.tups⟩
  · have e2 : (if w a = some (.inl i) then some (.inr T.length) else cutOwn w T.length a) = some t := e
    split at e2
    · rename_i q; exact S.own a _ q
    · exact S.own a t (cutOwn_some e2)
  · by_cases hj : j = i
    · subst hj
      rw [List.getElem?_set] at e
      split at e
      · split at e <;> cases e
      · rename_i q; exact absurd rfl q
    · rw [List.getElem?_set_ne (Ne.symm hj)] at e
      obtain ⟨v', o', q1, q2, q3⟩ := S1.slot j c' e
      refine ⟨v', o', q1, q2, fun a ha => ?_⟩
      show (if w a = some (.inl i) then _ else _) = _
      rw [if_neg (fun z => by rw [cutOwn_some (q3 a ha)] at z; exact hj (Sum.inl.inj (Option.some.inj z)))]
      exact q3 a ha
  · by_cases hi : j < T.length
    · rw [List.getElem?_append_left hi] at e
      obtain ⟨o', q2, q3⟩ := S1.tmp j vc e
      refine ⟨o', q2, fun a ha => ?_⟩
      show (if w a = some (.inl i) then _ else _) = _
      rw [if_neg (fun z => by rw [cutOwn_some (q3 a ha)] at z; cases z)]
      exact q3 a ha
    · rw [List.getElem?_append_right (by omega)] at e
      have h0 : j - T.length = 0 := by
        cases q : j - T.length with
        | zero => rfl
        | succ k => rw [q] at e; simp at e
      rw [h0] at e
      have e' : (v, c) = vc := Option.some.inj e
      subst e'
      have : j = T.length := by omega
      subst this
      refine ⟨o, h2, fun a ha => ?_⟩
      show (if w a = some (.inl i) then _ else _) = _
      rw [if_pos (h3 a ha)]
end
def mMove (i : Nat) : ME := fun L => match L[i]? with
  | some (some c) => some (c, L.set i none)
  | _ => none
theorem se_move {K : PySem.W.Frag} {i : Nat} : SE K (tVar i) (mMove i) := by
  intro Z σ H L T S c L' hm Q q
  unfold mMove at hm
  split at hm
  · rename_i c0 h
    cases hm
    obtain ⟨v, hv, S1⟩ := S.move h
    exact ⟨v, hv, q v H S1⟩
  · cases hm
theorem je_move {X : Cx} {pos : Pos} (i : Nat) {x : PySem.Str} (hN : X.N[i]? = some x := by rfl) (hv : Vis X.env.scope x := by first | exact Or.inl rfl | exact Or.inr (Or.inl rfl) | exact Or.inr (Or.inr rfl)) (hd : (x == ("__debug__" : PySem.Str)) = false := by decide)
    (hcd : (x == ("__classdict__" : PySem.Str)) = false := by decide) : JE X (.Name x pos) (tVar i) (mMove i) := ⟨pe_var hN hv hd hcd, se_move⟩

/-! ### what changes its arguments, by contents -/
def EffR (K : PySem.W.Frag) (n : Nat) (r : List V → Hp → VK → Prop) (m : FM) : Prop := ∀ vs H Q, spM K m n vs H Q E0 → r vs H Q
theorem EffR.or {K : PySem.W.Frag} {n : Nat} {r r' : List V → Hp → VK → Prop} {m m' : FM} (h : EffR K n r m) (h' : EffR K n r' m') : EffR K n (fun vs H Q => r vs H Q ∨ r' vs H Q) (fun cs => match m cs with | some x => some x | none => m' cs) := by
  intro vs H Q ⟨h1, Hs, w, tgs, cs, cs', c, p, hm, q⟩
  simp only at hm
  cases e : m cs with
  | some x => rw [e] at hm; cases hm; exact .inl (h vs H Q ⟨h1, Hs, w, tgs, cs, cs', c, p, e, q⟩)
  | none => rw [e] at hm; exact .inr (h' vs H Q ⟨h1, Hs, w, tgs, cs, cs', c, p, hm, q⟩)
def ixO (tgs : List Tag) : Option Tag → Option Nat
  | some t => ixOf t tgs
  | none => none
theorem ixO_get {tgs : List Tag} {t : Option Tag} {k : Nat} (h : ixO tgs t = some k) : ∃ t', t = some t' ∧ tgs[k]? = some t' := by
  cases t with
  | none => cases h
  | some t => exact ⟨t, rfl, ixOf_get h⟩
theorem ixO_of {tgs : List Tag} {t : Tag} {k : Nat} (nd : tgs.Nodup) (h : tgs[k]? = some t) : ixO tgs (some t) = some k := ixOf_of nd h
/-- one object of its own -/
def one1 : C → Bool
  | .l _ => true
  | .k _ _ => true
  | .t _ _ => true
  | _ => false
theorem Rep.one {K : PySem.W.Frag} {Hs H : Hp} {v : V} {c : C} {o : List Addr} (r : Rep K Hs H v c o) (h : one1 c = true) : ∃ l, v = .ref l ∧ o = [l] := by
  cases r <;> first | exact ⟨_, rfl, rfl⟩ | cases h
theorem rep_tup {K : PySem.W.Frag} {Hs H : Hp} {l : Addr} {c : C} {o : List Addr} {xs : List V} (e : H l = some (.tup xs)) (h : one1 c = true) : ¬ Rep K Hs H (.ref l) c o := by
  intro r
  cases r with
  | l q _ => rw [e] at q; cases q
  | k q _ => rw [e] at q; cases q
  | t q _ => rw [e] at q; cases q
  | _ => cases h
/-- the first argument, a list or dict of its own, is changed; the answer is data -/
theorem eff_one {K : PySem.W.Frag} {n : Nat} {r : List V → Hp → VK → Prop} {m : FM}
    (h : ∀ (Hs H : Hp) (l : Addr) (c0 : C) (vs : List V) (cs : List C) (c : C) (cs' : List C), Ex Hs H → Hs l = none → Rep K Hs H (.ref l) c0 [l] → m (c0 :: cs) = some (c, cs') → vs.length = cs.length → vs.length + 1 = n →
      (∀ (k : Nat) (v : V) (x : C), vs[k]? = some v → cs[k]? = some x → ∃ o, Rep K Hs H v x o) →
      ∃ (v : V) (y : D) (u : HO) (c1 : C), c = .d y ∧ Dt K Hs v y ∧ one1 c1 = true ∧ Rep K Hs (upd H l u) (.ref l) c1 [l] ∧ cs' = c1 :: cs ∧ ∀ Q : VK, Q v (upd H l u) → r (.ref l :: vs) H Q)
    (hm : ∀ cs c cs', m cs = some (c, cs') → ∃ c0 r, cs = c0 :: r ∧ one1 c0 = true) : EffR K n r m := by
  intro vs H Q ⟨hl, Hs, w, tgs, cs, cs', c, p, hmm, q⟩
  obtain ⟨c0, cr, rfl, hone⟩ := hm cs c cs' hmm
  cases vs with
  | nil => have := p.lenC; simp at this
  | cons v0 vr =>
    cases tgs with
    | nil => have := p.lenT; simp at this
    | cons t0 tr =>
      obtain ⟨o0, r0, ho0⟩ := p.par 0 v0 _ t0 rfl rfl rfl
      obtain ⟨l, rfl, rfl⟩ := r0.one hone
      have wl : w l = some t0 := ho0 l (by simp)
      have pl : Pm w (t0 :: tr) l := ⟨t0, by simp, wl⟩
      have hlen : vr.length = cr.length := by have := p.lenC; simp at this; omega
      obtain ⟨v, y, u0, c1, rfl, dv, one2, rep1, rfl, hr⟩ := h Hs H l c0 vr cr c cs' p.sub (p.own l t0 wl) r0 hmm hlen (by simpa using hl) fun k v x e1 e2 => by
        have ht : k + 1 < (t0 :: tr).length := by
          rw [p.lenT]
          have := (List.getElem?_eq_some_iff.mp e1).1
          simpa using this
        obtain ⟨o, r, _⟩ := p.par (k + 1) v x _ (by simpa using e1) (by simpa using e2) (List.getElem?_eq_getElem ht)
        exact ⟨o, r⟩
      refine hr Q (q v _ Hs (fun a => match ixO (t0 :: tr) (w a) with | some k => some (k + 1) | none => none) ?_)
      have own1 : ∀ a u, Hs a = some u → a ≠ l := fun a u e z => by rw [z, p.own l t0 wl] at e; cases e
      refine ⟨Ex.refl _, fun a u e => ?_, fun a u e => .inl e, fun a t e => ?_, by simp; omega, fun k v c e1 e2 => ?_, ⟨[], .d dv, fun a ha => absurd ha (by simp)⟩, fun a u e np => ?_, fun a zs e => by
        by_cases z : a = l
        · subst z; rw [upd_same] at e; cases e; exact absurd rep1 (rep_tup upd_same one2)
        · rw [upd_ne z] at e; exact p.tups a zs e⟩
      · rw [upd_ne (own1 a u e)]; exact p.sub a u e
      · cases hw : ixO (t0 :: tr) (w a) with
        | none => simp only [hw] at e; cases e
        | some k =>
          obtain ⟨t, e1, e2⟩ := ixO_get hw
          exact ⟨p.own a t e1, .inl ⟨t, List.mem_of_getElem? e2, e1⟩⟩
      · cases k with
        | zero =>
          have e3 : V.ref l = v := by simpa using e1
          have e4 : c1 = c := by simpa using e2
          subst e3 e4
          refine ⟨[l], rep1, fun a ha => ?_⟩
          have ea : a = l := by simpa using ha
          subst ea
          simp only [wl]
          rw [ixO_of p.nd (k := 0) rfl]
        | succ k =>
          have ht : k + 1 < (t0 :: tr).length := by
            rw [p.lenT]
            have := (List.getElem?_eq_some_iff.mp e1).1
            simpa using this
          obtain ⟨o, r, ho⟩ := p.par (k + 1) v c _ e1 (by simpa using e2) (List.getElem?_eq_getElem ht)
          refine ⟨o, r.mono (Ex.refl _) fun a ha u e => ?_, fun a ha => ?_⟩
          · have ne : a ≠ l := fun z => by
              rw [z] at ha
              have := ho l ha
              rw [wl] at this
              have e5 := Option.some.inj this
              have nd := List.nodup_cons.mp p.nd
              refine nd.1 ?_
              rw [e5]
              exact List.getElem_mem (by simpa using ht)
            rw [upd_ne ne]; exact e
          · simp only [ho a ha]
            rw [ixO_of p.nd (List.getElem?_eq_getElem ht)]
      · have ne : a ≠ l := fun z => np (z ▸ pl)
        rw [upd_ne ne]; exact e

/-! ### methods of a value -/
/-- o.m(..): the object, its type is looked at, the arguments, the call -/
def mMeth (kd : C → Bool) (m : FM) (g : MG) (ms : MA) : ME := fun L => match g L with
  | some (av, L1) => match contA L1 av with
    | some c => if kd c then mCall m (fun _ => match ms L1 with | some (avs, L2) => some (av :: avs, L2) | none => none) L else none
    | none => none
  | none => none
theorem avok_split {σ : L2.St} {av : AV} {v : V} {avs : List AV} {vs : List V} {t1 t2 : List (V × C)} (h : AvOk σ [av] [v] t1) (h2 : AvOk σ avs vs t2) : AvOk σ (av :: avs) (v :: vs) (t1 ++ t2) := h.one h2
theorem se_meth {K : PySem.W.Frag} {T : String} {r : V → List V → Hp → VK → Prop} {to : TE} {t : TA} {kd : C → Bool} {m : FM} {g : MG} {ms : MA} {n : Nat} (hg : SG K to g) (hs : SA K t ms)
    (ty : ∀ (Hs H : Hp) (v : V) (c : C) (o : List Addr), Ex Hs H → Rep K Hs H v c o → kd c = true → tyV K T v H) (he : EffR K (n + 1) (fun vs H Q => match vs with | x :: r' => r x r' H Q | [] => False) m)
    (hn : ∀ L avs L', ms L = some (avs, L') → avs.length = n) : SE K (tBM K T r to t) (mMeth kd m g ms) := by
  intro Z σ H L TT S c L' hm Q q
  unfold mMeth at hm
  split at hm
  · rename_i av L1 e1
    split at hm
    · rename_i c0 e2
      split at hm
      · rename_i hk
        unfold mCall at hm
        cases e3 : ms L1 with
        | none => simp only [e3] at hm; cases hm
        | some al =>
          obtain ⟨avs, L2⟩ := al
          simp only [e3] at hm
          split at hm
          · rename_i hnd
            split at hm
            · rename_i cs e4
              split at hm
              · rename_i c1 cs' e5
                split at hm
                · rename_i hl
                  cases hm
                  refine hg Z σ H L TT S av L1 e1 _ fun x H1 tv S1 a1 => ⟨?_, ?_⟩
                  · obtain ⟨Hs, w, S0⟩ := S1
                    obtain ⟨o, t, _, rr, _⟩ := S0.args a1 (show conts L1 [av] = some [c0] by unfold conts; rw [e2]; rfl) 0 x c0 rfl rfl
                    exact ty Hs H1 x c0 o S0.sub rr hk
                  · refine hs Z σ H1 L1 _ S1 avs L2 e3 _ fun vs H2 tv2 S2 a2 => ?_
                    have a3 := a1.one a2
                    have hln := hn L1 avs L2 e3
                    have S3 : SR K Z σ H2 L2 (TT ++ (tv ++ tv2)) := by rw [← List.append_assoc]; exact S2
                    have sp : spM K m (n + 1) (x :: vs) H2 Q E0 := by
                      have z := S3.call (E := E0) a3 hnd e4 e5 hl q
                      rw [List.length_cons, hln] at z
                      exact z
                    exact he _ _ _ sp
                · cases hm
              · cases hm
            · cases hm
          · cases hm
      · cases hm
    · cases hm
  · cases hm
theorem se_meth0 {K : PySem.W.Frag} {T : String} {r : V → List V → Hp → VK → Prop} {to : TE} {kd : C → Bool} {m : FM} {g : MG} (hg : SG K to g)
    (ty : ∀ (Hs H : Hp) (v : V) (c : C) (o : List Addr), Ex Hs H → Rep K Hs H v c o → kd c = true → tyV K T v H) (he : EffR K 1 (fun vs H Q => match vs with | x :: r' => r x r' H Q | [] => False) m) : SE K (tBM0 K T r to) (mMeth kd m g maNil) :=
  fun Z σ H L TT S c L' hm Q q => se_meth (n := 0) hg sa_nil ty he maNil_len Z σ H L TT S c L' hm Q q
/-- .. that only reads -/
def mMethO (kd : C → Bool) (f : List C → Option C) (g : MG) (ms : MA) : ME := fun L => match g L with
  | some (av, L1) => match contA L1 av with
    | some c => if kd c then mOp f (fun _ => match ms L1 with | some (avs, L2) => some (av :: avs, L2) | none => none) L else none
    | none => none
  | none => none
theorem se_methO {K : PySem.W.Frag} {T : String} {r : V → List V → Hp → VK → Prop} {to : TE} {t : TA} {kd : C → Bool} {f : List C → Option C} {g : MG} {ms : MA} (hg : SG K to g) (hs : SA K t ms)
    (ty : ∀ (Hs H : Hp) (v : V) (c : C) (o : List Addr), Ex Hs H → Rep K Hs H v c o → kd c = true → tyV K T v H) (he : OpS K (fun vs H Q => match vs with | x :: r' => r x r' H Q | [] => False) f) : SE K (tBM K T r to t) (mMethO kd f g ms) := by
  intro Z σ H L TT S c L' hm Q q
  unfold mMethO at hm
  split at hm
  · rename_i av L1 e1
    split at hm
    · rename_i c0 e2
      split at hm
      · rename_i hk
        unfold mOp at hm
        cases e3 : ms L1 with
        | none => simp only [e3] at hm; cases hm
        | some al =>
          obtain ⟨avs, L2⟩ := al
          simp only [e3] at hm
          split at hm
          · rename_i cs e4
            split at hm
            · rename_i c1 e5
              cases hm
              refine hg Z σ H L TT S av L1 e1 _ fun x H1 tv S1 a1 => ⟨?_, ?_⟩
              · obtain ⟨Hs, w, S0⟩ := S1
                obtain ⟨o, t, _, rr, _⟩ := S0.args a1 (show conts L1 [av] = some [c0] by unfold conts; rw [e2]; rfl) 0 x c0 rfl rfl
                exact ty Hs H1 x c0 o S0.sub rr hk
              · refine hs Z σ H1 L1 _ S1 avs L' e3 _ fun vs H2 tv2 S2 a2 => ?_
                have S3 : SR K Z σ H2 L' (TT ++ (tv ++ tv2)) := by rw [← List.append_assoc]; exact S2
                exact S3.op (r := fun vs H Q => match vs with | x :: r' => r x r' H Q | [] => False) he (a1.one a2) e4 e5 q
            · cases hm
          · cases hm
      · cases hm
    · cases hm
  · cases hm

/-! ### lists: append, pop, pop(i), extend -/
def isL : C → Bool
  | .l _ => true
  | .d (.lst _) => true
  | _ => false
theorem isL_ty (K : PySem.W.Frag) : ∀ (Hs H : Hp) (v : V) (c : C) (o : List Addr), Ex Hs H → Rep K Hs H v c o → isL c = true → tyV K "list" v H := by
  intro Hs H v c o s r h
  have : ∃ xs, asL c = some xs := by
    unfold isL at h
    split at h
    · exact ⟨_, rfl⟩
    · exact ⟨_, rfl⟩
    · cases h
  obtain ⟨xs, hx⟩ := this
  obtain ⟨a, vs, rfl, h1, _⟩ := r.asL s hx
  exact .inl ⟨rfl, vs, h1⟩
def appendM : FM
  | [.l xs, .d x] => if xs.length < 100000 then some (.d .non, [.l (xs ++ [x]), .d x]) else none
  | _ => none
theorem eff_append {K : PySem.W.Frag} : EffR K 2 (fun vs H Q => match vs with | x :: r' => rAppend x r' H Q | [] => False) appendM := eff_one (fun Hs H l c0 vs cs c cs' s _ r0 hm hl hn ha => by
  unfold appendM at hm
  split at hm
  · rename_i xs x e
    cases e
    split at hm
    · rename_i hz
      cases hm
      cases r0 with
      | l h1 h2 =>
        rename_i ws
        match vs, hl with
        | [v], _ =>
          obtain ⟨o, r⟩ := ha 0 v _ rfl rfl
          exact ⟨.non, .non, _, _, rfl, .non, rfl, .l upd_same (h2.append (.cons r.data .nil)), rfl, fun Q q => ⟨l, ws, v, rfl, rfl, h1, by rw [h2.len]; exact Nat.lt_of_lt_of_le hz (Evl.sz_of (Nat.le_refl _)), q⟩⟩
    · cases hm
  · cases hm) fun cs c cs' hm => by
  unfold appendM at hm
  split at hm
  · exact ⟨_, _, rfl, rfl⟩
  · cases hm
def popM : FM
  | [.l xs] => match xs[xs.length - 1]? with
    | some x => some (.d x, [.l xs.dropLast])
    | none => none
  | _ => none
theorem Dts.dropLast {K : PySem.W.Frag} {H : Hp} : ∀ {vs : List V} {xs : List D}, Dts K H vs xs → Dts K H vs.dropLast xs.dropLast := fun {vs xs} h => by
  rw [List.dropLast_eq_take, List.dropLast_eq_take, h.len]
  exact h.take _
theorem eff_pop {K : PySem.W.Frag} : EffR K 1 (fun vs H Q => match vs with | x :: r' => rPop x r' H Q | [] => False) popM := eff_one (fun Hs H l c0 vs cs c cs' s _ r0 hm hl hn ha => by
  unfold popM at hm
  split at hm
  · rename_i xs e
    cases e
    split at hm
    · rename_i x hx
      cases hm
      cases r0 with
      | l h1 h2 =>
        rename_i ws
        match vs, hl with
        | [], _ =>
          obtain ⟨v, hv, hd⟩ := h2.get hx
          exact ⟨v, x, _, _, rfl, hd, rfl, .l upd_same h2.dropLast, rfl, fun Q q => ⟨l, ws, v, rfl, rfl, h1, by rw [h2.len]; exact hv, q⟩⟩
    · cases hm
  · cases hm) fun cs c cs' hm => by
  unfold popM at hm
  split at hm
  · exact ⟨_, _, rfl, rfl⟩
  · cases hm
def popAtM : FM
  | [.l xs, .d (.int i)] => if -(2 ^ 63) ≤ i ∧ i < 2 ^ 63 then match seqIndex? i xs.length with
      | some k => match xs[k]? with
        | some x => some (.d x, [.l (xs.eraseIdx k), .d (.int i)])
        | none => none
      | none => none
    else none
  | _ => none
theorem eff_popAt {K : PySem.W.Frag} : EffR K 2 (fun vs H Q => match vs with | x :: r' => rPopAt x r' H Q | [] => False) popAtM := eff_one (fun Hs H l c0 vs cs c cs' s _ r0 hm hl hn ha => by
  unfold popAtM at hm
  split at hm
  · rename_i xs i e
    cases e
    split at hm
    · rename_i hi
      split at hm
      · rename_i k hk
        split at hm
        · rename_i x hx
          cases hm
          cases r0 with
          | l h1 h2 =>
            rename_i ws
            match vs, hl with
            | [v], _ =>
              obtain ⟨o, r⟩ := ha 0 v _ rfl rfl
              obtain ⟨u, hu, hd⟩ := h2.get hx
              exact ⟨u, x, _, _, rfl, hd, rfl, .l upd_same (h2.erase k), rfl, fun Q q => ⟨l, ws, i, k, u, rfl, by rw [r.int], h1, hi.1, hi.2, by rw [h2.len]; exact hk, hu, q⟩⟩
        · cases hm
      · cases hm
    · cases hm
  · cases hm) fun cs c cs' hm => by
  unfold popAtM at hm
  split at hm
  · exact ⟨_, _, rfl, rfl⟩
  · cases hm
section
variable {X : Cx} {o e : Expr} {es : List Expr} {to te : TE} {g ge : MG} {apos cpos : Pos}
theorem je_append (ho : JG X o to g) (he : JG X e te ge)
    (hbase : attributeBase o "append" X.env (eval o X.env) = eval o X.env := by rfl)
    (hfew : ((backTo cpos (starEach [e] X.env)).all (fun x => !x.1) && (backToKw cpos (keywordEach [] X.env)).all (fun x => x.1.isSome)
      && decide ([e].length + ([] : List Keyword).length + (if ([] : List Keyword).isEmpty then 0 else 1) < 30)) = true := by rfl)
    (hline : (apos.endLine == cpos.line) = true := by rfl) (hs : starEach [e] X.env = (false, eval e X.env) :: starEach [] X.env := by rfl) (hplain : (backTo cpos (starEach [] X.env)).any (·.1) = false := by rfl) :
    JE X (.Call (.Attribute o "append" apos) [e] [] cpos) (tBM X.K "list" rAppend to (tCons te tNil)) (mMeth isL appendM g (maCons ge maNil)) :=
  ⟨pe_bm PySem.F.plainAttrs_list PySem.F.slot_list_append PySem.F.type_list_append mt_append ho.pe (pa_cons he.pe pa_nil hs) hbase hfew hline hs hplain, se_meth ho.se (sa_cons he.se sa_nil) (isL_ty X.K) eff_append (maCons_len maNil_len)⟩
theorem je_popAt (ho : JG X o to g) (he : JG X e te ge)
    (hbase : attributeBase o "pop" X.env (eval o X.env) = eval o X.env := by rfl)
    (hfew : ((backTo cpos (starEach [e] X.env)).all (fun x => !x.1) && (backToKw cpos (keywordEach [] X.env)).all (fun x => x.1.isSome)
      && decide ([e].length + ([] : List Keyword).length + (if ([] : List Keyword).isEmpty then 0 else 1) < 30)) = true := by rfl)
    (hline : (apos.endLine == cpos.line) = true := by rfl) (hs : starEach [e] X.env = (false, eval e X.env) :: starEach [] X.env := by rfl) (hplain : (backTo cpos (starEach [] X.env)).any (·.1) = false := by rfl) :
    JE X (.Call (.Attribute o "pop" apos) [e] [] cpos) (tBM X.K "list" rPopAt to (tCons te tNil)) (mMeth isL popAtM g (maCons ge maNil)) :=
  ⟨pe_bm PySem.F.plainAttrs_list PySem.F.slot_list_pop PySem.F.type_list_pop mt_popAt ho.pe (pa_cons he.pe pa_nil hs) hbase hfew hline hs hplain, se_meth ho.se (sa_cons he.se sa_nil) (isL_ty X.K) eff_popAt (maCons_len maNil_len)⟩
theorem je_pop (ho : JG X o to g)
    (hbase : attributeBase o "pop" X.env (eval o X.env) = eval o X.env := by rfl) (hline : (apos.endLine == cpos.line) = true := by rfl) :
    JE X (.Call (.Attribute o "pop" apos) [] [] cpos) (tBM0 X.K "list" rPop to) (mMeth isL popM g maNil) :=
  ⟨pe_bm0 PySem.F.plainAttrs_list PySem.F.slot_list_pop PySem.F.type_list_pop mt_pop ho.pe hbase hline, se_meth0 ho.se (isL_ty X.K) eff_pop⟩
end
end VS

/-! dicts by contents; what is stored at a place -/
namespace VS
open PySem PySem.Spec L2
open Evl (Ex Ex.refl Ex.trans Ex.new)

/-! ### pairs -/
section
variable {κ : Type} [DecidableEq κ]
def getP : List κ → List D → κ → Option D
  | k0 :: ks, x :: xs, k => if k0 = k then some x else getP ks xs k
  | _, _, _ => none
def putKs (ks : List κ) (k : κ) : List κ := if k ∈ ks then ks else ks ++ [k]
def replP : List κ → List D → κ → D → List D
  | k0 :: ks, x0 :: xs, k, x => (if k0 = k then x else x0) :: replP ks xs k x
  | _, xs, _, _ => xs
def putXs (ks : List κ) (xs : List D) (k : κ) (x : D) : List D := if k ∈ ks then replP ks xs k x else xs ++ [x]
variable {K : PySem.W.Frag} {H : Hp}
theorem KDs.get {kvs : List (κ × V)} {ks : List κ} {xs : List D} (h : KDs K H kvs ks xs) (k : κ) : (∀ x, getP ks xs k = some x → ∃ v, valV kvs k = some v ∧ Dt K H v x) ∧ (getP ks xs k = none → valV kvs k = none) := by
  obtain ⟨rfl, h⟩ := h
  induction kvs generalizing xs with
  | nil =>
    cases h
    exact ⟨fun x e => (nomatch e), fun _ => rfl⟩
  | cons p r ih =>
    cases h with
    | cons h1 h2 =>
      rename_i y ys
      have ih := ih h2
      rw [List.map_cons]
      unfold getP
      by_cases e : p.1 = k
      · rw [if_pos e, valV_pos e]
        refine ⟨fun x z => ?_, fun z => (nomatch z)⟩
        cases z
        exact ⟨_, rfl, h1⟩
      · rw [if_neg e, valV_neg e]
        exact ih
theorem KDs.len {kvs : List (κ × V)} {ks : List κ} {xs : List D} (h : KDs K H kvs ks xs) : kvs.length = ks.length := by
  rw [← h.1, List.length_map]
theorem any_mem (kvs : List (κ × V)) (k : κ) : (kvs.any fun kv => decide (kv.1 = k)) = decide (k ∈ kvs.map (·.1)) := by
  induction kvs with
  | nil => rfl
  | cons p r ih =>
    rw [List.any_cons, ih, List.map_cons]
    by_cases e : p.1 = k
    · simp [e]
    · have : ¬ k = p.1 := fun z => e z.symm
      simp [e, this]
theorem KDs.put {kvs : List (κ × V)} {ks : List κ} {xs : List D} (h : KDs K H kvs ks xs) (k : κ) {v : V} {x : D} (d : Dt K H v x) : KDs K H (putK kvs k v) (putKs ks k) (putXs ks xs k x) := by
  obtain ⟨rfl, h⟩ := h
  unfold putK putKs putXs
  rw [any_mem]
  by_cases e : k ∈ kvs.map (·.1)
  · rw [if_pos (by simpa using e), if_pos e, if_pos e]
    clear e
    induction kvs generalizing xs with
    | nil => cases h; exact ⟨rfl, .nil⟩
    | cons p r ih =>
      cases h with
      | cons h1 h2 =>
        obtain ⟨i1, i2⟩ := ih h2
        refine ⟨?_, ?_⟩
        · rw [List.map_cons, List.map_cons, List.map_cons, i1]
          by_cases z : p.1 = k
          · rw [if_pos z]
          · rw [if_neg z]
        · rw [List.map_cons, List.map_cons, List.map_cons]
          unfold replP
          by_cases z : p.1 = k
          · rw [if_pos z, if_pos z]; exact .cons d i2
          · rw [if_neg z, if_neg z]; exact .cons h1 i2
  · rw [if_neg (by simpa using e), if_neg e, if_neg e]
    refine ⟨by rw [List.map_append]; rfl, ?_⟩
    rw [List.map_append]
    exact h.append (.cons d .nil)
end
def keyD : D → Option Key
  | .int i => some (.inl i)
  | .str s => some (.inr s)
  | _ => none
def keysL : List D → Option (List Key)
  | [] => some []
  | x :: r => match keyD x, keysL r with
    | some k, some ks => some (k :: ks)
    | _, _ => none
def keysD : D → Option (List Key)
  | .tup xs => keysL xs
  | _ => none
def unkey : Key → D
  | .inl i => .int i
  | .inr s => .str s
theorem keyD_eq {x : D} {k : Key} (h : keyD x = some k) : x = unkey k := by
  cases x <;> simp [keyD] at h <;> subst h <;> rfl
theorem keyD_un (k : Key) : keyD (unkey k) = some k := by cases k <;> rfl
theorem keysL_eq : ∀ {xs : List D} {ks : List Key}, keysL xs = some ks → xs = ks.map unkey
  | [], ks, h => by cases h; rfl
  | x :: r, ks, h => by
    unfold keysL at h
    split at h
    · rename_i k ks' e1 e2
      cases h
      rw [List.map_cons, keyD_eq e1, keysL_eq e2]
    · cases h
theorem keysL_un (ks : List Key) : keysL (ks.map unkey) = some ks := by
  induction ks with
  | nil => rfl
  | cons k r ih => rw [List.map_cons, keysL, keyD_un, ih]
section
variable {K : PySem.W.Frag} {H : Hp}
theorem keyD_v {v : V} {x : D} {k : Key} (d : Dt K H v x) (h : keyD x = some k) : v = kV k := by
  cases d <;> simp [keyD] at h <;> subst h <;> rfl
theorem keysL_v : ∀ {vs : List V} {xs : List D} {ks : List Key}, Dts K H vs xs → keysL xs = some ks → vs = ks.map kV
  | _, _, ks, .nil, h => by cases h; rfl
  | _, _, ks, .cons d ds, h => by
    unfold keysL at h
    split at h
    · rename_i k ks' e1 e2
      cases h
      rw [List.map_cons, keyD_v d e1, keysL_v ds e2]
    · cases h
theorem keysD_v {v : V} {x : D} {ks : List Key} (d : Dt K H v x) (h : keysD x = some ks) : ∃ b, v = .ref b ∧ H b = some (.tup (ks.map kV)) := by
  cases d with
  | tup h1 h2 =>
    have e := keysL_v h2 h
    subst e
    exact ⟨_, rfl, h1⟩
  | _ => simp [keysD] at h
end
/-- what a dict holds at a key -/
def dget (a : C) (y : D) : Option (Option D) := match a with
  | .k ks xs => (keyD y).map fun k => getP ks xs k
  | .d (.dk ks xs) => (keyD y).map fun k => getP ks xs k
  | .t ks xs => (keysD y).map fun k => getP ks xs k
  | .d (.dt ks xs) => (keysD y).map fun k => getP ks xs k
  | _ => none
theorem dget_sound {K : PySem.W.Frag} {Hs H : Hp} {v u : V} {a : C} {y : D} {o : List Addr} {r : Option D} (s : Ex Hs H) (ra : Rep K Hs H v a o) (d : Dt K Hs u y) (h : dget a y = some r) :
    ∃ p rv, v = .ref p ∧ DGet H p u rv ∧ (∀ x, r = some x → ∃ w, rv = some w ∧ Dt K Hs w x) ∧ (r = none → rv = none) := by
  have fin : ∀ {κ : Type} [DecidableEq κ] {kvs : List (κ × V)} {ks : List κ} {xs : List D} (k : κ), KDs K Hs kvs ks xs → getP ks xs k = r → (∀ x, r = some x → ∃ w, valV kvs k = some w ∧ Dt K Hs w x) ∧ (r = none → valV kvs k = none) := fun k q e => by
    subst e
    exact q.get k
  unfold dget at h
  split at h
  · cases e : keyD y with
    | none => rw [e] at h; cases h
    | some k =>
      rw [e] at h
      cases ra with
      | k h1 h2 => exact ⟨_, _, rfl, .inl ⟨_, k, .inl h1, keyD_v d e, rfl⟩, fin k h2 (Option.some.inj h)⟩
  · cases e : keyD y with
    | none => rw [e] at h; cases h
    | some k =>
      rw [e] at h
      cases ra with
      | d ra => cases ra with
        | dk h1 h2 => exact ⟨_, _, rfl, .inl ⟨_, k, Evl.ex_rd s h1, keyD_v d e, rfl⟩, fin k ⟨rfl, h2⟩ (Option.some.inj h)⟩
  · cases e : keysD y with
    | none => rw [e] at h; cases h
    | some k =>
      rw [e] at h
      obtain ⟨b, rfl, hb⟩ := keysD_v (d.ex s) e
      cases ra with
      | t h1 h2 => exact ⟨_, _, rfl, .inr ⟨_, k, b, .inl h1, rfl, hb, rfl⟩, fin k h2 (Option.some.inj h)⟩
  · cases e : keysD y with
    | none => rw [e] at h; cases h
    | some k =>
      rw [e] at h
      obtain ⟨b, rfl, hb⟩ := keysD_v (d.ex s) e
      cases ra with
      | d ra => cases ra with
        | dt h1 h2 => exact ⟨_, _, rfl, .inr ⟨_, k, b, Evl.ex_rd s h1, rfl, hb, rfl⟩, fin k ⟨rfl, h2⟩ (Option.some.inj h)⟩
  · cases h

/-! ### d[k], k in d -/
def rIxD : R2 := fun x y H Q => ∃ a v, x = .ref a ∧ DGet H a y (some v) ∧ Q v H
theorem ix_dict {X : Cx} (hu : X.A.units + 1 < cLine) : IxR X rIxD := by
  intro value slice pins s σ H x y v u Q I rx ry h hs
  obtain ⟨a, z, rfl, g, q⟩ := h
  obtain rfl : v = Value.ref a := rx
  exact PyProof.Rows.tail_any (dict_typeIs I g) PySem.F.slot_dict_getitem.lookup (d_getItem hu I g ry fun w' s3 I3 rw' => ⟨z, H, I3, rw', q⟩) hs
def ixDC : List C → Option C
  | [a, .d y] => match dget a y with
    | some (some x) => some (.d x)
    | _ => none
  | _ => none
theorem ops_ixD {K : PySem.W.Frag} : OpS K (r2 rIxD) ixDC := ops2 (fun cs c h => by unfold ixDC at h; split at h <;> first | rfl | cases h) fun Hs H x y a b oa ob s ra rb c hc Q q => by
  unfold ixDC at hc
  split at hc
  · rename_i a0 y0 e
    cases e
    split at hc
    · rename_i z e1
      cases hc
      obtain ⟨p, rv, rfl, g, h1, _⟩ := dget_sound s ra rb.data e1
      obtain ⟨w, rfl, d⟩ := h1 z rfl
      exact ⟨p, w, rfl, g, fin_d s q d⟩
    · cases hc
  · cases hc
def ixA : List C → Option C := orC ixC ixDC
def rIxAny (K : PySem.W.Frag) : R2 := r2or (fun x y H Q => rIxL K x y H Q ∨ (rIxT K x y H Q ∨ rIxS x y H Q)) rIxD
theorem ix_all {X : Cx} (hu : X.A.units + 1 < cLine) : IxR X (rIxAny X.K) := IxR.or ix_any (ix_dict hu)
theorem ixDC_len : ∀ cs c, ixDC cs = some c → cs.length = 2 := fun cs c h => by unfold ixDC at h; split at h <;> first | rfl | cases h
theorem ops_ixA {K : PySem.W.Frag} : OpS K (r2 (rIxAny K)) ixA := ops_or ops_ix ops_ixD ixC_len ixDC_len
def rInDict : R2 := fun x y H Q => ∃ a o, y = .ref a ∧ DGet H a x o ∧ Q (.bl o.isSome) H
def rNotInDict : R2 := fun x y H Q => ∃ a o, y = .ref a ∧ DGet H a x o ∧ Q (.bl (!o.isSome)) H
theorem op_inDict {X : Cx} (hu : X.A.units + 1 < cLine) : OpR X (compareOp .In) rInDict := by
  intro pins s σ H x y v u Q I rx ry h
  obtain ⟨a, o, rfl, g, q⟩ := h
  obtain rfl : u = Value.ref a := ry
  exact d_in hu I g rx fun s' I' => ⟨.bl o.isSome, H, I', rfl, q⟩
theorem op_ninDict {X : Cx} (hu : X.A.units + 1 < cLine) : OpR X (compareOp .NotIn) rNotInDict := by
  intro pins s σ H x y v u Q I rx ry h
  obtain ⟨a, o, rfl, g, q⟩ := h
  obtain rfl : u = Value.ref a := ry
  exact d_notIn hu I g rx fun s' I' => ⟨.bl (!o.isSome), H, I', rfl, q⟩
def inDC : List C → Option C
  | [.d y, a] => (dget a y).map fun r => .d (.bl r.isSome)
  | _ => none
def ninDC : List C → Option C
  | [.d y, a] => (dget a y).map fun r => .d (.bl (!r.isSome))
  | _ => none
theorem inDC_len : ∀ cs c, inDC cs = some c → cs.length = 2 := fun cs c h => by unfold inDC at h; split at h <;> first | rfl | cases h
theorem ninDC_len : ∀ cs c, ninDC cs = some c → cs.length = 2 := fun cs c h => by unfold ninDC at h; split at h <;> first | rfl | cases h
theorem dget_some {K : PySem.W.Frag} {H : Hp} {r : Option D} {rv : Option V} (h1 : ∀ x, r = some x → ∃ w, rv = some w ∧ Dt K H w x) (h2 : r = none → rv = none) : rv.isSome = r.isSome := by
  cases r with
  | none => rw [h2 rfl]; rfl
  | some x => obtain ⟨w, rfl, _⟩ := h1 x rfl; rfl
theorem ops_inDict {K : PySem.W.Frag} : OpS K (r2 rInDict) inDC := ops2 inDC_len fun Hs H x y a b oa ob s ra rb c hc Q q => by
  unfold inDC at hc
  split at hc
  · rename_i y0 a0 e
    cases e
    cases e1 : dget b y0 with
    | none => rw [e1] at hc; cases hc
    | some r =>
      rw [e1] at hc
      cases hc
      obtain ⟨p, rv, rfl, g, h1, h2⟩ := dget_sound s rb ra.data e1
      exact ⟨p, rv, rfl, g, by rw [dget_some h1 h2]; exact fin_d s q (.bl _)⟩
  · cases hc
theorem ops_ninDict {K : PySem.W.Frag} : OpS K (r2 rNotInDict) ninDC := ops2 ninDC_len fun Hs H x y a b oa ob s ra rb c hc Q q => by
  unfold ninDC at hc
  split at hc
  · rename_i y0 a0 e
    cases e
    cases e1 : dget b y0 with
    | none => rw [e1] at hc; cases hc
    | some r =>
      rw [e1] at hc
      cases hc
      obtain ⟨p, rv, rfl, g, h1, h2⟩ := dget_sound s rb ra.data e1
      exact ⟨p, rv, rfl, g, by rw [dget_some h1 h2]; exact fin_d s q (.bl _)⟩
  · cases hc
def inA : List C → Option C := orC inC inDC
def ninA : List C → Option C := orC ninC ninDC
def rInAll (K : PySem.W.Frag) : R2 := r2or (rInAny K) rInDict
def rNotInAll (K : PySem.W.Frag) : R2 := r2or (rNotInAny K) rNotInDict
theorem op_inAll {X : Cx} (hu : X.A.units + 65 < cLine) : OpR X (compareOp .In) (rInAll X.K) := op_or2 (op_inAny hu) (op_inDict (by omega))
theorem op_ninAll {X : Cx} (hu : X.A.units + 65 < cLine) : OpR X (compareOp .NotIn) (rNotInAll X.K) := op_or2 (op_notInAny hu) (op_ninDict (by omega))
theorem ops_inA {K : PySem.W.Frag} : OpS K (r2 (rInAll K)) inA := ops_or ops_in ops_inDict inC_len inDC_len
theorem ops_ninA {K : PySem.W.Frag} : OpS K (r2 (rNotInAll K)) ninA := ops_or ops_nin ops_ninDict ninC_len ninDC_len

/-! ### {} -/
def mNewK : ME := fun L => some (.k [] [], L)
def mNewT : ME := fun L => some (.t [] [], L)
section
variable {K : PySem.W.Frag}
theorem se_newK : SE K tDNewK mNewK := by
  intro Z σ H L T S c L' hm Q q
  cases hm
  intro p hp
  obtain ⟨Hs, w, S0⟩ := S
  have z := S0.result (n := T.length) (Nat.le_refl _) (Grow.owned (u := .dK []) S0.sub hp) (v := .ref p) (c := .k [] []) (o := [p]) (.k (kvs := []) upd_same ⟨rfl, .nil⟩) (fun a ha => by
    have e : a = p := by simpa using ha
    subst e
    exact ⟨hp, none_sub S0.sub hp⟩) fun _ _ e => .inl e
  rw [List.take_length] at z
  exact q _ _ z
theorem se_newT : SE K tDNewT mNewT := by
  intro Z σ H L T S c L' hm Q q
  cases hm
  intro p hp
  obtain ⟨Hs, w, S0⟩ := S
  have z := S0.result (n := T.length) (Nat.le_refl _) (Grow.owned (u := .dT []) S0.sub hp) (v := .ref p) (c := .t [] []) (o := [p]) (.t (kvs := []) upd_same ⟨rfl, .nil⟩) (fun a ha => by
    have e : a = p := by simpa using ha
    subst e
    exact ⟨hp, none_sub S0.sub hp⟩) fun _ _ e => .inl e
  rw [List.take_length] at z
  exact q _ _ z
end
theorem je_newK {X : Cx} {pos : Pos} : JE X (.Dict [] [] pos) tDNewK mNewK := ⟨pe_dnewK, se_newK⟩
theorem je_newT {X : Cx} {pos : Pos} : JE X (.Dict [] [] pos) tDNewT mNewT := ⟨pe_dnewT, se_newT⟩

/-! ### xs[i] = v, d[k] = v -/
/-- the argument at j, a list or dict of its own, is changed; the answer is data -/
theorem eff_at {K : PySem.W.Frag} {n : Nat} {r : List V → Hp → VK → Prop} {m : FM} (j : Nat)
    (h : ∀ (Hs H : Hp) (l : Addr) (c0 : C) (vs : List V) (cs : List C) (c : C) (cs' : List C), Ex Hs H → Hs l = none → cs[j]? = some c0 → vs[j]? = some (.ref l) → Rep K Hs H (.ref l) c0 [l] → m cs = some (c, cs') → vs.length = cs.length → vs.length = n →
      (∀ (k : Nat) (v : V) (x : C), vs[k]? = some v → cs[k]? = some x → ∃ o, Rep K Hs H v x o) →
      ∃ (v : V) (y : D) (u : HO) (c1 : C), c = .d y ∧ Dt K Hs v y ∧ one1 c1 = true ∧ Rep K Hs (upd H l u) (.ref l) c1 [l] ∧ cs' = cs.set j c1 ∧ ∀ Q : VK, Q v (upd H l u) → r vs H Q)
    (hm : ∀ cs c cs', m cs = some (c, cs') → ∃ c0, cs[j]? = some c0 ∧ one1 c0 = true) : EffR K n r m := by
  intro vs H Q ⟨hl, Hs, w, tgs, cs, cs', c, p, hmm, q⟩
  obtain ⟨c0, hj, hone⟩ := hm cs c cs' hmm
  have hjc : j < cs.length := (List.getElem?_eq_some_iff.mp hj).1
  have hjv : j < vs.length := by rw [← p.lenC]; exact hjc
  have hjt : j < tgs.length := by rw [p.lenT]; exact hjv
  obtain ⟨o0, r0, ho0⟩ := p.par j vs[j] _ tgs[j] (List.getElem?_eq_getElem hjv) hj (List.getElem?_eq_getElem hjt)
  obtain ⟨l, e0, rfl⟩ := r0.one hone
  rw [e0] at r0
  have wl : w l = some tgs[j] := ho0 l (by simp)
  have pl : Pm w tgs l := ⟨tgs[j], List.getElem_mem hjt, wl⟩
  obtain ⟨v, y, u0, c1, rfl, dv, one2, rep1, rfl, hr⟩ := h Hs H l c0 vs cs c cs' p.sub (p.own l _ wl) hj (by rw [List.getElem?_eq_getElem hjv, e0]) r0 hmm p.lenC.symm hl fun k v x e1 e2 => by
    have ht : k < tgs.length := by
      rw [p.lenT]
      exact (List.getElem?_eq_some_iff.mp e1).1
    obtain ⟨o, r, _⟩ := p.par k v x _ e1 e2 (List.getElem?_eq_getElem ht)
    exact ⟨o, r⟩
  refine hr Q (q v _ Hs (fun a => match ixO tgs (w a) with | some k => some (k + 1) | none => none) ?_)
  have own1 : ∀ a u, Hs a = some u → a ≠ l := fun a u e z => by rw [z, p.own l _ wl] at e; cases e
  refine ⟨Ex.refl _, fun a u e => ?_, fun a u e => .inl e, fun a t e => ?_, by rw [List.length_set]; exact p.lenC, fun k v c e1 e2 => ?_, ⟨[], .d dv, fun a ha => absurd ha (by simp)⟩, fun a u e np => ?_, fun a zs e => by
    by_cases z : a = l
    · subst z; rw [upd_same] at e; cases e; exact absurd rep1 (rep_tup upd_same one2)
    · rw [upd_ne z] at e; exact p.tups a zs e⟩
  · rw [upd_ne (own1 a u e)]; exact p.sub a u e
  · cases hw : ixO tgs (w a) with
    | none => simp only [hw] at e; cases e
    | some k =>
      obtain ⟨t, e1, e2⟩ := ixO_get hw
      exact ⟨p.own a t e1, .inl ⟨t, List.mem_of_getElem? e2, e1⟩⟩
  · have ht : k < tgs.length := by
      rw [p.lenT]
      exact (List.getElem?_eq_some_iff.mp e1).1
    by_cases hk : k = j
    · subst hk
      rw [List.getElem?_set_self hjc] at e2
      have e4 : c1 = c := by simpa using e2
      subst e4
      have e3 : V.ref l = v := by
        rw [List.getElem?_eq_getElem hjv, e0] at e1
        exact Option.some.inj e1
      subst e3
      refine ⟨[l], rep1, fun a ha => ?_⟩
      have ea : a = l := by simpa using ha
      subst ea
      simp only [wl]
      rw [ixO_of p.nd (List.getElem?_eq_getElem hjt)]
    · rw [List.getElem?_set_ne (Ne.symm hk)] at e2
      obtain ⟨o, r, ho⟩ := p.par k v c _ e1 e2 (List.getElem?_eq_getElem ht)
      refine ⟨o, r.mono (Ex.refl _) fun a ha u e => ?_, fun a ha => ?_⟩
      · have ne : a ≠ l := fun z => by
          rw [z] at ha
          have := ho l ha
          rw [wl] at this
          have e5 := Option.some.inj this
          have q1 := ixOf_of p.nd (List.getElem?_eq_getElem ht)
          have q2 := ixOf_of p.nd (List.getElem?_eq_getElem hjt)
          rw [← e5, q2] at q1
          exact hk (Option.some.inj q1).symm
        rw [upd_ne ne]; exact e
      · simp only [ho a ha]
        rw [ixO_of p.nd (List.getElem?_eq_getElem ht)]
  · have ne : a ≠ l := fun z => np (z ▸ pl)
    rw [upd_ne ne]; exact e
theorem set_or {X : Cx} {t t' : TSet} (h : PSet X t) (h' : PSet X t') : PSet X (fun o i v H Q => t o i v H Q ∨ t' o i v H Q) := by
  intro pins s σ H o i v ov iv u Q I ro ri rv q
  rcases q with q | q
  · exact h pins s σ H o i v ov iv u Q I ro ri rv q
  · exact h' pins s σ H o i v ov iv u Q I ro ri rv q
def rSetAny : TSet := fun o i v H Q => rSetL o i v H Q ∨ rSetD o i v H Q
theorem set_any {X : Cx} (hu : X.A.units + 1 < cLine) : PSet X rSetAny := set_or set_list (set_dict hu)
/-- the object o, the place i, the value x -/
def putC (a i : C) (x : D) : Option C := match a, i with
  | .l xs, .d (.int k) => (ixN xs.length k).map fun j => .l (xs.set j x)
  | .k ks xs, .d y => match keyD y with
    | some k => if ks.length < 100000 then some (.k (putKs ks k) (putXs ks xs k x)) else none
    | none => none
  | .t ks xs, .d y => match keysD y with
    | some k => if ks.length < 100000 then some (.t (putKs ks k) (putXs ks xs k x)) else none
    | none => none
  | _, _ => none
/-- value, object, place -/
def setM : FM
  | [.d x, a, i] => (putC a i x).map fun a' => (.d .non, [.d x, a', i])
  | _ => none
def rSet3 (t : TSet) : List V → Hp → VK → Prop := fun vs H Q => match vs with
  | [v, o, i] => t o i v H fun H' => Q .non H'
  | _ => False
theorem putC_one {a i : C} {x : D} {a' : C} (h : putC a i x = some a') : one1 a = true := by
  unfold putC at h
  split at h <;> first | rfl | cases h
theorem putC_sound {K : PySem.W.Frag} {Hs H : Hp} {l : Addr} {a i a' : C} {x : D} {v u : V} {o : List Addr} (s : Ex Hs H) (h : putC a i x = some a') (r0 : Rep K Hs H (.ref l) a [l]) (ri : Rep K Hs H u i o) (d : Dt K Hs v x) :
    ∃ z, one1 a' = true ∧ Rep K Hs (upd H l z) (.ref l) a' [l] ∧ ∀ Q : Hp → Prop, Q (upd H l z) → rSetAny (.ref l) u v H Q := by
  unfold putC at h
  split at h
  · rename_i xs k
    cases e : ixN xs.length k with
    | none => rw [e] at h; cases h
    | some j =>
      rw [e] at h
      cases h
      cases r0 with
      | l h1 h2 =>
        refine ⟨_, rfl, .l upd_same (h2.set d j), fun Q q => .inl ⟨l, _, k, j, rfl, ri.int, h1, by rw [h2.len]; exact e, q⟩⟩
  · rename_i ks xs y
    split at h
    · rename_i k e
      split at h
      · rename_i hz
        cases h
        cases r0 with
        | k h1 h2 =>
          have ev := keyD_v ri.data e
          exact ⟨_, rfl, .k upd_same (h2.put k d), fun Q q => .inr ⟨l, _, rfl, .inl ⟨_, k, h1, ev, by rw [h2.len]; exact Nat.lt_of_lt_of_le hz (Evl.sz_of (Nat.le_refl _)), rfl⟩, q⟩⟩
      · cases h
    · cases h
  · rename_i ks xs y
    split at h
    · rename_i k e
      split at h
      · rename_i hz
        cases h
        cases r0 with
        | t h1 h2 =>
          obtain ⟨b, rfl, hb⟩ := keysD_v (ri.data.ex s) e
          exact ⟨_, rfl, .t upd_same (h2.put k d), fun Q q => .inr ⟨l, _, rfl, .inr ⟨_, k, b, h1, rfl, hb, by rw [h2.len]; exact Nat.lt_of_lt_of_le hz (Evl.sz_of (Nat.le_refl _)), rfl⟩, q⟩⟩
      · cases h
    · cases h
  · cases h
theorem eff_set {K : PySem.W.Frag} : EffR K 3 (rSet3 rSetAny) setM := eff_at 1 (fun Hs H l c0 vs cs c cs' s _ hj hv r0 hm hl hn ha => by
  unfold setM at hm
  split at hm
  · rename_i x a i
    cases e : putC a i x with
    | none => rw [e] at hm; cases hm
    | some a' =>
      rw [e] at hm
      cases hm
      cases hj
      match vs, hl with
      | [v, o, i'], _ =>
        cases hv
        obtain ⟨_, rv⟩ := ha 0 v _ rfl rfl
        obtain ⟨_, ri⟩ := ha 2 i' _ rfl rfl
        obtain ⟨z, h0, h1, h2⟩ := putC_sound s e r0 ri rv.data
        exact ⟨.non, .non, z, a', rfl, .non, h0, h1, rfl, fun Q q => h2 _ q⟩
  · cases hm) fun cs c cs' hm => by
  unfold setM at hm
  split at hm
  · rename_i x a i
    cases e : putC a i x with
    | none => rw [e] at hm; cases hm
    | some a' => exact ⟨a, rfl, putC_one e⟩
  · cases hm
theorem sa_call {K : PySem.W.Frag} {ta : TA} {ms : MA} {m : FM} {n : Nat} {Z : Stat} {σ : L2.St} {H : Hp} {L L' : Ls} {T : List (V × C)} {c : C} {Q : VK} {Q' : List V → Hp → Prop} (h : SA K ta ms) (hn : ∀ L avs L', ms L = some (avs, L') → avs.length = n) (S : SR K Z σ H L T) (hm : mCall m ms L = some (c, L'))
    (hq : ∀ vs H1, spM K m n vs H1 Q E0 → Q' vs H1) (q : ∀ v H', SR K Z σ H' L' (T ++ [(v, c)]) → Q v H') : ta σ H Q' := by
  unfold mCall at hm
  split at hm
  · rename_i avs L1 e1
    split at hm
    · rename_i hnd
      split at hm
      · rename_i cs e2
        split at hm
        · rename_i c1 cs' e3
          split at hm
          · rename_i hl
            cases hm
            refine h Z σ H L T S avs L1 e1 _ fun vs H1 tv S1 a1 => ?_
            have := hn L avs L1 e1
            subst this
            exact hq _ _ (S1.call a1 hnd e2 e3 hl q)
          · cases hm
        · cases hm
      · cases hm
    · cases hm
  · cases hm
def mSetIx (ms : MA) : MS := fun L => match mCall setM ms L with
  | some (_, L') => some (.nx L')
  | none => none
theorem ss_setIx {K : PySem.W.Frag} {ro : List Nat} {tv to ti : TE} {gv go gi : MG} (hv : SG K tv gv) (ho : SG K to go) (hi : SG K ti gi) : SS K ro (tAsg tv (gSub to ti rSetAny)) (mSetIx (maCons gv (maCons go (maCons gi maNil)))) := fun Z hz σ H L T S out hm D q => by
  unfold mSetIx at hm
  split at hm
  · rename_i c L1 e
    cases hm
    exact sa_call (n := 3) (Q' := fun vs H1 => rSet3 rSetAny vs H1 (fun _ H' => D.nx σ H')) (sa_cons hv (sa_cons ho (sa_cons hi sa_nil))) (maCons_len (maCons_len (maCons_len maNil_len))) S e (fun vs H1 sp => eff_set _ _ _ sp) fun v H' S' => q σ H' S'.pop
  · cases hm
end VS

/-! more statements and expressions: places, pairs, chains, slices, truth, zip, texts -/
namespace VS
open PySem PySem.Spec L2
open Evl (Ex Ex.refl Ex.trans Ex.new)
open RZ (ItzT iZipA pi_zipA)

theorem js_setIx {X : Cx} {ro : List Nat} {o i e : Expr} {tv to ti : TE} {gv go gi : MG} {pos pos' : Pos} (hu : X.A.units + 1 < cLine) (hv : JG X e tv gv) (ho : JG X o to go) (hi : JG X i ti gi)
    (ha : ∀ v, assign (.Subscript o i pos') X.env v = (do
      let ov ← holding [v] (eval o X.env)
      let iv ← holding [v, ov] (eval i X.env)
      standAt pos'
      holding [v, ov, iv] (setItem ov iv v)
      release [v, ov, iv] []) := by intro _; rfl)
    (hs : swapsWithSole [.Subscript o i pos'] e pos.line X.env = pure false := by rfl) (hw : swappedStores [.Subscript o i pos'] e X.env = pure none := by rfl)
    (h1 : (assignEach [.Subscript o i pos'] X.env).map (·.2) = [assign (.Subscript o i pos') X.env] := by rfl) :
    JS X ro (.Assign [.Subscript o i pos'] e pos) (tAsg tv (gSub to ti rSetAny)) (mSetIx (maCons gv (maCons go (maCons gi maNil)))) :=
  ⟨ps_asg hv.pe (pg_sub ho.pe hi.pe (set_any hu) ha) hs hw h1, ss_setIx hv.se ho.se hi.se⟩

/-! ### a, b = x, y -/
def mPar (i j : Nat) (ms : MA) : MS := fun L => match ms L with
  | some ([.val a, .val b], L') => if i < L'.length ∧ j < L'.length then some (.nx ((L'.set j (some b)).set i (some a))) else none
  | _ => none
theorem ss_par {K : PySem.W.Frag} {ro : List Nat} {i j : Nat} {ta : TA} {ms : MA} (h : SA K ta ms) (hij : i ≠ j) (hi : i ∉ ro) (hj : j ∉ ro) : SS K ro (tPar i j ta) (mPar i j ms) := fun Z hz σ H L T S out hm D q => by
  unfold mPar at hm
  split at hm
  · rename_i a b L1 e
    split at hm
    · rename_i hl
      cases hm
      refine h Z σ H L T S _ L1 e _ fun vs H1 tv S1 a1 => ?_
      cases a1 with
      | val a2 =>
        cases a2 with
        | val a3 =>
          cases a3
          rename_i v w
          refine ⟨v, w, rfl, ?_⟩
          have hlen : L1.length = σ.length := by
            obtain ⟨_, _, S0⟩ := S1
            exact S0.len
          have S2 : SR K Z σ H1 L1 (T ++ [(v, a)] ++ [(w, b)]) := by rw [List.append_assoc]; exact S1
          have S3 := S2.store (j := j) (by rw [← hlen]; exact hl.2) (by rw [hz]; exact hj)
          have S4 := S3.store (j := i) (by rw [List.length_set, ← hlen]; exact hl.1) (by rw [hz]; exact hi)
          rw [List.set_comm _ _ (Ne.symm hij)] at S4
          exact q _ _ S4
    · cases hm
  · cases hm
theorem js_par {X : Cx} {ro : List Nat} {x y : PySem.Str} {a b : Expr} {ta : TA} {ms : MA} {px py pt pos : Pos} {kt k2 pt2} (i j : Nat) (hc : X.calm = true) (hN : X.N.Nodup) (ha : JA X [a, b] ta ms) (hij : i ≠ j := by decide) (hir : i ∉ ro := by decide) (hjr : j ∉ ro := by decide) (hi : X.N[i]? = some x := by rfl) (hj : X.N[j]? = some y := by rfl)
    (hx : X.env.scope.names.lookup x = some .local := by rfl) (hy : X.env.scope.names.lookup y = some .local := by rfl)
    (hw : swappedStores [.Tuple [.Name x px, .Name y py] kt pt] (.Tuple [a, b] k2 pt2) X.env = pure (some [x, y]) := by rfl)
    (hs : swapsWithSole [.Tuple [.Name x px, .Name y py] kt pt] (.Tuple [a, b] k2 pt2) pos.line X.env = pure false := by rfl) :
    JS X ro (.Assign [.Tuple [.Name x px, .Name y py] kt pt] (.Tuple [a, b] k2 pt2) pos) (tPar i j ta) (mPar i j ms) := ⟨ps_par hc hN hi hj hij hx hy ha.pa hw hs, ss_par ha.sa hij hir hjr⟩
def mPar3 (i j l : Nat) (ms : MA) : MS := fun L => match ms L with
  | some ([.val a, .val b, .val c], L') => if i < L'.length ∧ j < L'.length ∧ l < L'.length then some (.nx (((L'.set l (some c)).set j (some b)).set i (some a))) else none
  | _ => none
theorem ss_par3 {K : PySem.W.Frag} {ro : List Nat} {i j l : Nat} {ta : TA} {ms : MA} (h : SA K ta ms) (hij : i ≠ j) (hil : i ≠ l) (hjl : j ≠ l) (hi : i ∉ ro) (hj : j ∉ ro) (hl : l ∉ ro) : SS K ro (tPar3 i j l ta) (mPar3 i j l ms) := fun Z hz σ H L T S out hm D q => by
  unfold mPar3 at hm
  split at hm
  · rename_i a b c L1 e
    split at hm
    · rename_i hln
      cases hm
      refine h Z σ H L T S _ L1 e _ fun vs H1 tv S1 a1 => ?_
      cases a1 with
      | val a2 =>
        cases a2 with
        | val a3 =>
          cases a3 with
          | val a4 =>
            cases a4
            rename_i u v w
            refine ⟨u, v, w, rfl, ?_⟩
            have hlen : L1.length = σ.length := by
              obtain ⟨_, _, S0⟩ := S1
              exact S0.len
            have S2 : SR K Z σ H1 L1 (T ++ [(u, a)] ++ [(v, b)] ++ [(w, c)]) := by simpa using S1
            have S3 := S2.store (j := l) (by rw [← hlen]; exact hln.2.2) (by rw [hz]; exact hl)
            have S4 := S3.store (j := j) (by rw [List.length_set, ← hlen]; exact hln.2.1) (by rw [hz]; exact hj)
            have S5 := S4.store (j := i) (by rw [List.length_set, List.length_set, ← hlen]; exact hln.1) (by rw [hz]; exact hi)
            have e9 : ((σ.set l (some w)).set j (some v)).set i (some u) = ((σ.set i (some u)).set j (some v)).set l (some w) := by
              rw [List.set_comm _ _ (Ne.symm hjl), List.set_comm _ _ (Ne.symm hil), List.set_comm _ _ (Ne.symm hij)]
            rw [e9] at S5
            exact q _ _ S5
    · cases hm
  · cases hm
theorem js_par3 {X : Cx} {ro : List Nat} {x y z : PySem.Str} {a b c : Expr} {ta : TA} {ms : MA} {px py pz pt pos : Pos} {kt k2 pt2} (i j l : Nat) (hc : X.calm = true) (hN : X.N.Nodup) (ha : JA X [a, b, c] ta ms) (hij : i ≠ j := by decide) (hil : i ≠ l := by decide) (hjl : j ≠ l := by decide) (hir : i ∉ ro := by decide) (hjr : j ∉ ro := by decide) (hlr : l ∉ ro := by decide) (hi : X.N[i]? = some x := by rfl) (hj : X.N[j]? = some y := by rfl) (hl : X.N[l]? = some z := by rfl)
    (hx : X.env.scope.names.lookup x = some .local := by rfl) (hy : X.env.scope.names.lookup y = some .local := by rfl) (hz : X.env.scope.names.lookup z = some .local := by rfl)
    (hw : swappedStores [.Tuple [.Name x px, .Name y py, .Name z pz] kt pt] (.Tuple [a, b, c] k2 pt2) X.env = pure (some [x, y, z]) := by rfl)
    (hs : swapsWithSole [.Tuple [.Name x px, .Name y py, .Name z pz] kt pt] (.Tuple [a, b, c] k2 pt2) pos.line X.env = pure false := by rfl) :
    JS X ro (.Assign [.Tuple [.Name x px, .Name y py, .Name z pz] kt pt] (.Tuple [a, b, c] k2 pt2) pos) (tPar3 i j l ta) (mPar3 i j l ms) := ⟨ps_par3 hc hN hi hj hl hij hil hjl hx hy hz ha.pa hw hs, ss_par3 ha.sa hij hil hjl hir hjr hlr⟩

/-! ### a op b op' c -/
def mChain (f f' : List C → Option C) (ga gb gc : MG) : ME := fun L => match ga L with
  | some (av, L1) => match gb L1 with
    | some (bv, L2) => match conts L2 [av, bv] with
      | some cs => match f cs with
        | some (.d (.bl true)) => match gc L2 with
          | some (cv, L3) => match conts L3 [bv, cv] with
            | some cs' => match f' cs' with
              | some c => some (c, L3)
              | none => none
            | none => none
          | none => none
        | some (.d (.bl false)) => some (.d (.bl false), L2)
        | _ => none
      | none => none
    | none => none
  | none => none
theorem SR.opKeep {K : PySem.W.Frag} {Z : Stat} {σ : L2.St} {H : Hp} {L : Ls} {T tv : List (V × C)} {avs : List AV} {vs : List V} {cs : List C} {c : C} {r : List V → Hp → VK → Prop} {f : List C → Option C} {Q : VK} (S : SR K Z σ H L (T ++ tv)) (h : OpS K r f)
    (ha : AvOk σ avs vs tv) (hc : conts L avs = some cs) (hf : f cs = some c) (q : ∀ v H', SR K Z σ H' L (T ++ tv ++ [(v, c)]) → Q v H') : r vs H Q := by
  obtain ⟨Hs, w, S⟩ := S
  refine h Hs H vs cs S.sub (by rw [ha.len, conts_len hc]) (fun k v c' h1 h2 => ?_) c hf Q fun v H' Hs' o g rr ho => ?_
  · obtain ⟨o, t, _, r', _⟩ := S.args ha hc k v c' h1 h2
    exact ⟨o, r'⟩
  · have S1 := S.result (n := (T ++ tv).length) (Nat.le_refl _) g rr ho g.new
    rw [List.take_length] at S1
    exact q v H' S1
theorem se_chain {K : PySem.W.Frag} {r r' : R2} {f f' : List C → Option C} {ta tb tc : TE} {ga gb gc : MG} (ho : OpS K (r2 r) f) (ho' : OpS K (r2 r') f') (ha : SG K ta ga) (hb : SG K tb gb) (hc : SG K tc gc) : SE K (tChain r r' ta tb tc) (mChain f f' ga gb gc) := by
  intro Z σ H L T S c L' hm Q q
  unfold mChain at hm
  split at hm
  · rename_i av L1 e1
    split at hm
    · rename_i bv L2 e2
      split at hm
      · rename_i cs e3
        refine ha Z σ H L T S av L1 e1 _ fun x H1 t1 S1 a1 => hb Z σ H1 L1 _ S1 bv L2 e2 _ fun y H2 t2 S2 a2 => ?_
        have S2' : SR K Z σ H2 L2 (T ++ (t1 ++ t2)) := by rw [← List.append_assoc]; exact S2
        split at hm
        · rename_i e4
          refine S2'.opKeep ho (a1.one a2) e3 e4 fun z H3 S3 => ?_
          obtain ⟨_, _, _, rz⟩ := S3.top
          refine ⟨true, rz.bl, ?_⟩
          rw [if_pos rfl]
          split at hm
          · rename_i cv L3 e5
            split at hm
            · rename_i cs' e6
              split at hm
              · rename_i c' e7
                cases hm
                have S4 : SR K Z σ H3 L2 (T ++ t1 ++ t2) := by
                  have := S3.pop
                  rwa [← List.append_assoc] at this
                refine hc Z σ H3 L2 _ S4 cv L' e5 _ fun w H4 t3 S5 a3 => ?_
                have S6 : SR K Z σ H4 L' (T ++ t1 ++ (t2 ++ t3)) := by rw [← List.append_assoc]; exact S5
                exact S6.op ho' (a2.one a3) e6 e7 fun v H5 S7 => q v H5 S7.squeeze
              · cases hm
            · cases hm
          · cases hm
        · rename_i e4
          cases hm
          refine S2'.opKeep ho (a1.one a2) e3 e4 fun z H3 S3 => ?_
          obtain ⟨_, _, _, rz⟩ := S3.top
          refine ⟨false, rz.bl, ?_⟩
          rw [if_neg (by decide)]
          exact q _ H3 (S3.pop.pop.pushC fun _ => .bl _)
        · cases hm
      · cases hm
    · cases hm
  · cases hm
section
variable {X : Cx} {a b c : Expr} {ta tb tc : TE} {ga gb gc : MG} {pos : Pos} {op op' : CmpOp} {r r' : R2} {f f' : List C → Option C}
theorem je_chain (ho : OpR X (compareOp op) r) (hs : OpS X.K (r2 r) f) (ho' : OpR X (compareOp op') r') (hs' : OpS X.K (r2 r') f') (ha : JG X a ta ga) (hb : JG X b tb gb) (hc : JG X c tc gc)
    (hm : lastMarks [op, op'] [b, c] = false := by with_unfolding_all rfl) : JE X (.Compare a [op, op'] [b, c] pos) (tChain r r' ta tb tc) (mChain f f' ga gb gc) := ⟨pe_chain ho ho' ha.pe hb.pe hc.pe hm, se_chain hs hs' ha.se hb.se hc.se⟩
theorem jt_chain (ho : OpR X (compareOp op) r) (hs : OpS X.K (r2 r) f) (ho' : OpR X (compareOp op') r') (hs' : OpS X.K (r2 r') f') (ha : JG X a ta ga) (hb : JG X b tb gb) (hc : JG X c tc gc)
    (hm : lastMarks [op, op'] [b, c] = false := by with_unfolding_all rfl) : JT X (.Compare a [op, op'] [b, c] pos) (tTest (tChain r r' ta tb tc)) (tstM (mChain f f' ga gb gc)) := ⟨pt_chain ho ho' ha.pe hb.pe hc.pe hm, st_test (se_chain hs hs' ha.se hb.se hc.se)⟩
end

/-! ### slices -/
abbrev MO := Ls → Option (Option Int × Ls)
def SO (K : PySem.W.Frag) (t : TO) (m : MO) : Prop := ∀ (Z : Stat) (σ : L2.St) (H : Hp) (L : Ls) (T : List (V × C)), SR K Z σ H L T → ∀ o L', m L = some (o, L') →
  ∀ Q : Option Int → Hp → Prop, (∀ H', SR K Z σ H' L' T → Q o H') → t σ H Q
structure JO (X : Cx) (e : Option Expr) (t : TO) (m : MO) : Prop where
  po : PO X e t
  so : SO X.K t m
def moNone : MO := fun L => some (none, L)
def moSome (m : ME) : MO := fun L => match m L with
  | some (.d (.int i), L') => some (some i, L')
  | _ => none
theorem jo_none {X : Cx} : JO X none tNoPart moNone := ⟨po_none, fun Z σ H L T S o L' hm Q q => by cases hm; exact q H S⟩
theorem jo_some {X : Cx} {e : Expr} {te : TE} {m : ME} (h : JE X e te m) : JO X (some e) (tPart te) (moSome m) := ⟨po_some h.pe, fun Z σ H L T S o L' hm Q q => by
  unfold moSome at hm
  split at hm
  · rename_i i L1 e1
    cases hm
    refine h.se Z σ H L T S _ _ e1 _ fun v H' S' => ?_
    obtain ⟨_, _, _, r⟩ := S'.top
    exact ⟨i, r.int, q H' S'.pop⟩
  · cases hm⟩
def cutD (xs : List D) (lo hi : Option Int) : List D := (xs.drop (HT.sIx xs.length 0 lo)).take (HT.sIx xs.length xs.length hi - HT.sIx xs.length 0 lo)
theorem Dts.cut {K : PySem.W.Frag} {H : Hp} {vs : List V} {xs : List D} (h : Dts K H vs xs) (lo hi : Option Int) : Dts K H (cutV vs lo hi) (cutD xs lo hi) := by
  unfold cutV cutD
  rw [h.len]
  exact (h.drop _).take _
/-- a list: a new list; a tuple; a text -/
def slC (c : C) (lo hi : Option Int) : Option C := match asL c with
  | some xs => some (.l (cutD xs lo hi))
  | none => match c with
    | .d (.tup xs) => some (.d (.tup (cutD xs lo hi)))
    | .d (.str z) => if z.length ≤ sizeLine then some (.d (.str (cutS z lo hi))) else none
    | _ => none
def rSlAny (K : PySem.W.Frag) : V → Option Int → Option Int → Hp → VK → Prop := fun x lo hi H Q => rSlL K x lo hi H Q ∨ rSlA K x lo hi H Q ∨ rSlS x lo hi H Q
theorem sl_any {X : Cx} : SlR X (rSlAny X.K) := SlR.or sl_list (SlR.or sl_tupA sl_str)
def mSl (g : MG) (ml mh : MO) : ME := fun L => match g L with
  | some (av, L1) => match ml L1 with
    | some (lo, L2) => match mh L2 with
      | some (hi, L3) => match contA L3 av with
        | some c => match slC c lo hi with
          | some c' => some (c', L3)
          | none => none
        | none => none
      | none => none
    | none => none
  | none => none
theorem whole_cut {xs : List V} {lo hi : Option Int} (h : HT.sIx xs.length 0 lo = 0 ∧ HT.sIx xs.length xs.length hi = xs.length) : cutV xs lo hi = xs := by
  unfold cutV
  rw [h.1, h.2]
  simp
theorem whole_cutD {xs : List D} {lo hi : Option Int} (h : HT.sIx xs.length 0 lo = 0 ∧ HT.sIx xs.length xs.length hi = xs.length) : cutD xs lo hi = xs := by
  unfold cutD
  rw [h.1, h.2]
  simp
theorem ops_sl {K : PySem.W.Frag} (lo hi : Option Int) : OpS K (fun vs H Q => match vs with | [x] => rSlAny K x lo hi H Q | _ => False) (fun cs => match cs with | [c] => slC c lo hi | _ => none) := by
  intro Hs H vs cs s hl ha c hc Q q
  match cs, vs, hl, hc with
  | [a], [x], _, hc =>
    obtain ⟨o, ra⟩ := ha 0 x a rfl rfl
    replace hc : slC a lo hi = some c := hc
    show rSlAny K x lo hi H Q
    unfold slC at hc
    split at hc
    · rename_i xs e
      cases hc
      obtain ⟨p, vs, rfl, h1, h2⟩ := ra.asL s e
      exact .inl ⟨p, vs, rfl, h1, fin_l s q (h2.cut lo hi)⟩
    · split at hc
      · rename_i xs _
        cases hc
        obtain ⟨p, vs, rfl, h1, h2⟩ := ra.asT s rfl
        refine .inr (.inl ⟨p, vs, rfl, h1, fun hw => ?_, fun _ => fin_t s q (h2.cut lo hi)⟩)
        rw [h2.len] at hw
        have e := whole_cutD hw
        rw [e] at q
        exact fin_d s q ra.data
      · rename_i z _
        split at hc
        · rename_i hz
          cases hc
          exact .inr (.inr ⟨_, ra.str, hz, fin_d s q (.str _)⟩)
        · cases hc
      · cases hc
theorem se_sl {K : PySem.W.Frag} {te : TE} {tl th : TO} {g : MG} {ml mh : MO} (hg : SG K te g) (hl : SO K tl ml) (hh : SO K th mh) : SE K (tSl (rSlAny K) te tl th) (mSl g ml mh) := by
  intro Z σ H L T S c L' hm Q q
  unfold mSl at hm
  split at hm
  · rename_i av L1 e1
    split at hm
    · rename_i lo L2 e2
      split at hm
      · rename_i hi L3 e3
        split at hm
        · rename_i c0 e4
          split at hm
          · rename_i c' e5
            cases hm
            refine hg Z σ H L T S av L1 e1 _ fun x H1 tv S1 a1 => hl Z σ H1 L1 _ S1 lo L2 e2 _ fun H2 S2 => hh Z σ H2 L2 _ S2 hi L' e3 _ fun H3 S3 => ?_
            exact S3.op (ops_sl lo hi) a1 (show conts L' [av] = some [c0] by unfold conts; rw [e4]; rfl) e5 q
          · cases hm
        · cases hm
      · cases hm
    · cases hm
  · cases hm
theorem je_sl {X : Cx} {e : Expr} {lo hi : Option Expr} {te : TE} {tl th : TO} {g : MG} {ml mh : MO} {p2 pos : Pos} (he : JG X e te g) (hl : JO X lo tl ml) (hh : JO X hi th mh) : JE X (.Subscript e (.Slice lo hi none p2) pos) (tSl (rSlAny X.K) te tl th) (mSl g ml mh) :=
  ⟨pe_slice sl_any he.pe hl.po hh.po, se_sl he.se hl.so hh.so⟩

/-! ### truth -/
theorem Dts.emp {K : PySem.W.Frag} {H : Hp} {vs : List V} {xs : List D} (h : Dts K H vs xs) : vs.isEmpty = xs.isEmpty := by cases h <;> rfl
theorem truB_sound {K : PySem.W.Frag} {Hs H : Hp} {v : V} {c : C} {o : List Addr} {k : Bool} (s : Ex Hs H) (r : Rep K Hs H v c o) (h : truB c = some k) : TruV K v H k := by
  unfold truB at h
  split at h
  · cases h
    obtain ⟨p, vs, rfl, h1, h2⟩ := r.asL s rfl
    exact .inl ⟨vs, h1, by rw [h2.emp]⟩
  · cases h
    obtain ⟨p, vs, rfl, h1, h2⟩ := r.asL s rfl
    exact .inl ⟨vs, h1, by rw [h2.emp]⟩
  · cases h
    obtain ⟨p, vs, rfl, h1, h2⟩ := r.asT s rfl
    exact .inr (.inl ⟨vs, h1, by rw [h2.emp]⟩)
  · cases h; rw [r.bl]; rfl
  · cases h; rw [r.int]; rfl
  · cases h; rw [r.non]; rfl
  · cases h
def tstTruM (g : MG) : MT := fun L => match g L with
  | some (av, L') => match contA L' av with
    | some c => match truB c with
      | some k => some (k, L')
      | none => none
    | none => none
  | none => none
theorem jt_tru {X : Cx} {a : Expr} {ta : TE} {g : MG} (h : JG X a ta g) (he : ∀ whole, isTrue a X.env whole = (do let v ← whole; standAt a.pos; holding [v] (truthy v)) := by intro _; rfl) :
    JT X a (fun σ H Q => ta σ H fun x H' => ∃ k, TruV X.K x H' k ∧ Q k H') (tstTruM g) := ⟨pt_truth h.pe he, fun Z σ H L T S b L' hm Q q => by
  unfold tstTruM at hm
  split at hm
  · rename_i av L1 e1
    split at hm
    · rename_i c e2
      split at hm
      · rename_i k e3
        cases hm
        refine h.se Z σ H L T S av L' e1 _ fun v H1 tv S1 a1 => ?_
        obtain ⟨Hs, w, S0⟩ := id S1
        obtain ⟨o, t, _, rr, _⟩ := S0.args a1 (show conts L' [av] = some [c] by unfold conts; rw [e2]; rfl) 0 v c rfl rfl
        exact ⟨_, truB_sound S0.sub rr e3, q H1 S1.pop⟩
      · cases hm
    · cases hm
  · cases hm⟩

/-! ### zip, texts, enumerate -/
def zipD : List D → List D → List D
  | x :: xs, y :: ys => .tup [x, y] :: zipD xs ys
  | _, _ => []
theorem zipD_get : ∀ {xs ys : List D} {i : Nat} {z : D}, (zipD xs ys)[i]? = some z → ∃ x y, xs[i]? = some x ∧ ys[i]? = some y ∧ z = .tup [x, y]
  | [], _, i, z, h => by simp [zipD] at h
  | _ :: _, [], i, z, h => by simp [zipD] at h
  | x :: xs, y :: ys, 0, z, h => by
    have : D.tup [x, y] = z := by simpa [zipD] using h
    exact ⟨x, y, rfl, rfl, this.symm⟩
  | x :: xs, y :: ys, i + 1, z, h => by
    obtain ⟨a, b, h1, h2, h3⟩ := zipD_get (xs := xs) (ys := ys) (i := i) (z := z) (by simpa [zipD] using h)
    exact ⟨a, b, by simpa using h1, by simpa using h2, h3⟩
theorem zipD_end : ∀ {xs ys : List D} {i : Nat}, (zipD xs ys).length ≤ i → xs.length ≤ i ∨ ys.length ≤ i
  | [], _, i, h => .inl (Nat.zero_le _)
  | _ :: _, [], i, h => .inr (Nat.zero_le _)
  | x :: xs, y :: ys, 0, h => by simp [zipD] at h
  | x :: xs, y :: ys, i + 1, h => by
    rcases zipD_end (xs := xs) (ys := ys) (i := i) (by simpa [zipD] using h) with q | q
    · exact .inl (by simpa using q)
    · exact .inr (by simpa using q)
theorem SRw.mids {K : PySem.W.Frag} {Z : Stat} {σ : L2.St} {H Hs : Hp} {L : Ls} {T U T2 : List (V × C)} {vc : V × C} {w : Own} (S : SRw K Z σ H L (T ++ U ++ T2) Hs w) {k : Nat} (h : U[k]? = some vc) : ∃ o, Rep K Hs H vc.1 vc.2 o := by
  have hk := (List.getElem?_eq_some_iff.mp h).1
  obtain ⟨o, r, _⟩ := S.tmp (T.length + k) vc (by rw [List.append_assoc, List.getElem?_append_right (by omega), Nat.add_sub_cancel_left, List.getElem?_append_left hk]; exact h)
  exact ⟨o, r⟩
/-- a new pair of data -/
theorem SRw.pair {K : PySem.W.Frag} {Z : Stat} {σ : L2.St} {H Hs : Hp} {L : Ls} {T : List (V × C)} {w : Own} (S : SRw K Z σ H L T Hs w) {p : Addr} {vs : List V} {xs : List D} (hp : H p = none) (d : Dts K Hs vs xs) : SR K Z σ (upd H p (.tup vs)) L (T ++ [(.ref p, .d (.tup xs))]) := by
  have g := Grow.shared (u := .tup vs) S.sub hp
  have q := S.result (n := T.length) (Nat.le_refl _) g (.d (.tup upd_same (d.ex g.exs))) (fun a ha => absurd ha (by simp)) g.new
  rwa [List.take_length] at q
theorem walk_zl {B : Hp} {K : PySem.W.Frag} {a b : Addr} {xs ys : List D} : Walk B K (Itz K a b) (zipD xs ys) [(.ref a, .d (.lst xs)), (.ref b, .d (.lst ys))] := by
  intro Z σ H L T T2 i _ S
  obtain ⟨Hs, w, S0⟩ := S
  obtain ⟨o, r⟩ := S0.mids (k := 0) rfl
  obtain ⟨o', r'⟩ := S0.mids (k := 1) rfl
  obtain ⟨_, vs, e, h1, h2⟩ := r.asL S0.sub rfl
  cases e
  obtain ⟨_, us, e, h1', h2'⟩ := r'.asL S0.sub rfl
  cases e
  refine ⟨fun z hz => ?_, fun hi => ⟨vs, us, h1, h1', by rw [h2.len, h2'.len]; exact zipD_end hi⟩⟩
  obtain ⟨x, y, e1, e2, rfl⟩ := zipD_get hz
  obtain ⟨v, hv, hd⟩ := h2.get e1
  obtain ⟨u, hu, hd'⟩ := h2'.get e2
  refine ⟨⟨vs, us, v, u, h1, h1', hv, hu⟩, fun v' H' yl => ?_⟩
  obtain ⟨p, v2, u2, rfl, hp, rfl, f1, f2⟩ := yl
  have e3 := f1 vs h1
  have e4 := f2 us h1'
  rw [hv] at e3
  rw [hu] at e4
  cases e3
  cases e4
  exact S0.pair hp (.cons hd (.cons hd' .nil))
theorem walk_zt {B : Hp} {K : PySem.W.Frag} {a b : Addr} {xs ys : List D} : Walk B K (ItzT K a b) (zipD xs ys) [(.ref a, .d (.tup xs)), (.ref b, .d (.tup ys))] := by
  intro Z σ H L T T2 i _ S
  obtain ⟨Hs, w, S0⟩ := S
  obtain ⟨o, r⟩ := S0.mids (k := 0) rfl
  obtain ⟨o', r'⟩ := S0.mids (k := 1) rfl
  obtain ⟨_, vs, e, h1, h2⟩ := r.asT S0.sub rfl
  cases e
  obtain ⟨_, us, e, h1', h2'⟩ := r'.asT S0.sub rfl
  cases e
  refine ⟨fun z hz => ?_, fun hi => ⟨vs, us, h1, h1', by rw [h2.len, h2'.len]; exact zipD_end hi⟩⟩
  obtain ⟨x, y, e1, e2, rfl⟩ := zipD_get hz
  obtain ⟨v, hv, hd⟩ := h2.get e1
  obtain ⟨u, hu, hd'⟩ := h2'.get e2
  refine ⟨⟨vs, us, v, u, h1, h1', hv, hu⟩, fun v' H' yl => ?_⟩
  obtain ⟨p, v2, u2, rfl, hp, rfl, f1, f2⟩ := yl
  have e3 := f1 vs h1
  have e4 := f2 us h1'
  rw [hv] at e3
  rw [hu] at e4
  cases e3
  cases e4
  exact S0.pair hp (.cons hd (.cons hd' .nil))
/-- two shared lists or two tuples -/
def miZip (ms : MA) : MI := fun L => match ms L with
  | some ([.val a, .val b], L') => match a, b with
    | .d (.lst xs), .d (.lst ys) => some (zipD xs ys, L')
    | .d (.tup xs), .d (.tup ys) => some (zipD xs ys, L')
    | _, _ => none
  | _ => none
theorem si_zip {K : PySem.W.Frag} {ta : TA} {ms : MA} (h : SA K ta ms) : SI K (iZipA K ta) (miZip ms) := by
  intro Z σ H L T S xs L' hm R q
  unfold miZip at hm
  split at hm
  · rename_i a b L1 e1
    refine h Z σ H L T S _ L1 e1 _ fun vs H1 tv S1 a1 => ?_
    cases a1 with
    | val a2 =>
      cases a2 with
      | val a3 =>
        cases a3
        rename_i v u
        obtain ⟨Hs, w, S0⟩ := id S1
        have S0' : SRw K Z σ H1 L1 (T ++ [(v, a), (u, b)] ++ []) Hs w := by rw [List.append_nil]; exact S0
        obtain ⟨o, r⟩ := S0'.mids (k := 0) rfl
        obtain ⟨o', r'⟩ := S0'.mids (k := 1) rfl
        split at hm
        · cases hm
          obtain ⟨p, vs, rfl, h1, h2⟩ := r.asL S0.sub rfl
          obtain ⟨p', us, rfl, h1', h2'⟩ := r'.asL S0.sub rfl
          exact ⟨p, p', vs, us, rfl, .inl ⟨h1, h1', q _ _ _ S1 walk_zl⟩⟩
        · cases hm
          obtain ⟨p, vs, rfl, h1, h2⟩ := r.asT S0.sub rfl
          obtain ⟨p', us, rfl, h1', h2'⟩ := r'.asT S0.sub rfl
          exact ⟨p, p', vs, us, rfl, .inr ⟨h1, h1', q _ _ _ S1 walk_zt⟩⟩
        · cases hm
  · cases hm
theorem ji_zip {X : Cx} {e e2 : Expr} {ta : TA} {ms : MA} {p pos tpos : Pos} {elts : List Expr} {kk : Nat} (hg : Gl X "zip") (hm : X.mg "zip" = none) (ha : JA X [e, e2] ta ms)
    (hs : starEach [e, e2] X.env = (false, eval e X.env) :: starEach [e2] X.env := by rfl) (hpl : (backTo pos (starEach [e2] X.env)).any (·.1) = false := by rfl) :
    JI X (.Tuple elts kk tpos) (.Call (.Name "zip" p) [e, e2] [] pos) (iZipA X.K ta) (miZip ms) := ⟨pi_zipA hg hm ha.pa hs hpl, si_zip ha.sa⟩
/-- a text -/
def signs (z : PySem.Str) : List D := z.cps.toList.map fun c => .str ⟨#[c]⟩
theorem walk_s {B : Hp} {K : PySem.W.Frag} {z : PySem.Str} : Walk B K (Its z) (signs z) [] := by
  intro Z σ H L T T2 i _ S
  refine ⟨fun x hx => ?_, fun hi => by
    rw [signs, List.length_map, Array.length_toList] at hi
    exact hi⟩
  unfold signs at hx
  rw [List.getElem?_map] at hx
  obtain ⟨c, hc, rfl⟩ := Option.map_eq_some_iff.mp hx
  have hlt : i < z.cps.size := by simpa using (List.getElem?_eq_some_iff.mp hc).1
  refine ⟨hlt, fun v H' y => ?_⟩
  obtain ⟨rfl, c', e, rfl⟩ := y
  have : c' = c := by
    rw [Array.getElem?_toList, e] at hc
    exact Option.some.inj hc
  subst this
  exact S.pushC fun _ => .str _
def miStr (m : ME) : MI := fun L => match m L with
  | some (.d (.str z), L') => some (signs z, L')
  | _ => none
theorem ji_str {X : Cx} {tg e : Expr} {te : TE} {m : ME} (h : JE X e te m) : JI X tg e (iStr te) (miStr m) := ⟨pi_str h.pe, fun Z σ H L T S xs L' hm R q => by
  unfold miStr at hm
  split at hm
  · rename_i z L1 e1
    cases hm
    refine h.se Z σ H L T S _ L' e1 _ fun v H1 S1 => ?_
    obtain ⟨_, _, _, r⟩ := S1.top
    exact ⟨z, r.str, q _ H1 [] (by rw [List.append_nil]; exact S1.pop) walk_s⟩
  · cases hm⟩
/-- enumerate of a list -/
def enumD : Nat → List D → List D
  | _, [] => []
  | n, x :: xs => .tup [.int (n : Nat), x] :: enumD (n + 1) xs
theorem enumD_get : ∀ {xs : List D} {n i : Nat} {z : D}, (enumD n xs)[i]? = some z → ∃ x, xs[i]? = some x ∧ z = .tup [.int ((n + i : Nat) : Int), x]
  | [], n, i, z, h => by simp [enumD] at h
  | x :: xs, n, 0, z, h => by
    have : D.tup [.int (n : Nat), x] = z := by simpa [enumD] using h
    exact ⟨x, rfl, this.symm⟩
  | x :: xs, n, i + 1, z, h => by
    obtain ⟨a, h1, h3⟩ := enumD_get (xs := xs) (n := n + 1) (i := i) (z := z) (by simpa [enumD] using h)
    refine ⟨a, by simpa using h1, ?_⟩
    have e : n + 1 + i = n + (i + 1) := by omega
    rw [e] at h3
    exact h3
theorem enumD_len : ∀ {xs : List D} {n : Nat}, (enumD n xs).length = xs.length
  | [], _ => rfl
  | x :: xs, n => by rw [enumD, List.length_cons, enumD_len]; rfl
theorem walk_e {B : Hp} {K : PySem.W.Frag} {a : Addr} {xs : List D} : Walk B K (Ite K a) (enumD 0 xs) [(.ref a, .d (.lst xs))] := by
  intro Z σ H L T T2 i _ S
  obtain ⟨Hs, w, S0⟩ := S
  obtain ⟨o, r⟩ := S0.mids (k := 0) rfl
  obtain ⟨_, vs, e, h1, h2⟩ := r.asL S0.sub rfl
  cases e
  refine ⟨fun z hz => ?_, fun hi => ⟨vs, h1, by rw [h2.len]; rwa [enumD_len] at hi⟩⟩
  obtain ⟨x, e1, rfl⟩ := enumD_get hz
  obtain ⟨v, hv, hd⟩ := h2.get e1
  refine ⟨⟨vs, v, h1, hv⟩, fun v' H' yl => ?_⟩
  obtain ⟨p, v2, rfl, hp, rfl, f1⟩ := yl
  have e3 := f1 vs h1
  rw [hv] at e3
  cases e3
  rw [Nat.zero_add]
  exact S0.pair hp (.cons (.int _) (.cons hd .nil))
def miEnum (ms : MA) : MI := fun L => match ms L with
  | some ([.val (.d (.lst xs))], L') => some (enumD 0 xs, L')
  | _ => none
theorem si_enum {K : PySem.W.Frag} {ta : TA} {ms : MA} (h : SA K ta ms) : SI K (iEnum K ta) (miEnum ms) := by
  intro Z σ H L T S xs L' hm R q
  unfold miEnum at hm
  split at hm
  · rename_i ys L1 e1
    cases hm
    refine h Z σ H L T S _ L' e1 _ fun vs H1 tv S1 a1 => ?_
    cases a1 with
    | val a2 =>
      cases a2
      rename_i v
      obtain ⟨_, _, s, r⟩ := S1.top
      obtain ⟨p, vs, rfl, h1, h2⟩ := r.asL s rfl
      exact ⟨p, vs, rfl, h1, q _ _ _ S1 walk_e⟩
  · cases hm
theorem ji_enum {X : Cx} {e : Expr} {ta : TA} {ms : MA} {p pos tpos : Pos} {elts : List Expr} {kk : Nat} (hg : Gl X "enumerate") (hm : X.mg "enumerate" = none) (ha : JA X [e] ta ms) (hs : starEach [e] X.env = [(false, eval e X.env)] := by rfl) :
    JI X (.Tuple elts kk tpos) (.Call (.Name "enumerate" p) [e] [] pos) (iEnum X.K ta) (miEnum ms) := ⟨pi_enum hg hm ha.pa hs, si_enum ha.sa⟩
end VS

/-! sorted, max, min, count, order: data of one shape -/
namespace VS
open PySem PySem.Spec L2
open Evl (Ex Ex.refl Ex.trans Ex.new)
open PySem.W (EachIs alike alikeAll dataLt dataLe)

/-! ### sorted of a tuple: the library's rule is of a list -/
section
variable {prog : Program} {w : World} {A : Around} {E : Value → Shared → Prop} {s : Shared}
open PyProof.Rows in
theorem collect_t {t : Addr} {zs : List Value} {R : List Value → Shared → Prop} (ht : s.heap.IsTuple t zs.toArray)
    (q : R zs { s with heap := (s.heap.push (seqObj "list" #[] 0)).update s.heap.objs.size (Obj.mapSeq (· ++ zs.toArray)) }) (hz : zs.length ≤ sizeLine) :
    wpAny (model prog w) A (collect (.ref t)) R E s := by
  obtain ⟨ob, hob, hcl, m, hda⟩ := id ht
  unfold collect
  refine wpAny_bind (wpAny_runValue (codeAny_builtin entry_proto_collect' ?_))
  show wpAny _ _ (do again (.builtin "list.__iadd__" ⟨[← newList [], .ref t], []⟩)) _ _ s
  refine wpAny_bind (wpAny_newList (wpAny_pure ⟨Code.quiet_builtin _ (by decide +kernel), codeAny_builtin entry_list_iadd' ?_⟩))
  show wpAny _ _ (Builtin.List.listExtendWith (.ref s.heap.objs.size) (.ref t) (.ref s.heap.objs.size)) _ _ { s with heap := s.heap.push (seqObj "list" #[] 0) }
  unfold Builtin.List.listExtendWith
  have hob' : (s.heap.push (seqObj "list" #[] 0)).get? t = some ob := Heap.get?_push_of_some _ hob
  refine wpAny_bind (wpAny_typeOf (T := "tuple") ⟨ob, hob', hcl⟩ ?_)
  rw [if_pos (by rw [show (Value.type "tuple" == Value.type "tuple") = true from rfl, Bool.or_true])]
  refine wpAny_bind (listItems_at hob' hda ?_)
  refine wpAny_bind (listItems_at (xs := #[]) (n := 0) (Heap.get?_push_size _ rfl) rfl ?_)
  rw [if_neg (by simp)]
  refine wpAny_bind (listUpdate_at (xs := #[]) (n := 0) (Heap.get?_push_size _ rfl) rfl ?_ (Nat.zero_le _) (by show (#[] ++ zs.toArray).size ≤ sizeLine + 1; simp only [Array.size_append, List.size_toArray, List.length_nil]; omega))
  refine wpAny_pure ?_
  show wpAny (model prog w) A (do
      let o ← load s.heap.objs.size
      match o.data with
      | .seq xs _ => pure xs.toList
      | _ => unsupported "internal:collect") R E _
  refine wpAny_bind (wpAny_load (get?_update_seq (Heap.get?_push_size _ rfl) _) ?_)
  show wpAny _ _ (pure ((#[] : Array Value) ++ zs.toArray).toList) R E _
  have e9 : ((#[] : Array Value) ++ zs.toArray).toList = zs := by simp
  rw [e9]
  exact wpAny_pure q

open PyProof.Rows in
/-- sorted of a tuple's items is list.sort on a new list of them -/
theorem sorted_t {t : Addr} {zs : List Value} {R : Value → Shared → Prop} (ht : s.heap.IsTuple t zs.toArray) (hz : zs.length ≤ sizeLine)
    (body : ∀ E' : Value → Shared → Prop, wpAny (model prog w) A.in1.in1 (Builtin.«list.sort» ⟨[.ref (s.heap.objs.size + 1)], []⟩) (fun f s' => f = .done (.ret .none) ∧ R (.ref (s.heap.objs.size + 1)) s') E' { s with heap := PySem.W.copyHeap s.heap zs }) :
    wpAny (model prog w) A (call (.builtin "sorted") [.ref t]) R E s := by
  refine Calls.call_function_entry kind_sorted plain_sorted entry_sorted (args_sorted1 _) ?_
  unfold Builtin.«sorted»
  refine wpAny_bind (m := checkCount "sorted" 1 1 _) (wpAny_pure ?_)
  refine wpAny_bind (collect_t ht ?_ hz)
  refine wpAny_bind (wpAny_newList ?_ hz)
  have size1 : ((s.heap.push (seqObj "list" #[] 0)).update s.heap.objs.size (Obj.mapSeq (· ++ zs.toArray))).objs.size = s.heap.objs.size + 1 := by
    rw [Heap.size_update, size_push']
  show wpAny _ _ _ _ _ { s with heap := PySem.W.copyHeap s.heap zs }
  rw [size1]
  refine wpAny_bind (wpAny_holding (wpAny_call_entry slot_list_sort ⟨_, PySem.W.copyHeap_at s.heap zs, rfl⟩ entry_list_sort ?_ (args_list_sort _)))
  refine wpAny_mono (body _) (fun f s' hf => ?_) fun _ _ e => e
  obtain ⟨rfl, hq⟩ := hf
  exact ⟨_, rfl, wpAny_pure ⟨_, rfl, hq⟩⟩
open PyProof.Rows PySem.W in
/-- .. by the library's sort of data -/
theorem sorted_td {β : Type} {bs : List β} {enc : β → PyData} {R0 : Value → β → Prop} {t : Addr} {zs : List Value} {R : Value → Shared → Prop} (ht : s.heap.IsTuple t zs.toArray) (e : EachIs R0 zs bs) (er : EachIs (fun v b => ∃ as, Reads s.heap v (enc b) as) zs bs) (hal : AllAlike (bs.map enc)) (hk : Sortable (bs.map enc)) (hL : bs.length ≤ sizeLine)
    (hu : ∀ b, b ∈ bs → A.units + 2 + (enc b).depth < cLine) (q : ∀ out, out.length = bs.length → EachIs R0 out (bs.mergeSort (dataLe false enc)) → R (.ref (s.heap.objs.size + 1)) { s with heap := sortedAll s.heap zs (List.toArray out) }) :
    wpAny (model prog w) A (call (.builtin "sorted") [.ref t]) R E s := by
  have er2 : EachIs (fun v b => ∃ as, Reads (sortingHeap (copyHeap s.heap zs) (s.heap.objs.size + 1) zs) v (enc b) as) zs bs := er.mono fun _ _ ⟨as, r⟩ => ⟨as, PyProof.Rows.Reads.keeps (fun _ _ => sorting_copy_old) r⟩
  have hz : zs.length ≤ sizeLine := by rw [e.length]; exact hL
  have S := SortsAt.data (prog := prog) (w := w) (A := A.in1.in1) (s := { s with heap := sortingHeap (copyHeap s.heap zs) (s.heap.objs.size + 1) zs }) (each_map (R := fun v d => ∃ as, Reads (sortingHeap (copyHeap s.heap zs) (s.heap.objs.size + 1) zs) v d as) enc er2) hal hk (bound_map (A := A.in1.in1) hu)
  exact sorted_t ht hz fun _ => list_sort_vals (s := { s with heap := copyHeap s.heap zs }) (copyHeap_at s.heap zs) S hz ⟨rfl, q _ (by rw [sortVals_length false rfl]; exact e.length) (sortVals_data false e er2 hal)⟩
end

/-! ### the rule -/
/-- sorted(xs): alike data, a list or a tuple -/
def rSortD (K : PySem.W.Frag) : List V → Hp → VK → Prop := fun vs H Q => ∃ (a : Addr) (ws : List V) (xs : List D) (R : V → D → Prop), vs = [.ref a] ∧ (SqL K H a ws ∨ SqT K H a ws) ∧ EachIs R ws xs ∧ (∀ v x, R v x → Dt K H v x) ∧
  PySem.W.AllAlike (xs.map toPy) ∧ PySem.W.Sortable (xs.map toPy) ∧ (∀ x ∈ xs, okD x = true) ∧ ∀ ys p, H p = none → EachIs R ys (xs.mergeSort (dataLe false toPy)) → Q (.ref p) (upd H p (.lst ys))
theorem each_vals {R : V → D → Prop} : ∀ {ws : List V} {us : List Value} {xs : List D}, Vals ws us → EachIs R ws xs → EachIs (fun u x => ∃ v, RelV v u ∧ R v x) us xs
  | _, _, _, .nil, .nil => .nil
  | _, _, _, .cons r rs, .cons h hs => .cons ⟨_, r, h⟩ (each_vals rs hs)
theorem vals_each {R : V → D → Prop} : ∀ {us : List Value} {xs : List D}, EachIs (fun u x => ∃ v, RelV v u ∧ R v x) us xs → ∃ ws, Vals ws us ∧ EachIs R ws xs
  | _, _, .nil => ⟨[], .nil, .nil⟩
  | _, _, .cons ⟨v, r, h⟩ hs => by
    obtain ⟨ws, h1, h2⟩ := vals_each hs
    exact ⟨v :: ws, .cons r h1, .cons h h2⟩
theorem each_dts {K : PySem.W.Frag} {H : Hp} : ∀ {ws : List V} {xs : List D}, EachIs (Dt K H) ws xs → Dts K H ws xs
  | _, _, .nil => .nil
  | _, _, .cons h hs => .cons h (each_dts hs)
theorem dts_each {K : PySem.W.Frag} {H : Hp} : ∀ {ws : List V} {xs : List D}, Dts K H ws xs → EachIs (Dt K H) ws xs
  | _, _, .nil => .nil
  | _, _, .cons h hs => .cons h (dts_each hs)
theorem eachIs_mem {α β : Type} {R : α → β → Prop} : ∀ {as : List α} {bs : List β}, EachIs R as bs → EachIs (fun a b => R a b ∧ b ∈ bs) as bs
  | _, _, .nil => .nil
  | _, _, .cons h hs => .cons ⟨h, by simp⟩ ((eachIs_mem hs).mono fun _ _ ⟨h1, h2⟩ => ⟨h1, List.mem_cons_of_mem _ h2⟩)
theorem cr_sortD {X : Cx} (hu : X.A.units + 66 < cLine) : CallR X (.builtin "sorted") (rSortD X.K) := by
  intro pins s σ H vs us Q I r h
  obtain ⟨a, ws, xs, R, rfl, hs, e, hR, hal, hk, hok, q⟩ := h
  obtain rfl := Vals.ref1 r
  have go : ∀ {its : List Value}, Vals ws its → its.length ≤ sizeLine → EachIs (fun u x => ∃ v, RelV v u ∧ R v x) its xs ∧ EachIs (fun v b => ∃ as, Reads s.heap v (toPy b) as) its xs ∧ xs.length ≤ sizeLine := fun {its} rv hz => by
    have e1 := each_vals rv e
    refine ⟨e1, (eachIs_mem e1).mono fun u x ⟨⟨v, rv, hv⟩, hx⟩ => Dp.reads I (toPy x) v u (Dt.dp (hR v x hv) (SeqAt.canLay_of_shaped (hok x hx))) rv, by rw [← e1.length]; exact hz⟩
  have fin : ∀ {its out : List Value}, its.length ≤ sizeLine → out.length = xs.length → EachIs (fun u x => ∃ v, RelV v u ∧ R v x) out (xs.mergeSort (dataLe false toPy)) → xs.length ≤ sizeLine → EP X pins σ Q (.ref (s.heap.objs.size + 1)) { s with heap := PyProof.Rows.sortedAll s.heap its (List.toArray out) } := fun {its out} hz hl hout hxl => by
    obtain ⟨ys, rv, hys⟩ := vals_each hout
    have hf : H (s.heap.objs.size + 1) = none := I.hok.fresh (Nat.le_succ _)
    obtain ⟨n, hn⟩ := PyProof.Rows.sortedAll_at s.heap its out.toArray
    refine ⟨.ref (s.heap.objs.size + 1), upd H (s.heap.objs.size + 1) (.lst ys), I.laid (t' := s.toks) (fun b o hb => PyProof.Rows.sortedAll_old hb) (Nat.le_succ _) ⟨?_, out, n, rv, hn⟩, rfl, q ys _ hf hys⟩
    rw [rv.length, hl]
    exact hxl
  have hud : ∀ b, b ∈ xs → X.A.units + 2 + (toPy b).depth < cLine := fun b hb => by
    have := SeqAt.depth_of_shaped (hok b hb)
    omega
  rcases hs with hs | hs
  · obtain ⟨its, rv, pl, hz⟩ := I.list hs
    replace hz : its.length ≤ sizeLine := by rw [← rv.length]; exact hz
    obtain ⟨g1, g2, g3⟩ := go rv hz
    exact PySem.W.sorted_data (enc := toPy) pl.isList g1 g2 hal hk g3 hud fun out hl hout => fin hz hl hout g3
  · obtain ⟨its, rv, pl, hz⟩ := I.tuple hs
    replace hz : its.length ≤ sizeLine := by rw [← rv.length]; exact hz
    obtain ⟨g1, g2, g3⟩ := go rv hz
    exact sorted_td (enc := toPy) pl g1 g2 hal hk g3 hud fun out hl hout => fin hz hl hout g3
end VS

/-! sorted of tuples whose first texts differ: the rest is never looked at -/
namespace VS
open PySem PySem.Spec L2
open Evl (Ex Ex.refl Ex.trans Ex.new)
open PySem.W (EachIs)

/-- the first text of a tuple, as the heap has it -/
def fstH (h : Heap) : Value → List Nat
  | .ref a => match h.get? a with
    | some o => match o.data with
      | .seq xs _ => match xs[0]? with
        | some (Value.str z _) => z.cps.toList
        | _ => []
      | _ => []
    | none => []
  | _ => []
def ltH (h : Heap) (v u : Value) : Bool := decide (fstH h v < fstH h u)
theorem ltH_swo (h : Heap) : SrtO.Swo (ltH h) := by
  refine ⟨fun x y q => ?_, fun x y z q1 q2 => ?_⟩
  · have q' := of_decide_eq_true q
    exact decide_eq_false fun z => List.lt_irrefl _ (List.lt_trans q' z)
  · have q1' := of_decide_eq_false q1
    have q2' := of_decide_eq_false q2
    refine decide_eq_false fun z => ?_
    have a := List.not_lt.mp q1'
    have b := List.not_lt.mp q2'
    exact List.not_lt.mpr (List.le_trans a b) z
/-- u is a tuple whose first is the text x -/
def IsF (h : Heap) (u : Value) (x : PySem.Str) : Prop := ∃ a o xs n t, u = .ref a ∧ h.get? a = some o ∧ o.cls = .type "tuple" ∧ o.data = .seq xs n ∧ xs[0]? = some (.str x t)
theorem IsF.key {h : Heap} {u : Value} {x : PySem.Str} (i : IsF h u x) : fstH h u = x.cps.toList := by
  obtain ⟨a, o, xs, n, t, rfl, h1, h2, h3, h4⟩ := i
  simp only [fstH, h1, h3, h4]
theorem IsF.keeps {h h' : Heap} {u : Value} {x : PySem.Str} (i : IsF h u x) (k : ∀ b o, o.cls = .type "tuple" → h.get? b = some o → h'.get? b = some o) : IsF h' u x := by
  obtain ⟨a, o, xs, n, t, rfl, h1, h2, h3, h4⟩ := i
  exact ⟨a, o, xs, n, t, rfl, k a o h2 h1, h2, h3, h4⟩
section
variable {prog : Program} {w : World} {A : Around} {E : Value → Shared → Prop} {s : Shared}
theorem kat_same {b fin : Bool} {Q : Bool → Shared → Prop} (h : Q fin s) : ∀ (l : List Value) (i : Nat), PySem.W.KatLex prog w A b fin Q (l.zip l) i s
  | [], i => PySem.W.kat_nil h
  | v :: r, i => by
    rw [List.zip_cons_cons]
    exact PySem.W.kat_cons (SeqAt.EqAt.same v prog w _ _ (PySem.W.kat_yes (kat_same h r (i + 1))))
theorem fst_cmp {vs : List Value} {nm : Value → PySem.Str} (hp : ∀ v ∈ vs, IsF s.heap v (nm v)) (hd : ∀ v ∈ vs, ∀ u ∈ vs, nm v = nm u → v = u) : SrtO.Cmp prog w A s (PyProof.Rows.tuples' true) (fun p => p.1 ∈ vs) (SrtO.lt2 (ltH s.heap)) := by
  intro p q hm hm'
  have i1 := hp _ hm
  have i2 := hp _ hm'
  have k1 := i1.key
  have k2 := i2.key
  have hinj := hd _ hm _ hm'
  show wpAny (model prog w) A (PyProof.Rows.keyLt' (PyProof.Rows.tuples' true) p.1 q.1) (fun r s' => s' = s ∧ r = ltH s.heap p.1 q.1) (fun _ _ => False) s
  unfold ltH
  rw [k1, k2]
  generalize nm p.1 = x at *
  generalize nm q.1 = y at *
  generalize p.1 = v at *
  generalize q.1 = u at *
  obtain ⟨a, o, xs, n, t, rfl, h1, h2, h3, h4⟩ := i1
  obtain ⟨a', o', xs', n', t', rfl, h1', h2', h3', h4'⟩ := i2
  refine PySem.W.kat_lt h1 h3 h1' h3' ?_
  by_cases e : x = y
  · have e2 := hinj e
    cases e2
    rw [h1] at h1'
    cases h1'
    rw [h3] at h3'
    cases h3'
    have e3 : decide (xs.size < xs.size) = false := decide_eq_false (Nat.lt_irrefl _)
    rw [e3]
    subst e
    exact kat_same ⟨rfl, (decide_eq_false (List.lt_irrefl _)).symm⟩ xs.toList 0
  · have l1 : xs.toList = .str x t :: xs.toList.tail := by
      cases hx : xs.toList with
      | nil => rw [← Array.getElem?_toList, hx] at h4; cases h4
      | cons z r => rw [← Array.getElem?_toList, hx] at h4; cases h4; rfl
    have l2 : xs'.toList = .str y t' :: xs'.toList.tail := by
      cases hx : xs'.toList with
      | nil => rw [← Array.getElem?_toList, hx] at h4'; cases h4'
      | cons z r => rw [← Array.getElem?_toList, hx] at h4'; cases h4'; rfl
    rw [l1, l2, List.zip_cons_cons]
    refine PySem.W.kat_cons (SeqAt.EqAt.str_str x t y t' prog w _ _ ?_)
    have e3 : (x == y) = false := by simpa using e
    rw [e3]
    exact PySem.W.kat_no (PyProof.Rows.oneLt_any_str ⟨rfl, rfl⟩)
theorem fst_sortable {a : Addr} {vs : List Value} {nm : Value → PySem.Str} (h0 : 0 < vs.length) (hp : ∀ v ∈ vs, IsF s.heap v (nm v)) (hd : ∀ v ∈ vs, ∀ u ∈ vs, nm v = nm u → v = u) (ha : ∀ o, s.heap.get? a = some o → o.cls ≠ .type "tuple") {h0' : Heap} (hk : ∀ v ∈ vs, fstH h0' v = (nm v).cps.toList) :
    SrtO.SortableO prog w A s a vs (ltH h0') := by
  intro h' keep
  have hp' : ∀ v ∈ vs, IsF h' v (nm v) := fun v hm => (hp v hm).keeps fun b o c e => keep b o (fun z => by subst z; exact ha o e c) e
  have tf : ∀ l : List Value, (∀ v ∈ l, IsF h' v (nm v)) → ∃ fs, PySem.W.KatTups h' l fs ∧ fs.length = l.length ∧ ∀ f ∈ fs, ∃ x t, f = Value.str x t := by
    intro l
    induction l with
    | nil => intro _; exact ⟨[], PySem.W.KatTups.nil, rfl, fun f hf => absurd hf (by simp)⟩
    | cons v r ih =>
      intro hl
      obtain ⟨fs, h1, h2, h3⟩ := ih fun u hu => hl u (List.mem_cons_of_mem _ hu)
      obtain ⟨b, o, xs, n, t, rfl, q1, q2, q3, q4⟩ := hl v (by simp)
      refine ⟨_ :: fs, PySem.W.KatTups.cons q1 q2 q3 q4 h1, by simp [h2], fun f hf => ?_⟩
      rcases List.mem_cons.mp hf with rfl | hf
      · exact ⟨_, _, rfl⟩
      · exact h3 f hf
  obtain ⟨fs, h1, h2, h3⟩ := tf vs hp'
  refine ⟨PyProof.Rows.tuples' true, fun Q E hq => ?_, ?_⟩
  · refine PySem.W.kat_kind (T := .type "str") h1 (by omega) (fun f hm => ?_) (by rfl) ?_
    · obtain ⟨x, t, rfl⟩ := h3 f hm
      exact PySem.W.Looks.now
    · have e : (Value.type "str" != Value.type "tuple") = true := by first | decide +kernel | rfl | decide
      rw [e]
      exact hq
  · intro p q hm hm'
    have z := fst_cmp (prog := prog) (w := w) (A := A) (s := { s with heap := h' }) hp' hd p q hm hm'
    refine wpAny_mono z (fun r s' ⟨e1, e2⟩ => ⟨e1, e2.trans ?_⟩) fun _ _ e => e
    show decide (fstH h' p.1 < fstH h' q.1) = decide (fstH h0' p.1 < fstH h0' q.1)
    rw [(hp' _ hm).key, (hp' _ hm').key, hk _ hm, hk _ hm']
end

/-- the first text of a datum that is a tuple -/
def fstD : D → Option PySem.Str
  | .tup (.str x :: _) => some x
  | _ => none
/-- its signs -/
def kF (x : D) : List Nat := match fstD x with
  | some a => a.cps.toList
  | none => []
def leF (x y : D) : Bool := decide (kF x ≤ kF y)
theorem leF_trans (a b c : D) (h1 : leF a b = true) (h2 : leF b c = true) : leF a c = true := by
  simp only [leF, decide_eq_true_eq] at *
  exact List.le_trans h1 h2
theorem leF_total (a b : D) : (leF a b || leF b a) = true := by
  simp only [leF, Bool.or_eq_true, decide_eq_true_eq]
  exact List.le_total _ _
/-- sorted(xs), xs a list of tuples whose firsts are texts, all different; sorted: any such order -/
def rSortF (K : PySem.W.Frag) : List V → Hp → VK → Prop := fun vs H Q => ∃ (a : Addr) (ws : List V) (xs : List D) (R : V → D → Prop), vs = [.ref a] ∧ SqL K H a ws ∧ EachIs R ws xs ∧ (∀ v x, R v x → Dt K H v x) ∧
  (∀ x ∈ xs, (fstD x).isSome = true) ∧ (xs.map fstD).Nodup ∧ ∀ ys zs p, H p = none → zs.Perm xs → zs.Pairwise (fun x y => leF x y = true) → EachIs R ys zs → Q (.ref p) (upd H p (.lst ys))
theorem each_get {α β : Type} {R : α → β → Prop} : ∀ {as : List α} {bs : List β} {i : Nat} {a : α}, EachIs R as bs → as[i]? = some a → ∃ b, bs[i]? = some b ∧ R a b
  | _, _, _, _, .nil, h => by simp at h
  | _, _, 0, _, .cons r _, h => by
    cases (by simpa using h : _ = _)
    exact ⟨_, rfl, r⟩
  | _, _, i + 1, _, .cons _ rs, h => each_get (i := i) rs (by simpa using h)
/-- a permutation of the one side carries the other -/
theorem each_perm {α β : Type} {R : α → β → Prop} {as as' : List α} (p : as'.Perm as) : ∀ {bs : List β}, EachIs R as bs → ∃ bs', bs'.Perm bs ∧ EachIs R as' bs' := by
  induction p with
  | nil => intro bs h; cases h; exact ⟨[], .nil, .nil⟩
  | cons x _ ih =>
    intro bs h
    cases h with
    | cons r rs =>
      obtain ⟨bs', h1, h2⟩ := ih rs
      exact ⟨_ :: bs', h1.cons _, .cons r h2⟩
  | swap x y l =>
    intro bs h
    cases h with
    | cons r rs =>
      cases rs with
      | cons r' rs' => exact ⟨_ :: _ :: _, .swap _ _ _, .cons r' (.cons r rs')⟩
  | trans _ _ ih1 ih2 =>
    intro bs h
    obtain ⟨b1, p1, h1⟩ := ih2 h
    obtain ⟨b2, p2, h2⟩ := ih1 h1
    exact ⟨b2, p2.trans p1, h2⟩
theorem each_pair {α β : Type} {R : α → β → Prop} {S : α → α → Prop} {T : β → β → Prop} (hst : ∀ a a' b b', R a b → R a' b' → S a a' → T b b') : ∀ {as : List α} {bs : List β}, EachIs R as bs → as.Pairwise S → bs.Pairwise T
  | _, _, .nil, _ => .nil
  | _, _, .cons r rs, h => by
    obtain ⟨h1, h2⟩ := List.pairwise_cons.mp h
    refine List.pairwise_cons.mpr ⟨fun b hb => ?_, each_pair hst rs h2⟩
    obtain ⟨i, hi, e⟩ := List.mem_iff_getElem.mp hb
    have hl := rs.length
    obtain ⟨b', e1, r'⟩ := each_get rs (List.getElem?_eq_getElem (by rw [hl]; exact hi) : _[i]? = some _)
    rw [List.getElem?_eq_getElem hi, e] at e1
    cases e1
    exact hst _ _ _ _ r r' (h1 _ (List.getElem_mem _))
theorem cr_sortF {X : Cx} : CallR X (.builtin "sorted") (rSortF X.K) := by
  intro pins s σ H vs us Q I r h
  obtain ⟨a, ws, xs, R, rfl, hs, e, hR, hf, hnd, q⟩ := h
  obtain rfl := Vals.ref1 r
  obtain ⟨its, rv, pl, hz⟩ := I.list hs
  replace hz : its.length ≤ sizeLine := by rw [← rv.length]; exact hz
  have ev := each_vals rv e
  -- each item's first text
  let nm : Value → PySem.Str := fun u => ⟨(fstH s.heap u).toArray⟩
  have isf : ∀ u x, (∃ v, RelV v u ∧ R v x) → (fstD x).isSome = true → ∃ y, fstD x = some y ∧ IsF s.heap u y := fun u x ⟨v, rvu, hv⟩ hx => by
    have d := hR v x hv
    cases d with
    | tup h1 h2 =>
      cases h2 with
      | nil => cases hx
      | cons d1 d2 =>
        cases d1 with
        | str z =>
          refine ⟨z, rfl, ?_⟩
          cases rvu
          obtain ⟨_, its2, r2, o, ho, hc, n, hd⟩ := I.hok _ _ h1
          cases r2 with
          | cons r3 _ =>
            obtain ⟨t, rfl⟩ := r3
            exact ⟨_, o, _, n, t, rfl, ho, hc, hd, rfl⟩
        | _ => cases hx
    | _ => cases hx
  have key : ∀ u x, (∃ v, RelV v u ∧ R v x) → x ∈ xs → fstD x = some (nm u) ∧ IsF s.heap u (nm u) := fun u x hu hx => by
    obtain ⟨y, e1, i1⟩ := isf u x hu (hf x hx)
    have e2 : nm u = y := by
      show (⟨(fstH s.heap u).toArray⟩ : PySem.Str) = y
      rw [i1.key]
    rw [e2]
    exact ⟨e1, i1⟩
  have evm := eachIs_mem ev
  have hp : ∀ u ∈ its, IsF s.heap u (nm u) := fun u hu => by
    obtain ⟨i, hi, e1⟩ := List.mem_iff_getElem.mp hu
    obtain ⟨x, _, hx, hm⟩ := each_get evm (show its[i]? = some u by rw [List.getElem?_eq_getElem hi, e1])
    exact (key u x hx hm).2
  have hd : ∀ v ∈ its, ∀ u ∈ its, nm v = nm u → v = u := fun v hv u hu e1 => by
    obtain ⟨i, hi, e2⟩ := List.mem_iff_getElem.mp hv
    obtain ⟨j, hj, e3⟩ := List.mem_iff_getElem.mp hu
    obtain ⟨x, f1, hx, hm⟩ := each_get evm (show its[i]? = some v by rw [List.getElem?_eq_getElem hi, e2])
    obtain ⟨y, f2, hy, hm'⟩ := each_get evm (show its[j]? = some u by rw [List.getElem?_eq_getElem hj, e3])
    have g1 := (key v x hx hm).1
    have g2 := (key u y hy hm').1
    rw [← e1] at g2
    have hi' : i < xs.length := (List.getElem?_eq_some_iff.mp f1).1
    have hj' : j < xs.length := (List.getElem?_eq_some_iff.mp f2).1
    have n1 : (xs.map fstD)[i]'(by simpa using hi') = (xs.map fstD)[j]'(by simpa using hj') := by
      rw [List.getElem_map, List.getElem_map]
      rw [List.getElem?_eq_getElem hi'] at f1
      rw [List.getElem?_eq_getElem hj'] at f2
      cases f1
      cases f2
      rw [g1, g2]
    have pw := List.pairwise_iff_getElem.mp hnd
    have hij : i = j := by
      rcases Nat.lt_trichotomy i j with hlt | he | hlt
      · exact absurd n1 (pw i j _ _ hlt)
      · exact he
      · exact absurd n1.symm (pw j i _ _ hlt)
    subst hij
    rw [← e2, ← e3]
  refine SrtO.sorted_ord (ltH_swo s.heap) pl.isList hz (fun h2 h₁ a1 ha kk => ?_) fun out hs1 hb => ?_
  · refine fst_sortable (s := { s with heap := h₁ }) (by omega) (fun v hv => (hp v hv).keeps fun b o _ e1 => (kk b o e1).2) hd (fun o e1 => ?_) fun v hv => (hp v hv).key
    have e2 : some o = some (PyProof.Rows.seqObj "list" its.toArray 0) := e1.symm.trans ha
    cases e2
    intro c
    exact absurd (Value.type.inj c) (by decide)
  · obtain ⟨zs, pz, ez⟩ := each_perm hb.perm evm
    have ez' : EachIs (fun u x => ∃ v, RelV v u ∧ R v x) out zs := ez.mono fun _ _ h => h.1
    have sz : zs.Pairwise (fun x y => leF x y = true) := each_pair (fun u u' x x' ⟨hu, hm⟩ ⟨hu', hm'⟩ hlt => by
      unfold leF kF
      rw [(key u x hu hm).1, (key u' x' hu' hm').1]
      refine decide_eq_true ?_
      have := of_decide_eq_false (show decide (fstH s.heap u' < fstH s.heap u) = false from hlt)
      rw [(key u x hu hm).2.key, (key u' x' hu' hm').2.key] at this
      exact List.not_lt.mp this) ez hs1
    obtain ⟨ys, rv2, hys⟩ := vals_each ez'
    have hfr : H (s.heap.objs.size + 1) = none := I.hok.fresh (Nat.le_succ _)
    obtain ⟨n, hn⟩ := PyProof.Rows.sortedAll_at s.heap its out.toArray
    refine ⟨.ref (s.heap.objs.size + 1), upd H (s.heap.objs.size + 1) (.lst ys), I.laid (t' := s.toks) (fun b o hb => PyProof.Rows.sortedAll_old hb) (Nat.le_succ _) ⟨?_, out, n, rv2, hn⟩, rfl, q ys zs _ hfr pz sz hys⟩
    rw [rv2.length, hb.perm.length_eq]
    exact hz
end VS

/-! sorted, max, min, count, order, by contents -/
namespace VS
open PySem PySem.Spec L2
open Evl (Ex Ex.refl Ex.trans Ex.new)
open PySem.W (EachIs dataLt dataLe)

/-! ### sorted -/
def alikeB (ds : List PyData) : Bool := ds.all fun d => ds.all fun e => PySem.W.alike d e
theorem alikeB_all {ds : List PyData} (h : alikeB ds = true) : PySem.W.AllAlike ds := fun d hd e he => by
  unfold alikeB at h
  exact List.all_eq_true.mp (List.all_eq_true.mp h d hd) e he
def tup1B : PyData → Bool
  | .tuple (_ :: _) => true
  | _ => false
def plainB : PyData → Bool
  | .none => false
  | .tuple _ => false
  | _ => true
def sortableB (ds : List PyData) : Bool := ds.all tup1B || ds.all plainB
theorem sortableB_ok {ds : List PyData} (h : sortableB ds = true) : PySem.W.Sortable ds := by
  unfold sortableB at h
  rw [Bool.or_eq_true] at h
  rcases h with h | h
  · refine .inl fun d hd => ?_
    have := List.all_eq_true.mp h d hd
    cases d <;> simp [tup1B] at this
    rename_i xs
    cases xs with
    | nil => simp [tup1B] at this
    | cons x r => exact ⟨x, r, rfl⟩
  · refine .inr fun d hd => ?_
    have := List.all_eq_true.mp h d hd
    cases d <;> simp [plainB] at this ⊢
def sortL (xs : List D) : Option (List D) := if alikeB (xs.map toPy) && sortableB (xs.map toPy) && xs.all okD then some (xs.mergeSort (dataLe false toPy)) else none
def sortF (xs : List D) : Option (List D) := if xs.all (fun x => (fstD x).isSome) = true ∧ (xs.map fstD).Nodup then some (xs.mergeSort leF) else none
def sortC : List C → Option C
  | [a] => match asSeq a with
    | some xs => match sortL xs with
      | some ys => some (.l ys)
      | none => match asL a with
        | some xs => (sortF xs).map .l
        | none => none
    | none => none
  | _ => none
def rSortAll (K : PySem.W.Frag) : List V → Hp → VK → Prop := fun vs H Q => rSortD K vs H Q ∨ rSortF K vs H Q
theorem cr_sort {X : Cx} (hu : X.A.units + 66 < cLine) : CallR X (.builtin "sorted") (rSortAll X.K) := by
  intro pins s σ H vs us Q I r h
  rcases h with h | h
  · exact cr_sortD hu pins s σ H vs us Q I r h
  · exact cr_sortF pins s σ H vs us Q I r h
theorem sortF_uniq {xs zs : List D} (hf : ∀ x ∈ xs, (fstD x).isSome = true) (hn : (xs.map fstD).Nodup) (p : zs.Perm xs) (s : zs.Pairwise fun x y => leF x y = true) : zs = xs.mergeSort leF := by
  refine List.Perm.eq_of_pairwise (le := fun x y => leF x y = true) (fun a b ha hb h1 h2 => ?_) s (List.pairwise_mergeSort leF_trans leF_total xs) (p.trans (List.mergeSort_perm xs leF).symm)
  have ha' : a ∈ xs := p.mem_iff.mp ha
  have hb' : b ∈ xs := (List.mergeSort_perm xs leF).mem_iff.mp hb
  have e : kF a = kF b := by
    simp only [leF, decide_eq_true_eq] at h1 h2
    exact List.le_antisymm h1 h2
  obtain ⟨y, hy⟩ := Option.isSome_iff_exists.mp (hf a ha')
  obtain ⟨z, hz⟩ := Option.isSome_iff_exists.mp (hf b hb')
  unfold kF at e
  rw [hy, hz] at e
  have e2 : y = z := PySem.W.str_of_cps e
  obtain ⟨i, hi, e3⟩ := List.mem_iff_getElem.mp ha'
  obtain ⟨j, hj, e4⟩ := List.mem_iff_getElem.mp hb'
  have n1 : (xs.map fstD)[i]'(by simpa using hi) = (xs.map fstD)[j]'(by simpa using hj) := by
    rw [List.getElem_map, List.getElem_map, e3, e4, hy, hz, e2]
  have pw := List.pairwise_iff_getElem.mp hn
  have hij : i = j := by
    rcases Nat.lt_trichotomy i j with hlt | he | hlt
    · exact absurd n1 (pw i j _ _ hlt)
    · exact he
    · exact absurd n1.symm (pw j i _ _ hlt)
  subst hij
  rw [← e3, ← e4]
theorem sortC_len : ∀ cs c, sortC cs = some c → cs.length = 1 := fun cs c h => by
  unfold sortC at h
  split at h <;> first | rfl | cases h
theorem ops_sort {K : PySem.W.Frag} : OpS K (rSortAll K) sortC := opsL1 sortC_len fun Hs H x a oa s ra c hc Q q => by
  unfold sortC at hc
  simp only at hc
  split at hc
  · rename_i xs e1
    split at hc
    · rename_i ys e2
      cases hc
      unfold sortL at e2
      split at e2
      · rename_i hb
        rw [Bool.and_eq_true, Bool.and_eq_true] at hb
        cases e2
        obtain ⟨p, vs, rfl, h1, h2⟩ := ra.asSeq s e1
        exact .inl ⟨p, vs, xs, Dt K Hs, rfl, h1, dts_each h2, fun v x d => d.ex s, alikeB_all hb.1.1, sortableB_ok hb.1.2, fun x hx => List.all_eq_true.mp hb.2 x hx, fun zs p hp he => fin_l s q (each_dts he) p hp⟩
      · cases e2
    · split at hc
      · rename_i xs2 e3
        cases e4 : sortF xs2 with
        | none => rw [e4] at hc; cases hc
        | some ys =>
          rw [e4] at hc
          cases hc
          unfold sortF at e4
          split at e4
          · rename_i hb
            cases e4
            obtain ⟨p, vs, rfl, h1, h2⟩ := ra.asL s e3
            have hf : ∀ x ∈ xs2, (fstD x).isSome = true := fun x hx => List.all_eq_true.mp hb.1 x hx
            refine .inr ⟨p, vs, xs2, Dt K Hs, rfl, h1, dts_each h2, fun v x d => d.ex s, hf, hb.2, fun zs us p hp pm sm he => ?_⟩
            have := sortF_uniq hf hb.2 pm sm
            subst this
            exact fin_l s q (each_dts he) p hp
          · cases e4
      · cases hc
  · cases hc

/-! ### max, min of data -/
def maxDL (x : D) : List D → D
  | [] => x
  | y :: r => maxDL (if dataLt (toPy x) (toPy y) then y else x) r
def minDL (x : D) : List D → D
  | [] => x
  | y :: r => minDL (if dataLt (toPy y) (toPy x) then y else x) r
end VS

/-! [::-1], count, join -/
namespace VS
open PySem PySem.Spec L2
open Evl (Ex Ex.refl Ex.trans Ex.new)
open PySem.W (EachIs dataLt dataLe)
open PyProof.Rows (IsTup)

section
variable {prog : Program} {w : World} {A : Around} {E : Value → Shared → Prop} {s : Shared}
theorem applied_rev {sl : Addr} {vl vu vk : Value} {n : Nat} {R : Int × Int × Nat → Shared → Prop} (hs : s.heap.IsSliceOf sl vl vu vk) (pl : IsPart vl none) (pu : IsPart vu none) (pk : IsPart vk (some (-1)))
    (q : R ((n : Int) - 1, -1, n) s) : wpAny (model prog w) A (Builtin.Slice.sliceApplied (.ref sl) (pure (n : Int))) R E s := by
  obtain ⟨os, hos, hcs, hds⟩ := id hs
  unfold Builtin.Slice.sliceApplied Builtin.Slice.sliceFields
  refine wpAny_bind (wpAny_bind (wpAny_field hos hds (x := vl) rfl (wpAny_bind (wpAny_field hos hds (x := vu) rfl (wpAny_bind (wpAny_field hos hds (x := vk) rfl (wpAny_pure ?_)))))))
  refine wpAny_bind (HT.slicePart_ pk ?_)
  show wpAny _ _ (if ((-1 : Int) == 0) = true then _ else _) _ _ s
  rw [if_neg (by decide)]
  refine wpAny_bind (HT.slicePart_ pl (wpAny_bind (HT.slicePart_ pu (wpAny_bind (wpAny_pure ?_)))))
  show wpAny _ _ (match Builtin.Slice.sliceAdjust none none (-1) (n : Int) with | (lo, hi) => pure (lo, (-1 : Int), Builtin.Slice.slicePlaces lo hi (-1))) _ _ s
  have e1 : Builtin.Slice.sliceAdjust none none (-1) (n : Int) = ((n : Int) - 1, -1) := rfl
  have e2 : Builtin.Slice.slicePlaces ((n : Int) - 1) (-1) (-1) = n := by
    unfold Builtin.Slice.slicePlaces
    rw [if_neg (by decide)]
    split
    · have : ((n : Int) - 1 - -1 - 1) / (- (-1)) + 1 = n := by
        rw [show (- (-1) : Int) = 1 from rfl, Int.ediv_one]
        omega
      rw [this]; rfl
    · omega
  rw [e1]
  show wpAny _ _ (pure ((n : Int) - 1, (-1 : Int), Builtin.Slice.slicePlaces ((n : Int) - 1) (-1) (-1))) _ _ s
  rw [e2]
  exact wpAny_pure q
theorem pick_rev (its : List Value) : ((List.range its.toArray.size).filterMap fun (k : Nat) => its.toArray[((its.toArray.size : Int) - 1 + (k : Int) * (-1)).toNat]?) = its.reverse := by
  rw [List.size_toArray]
  have e : ∀ m, m ≤ its.length → ((List.range m).filterMap fun (k : Nat) => its.toArray[((its.length : Int) - 1 + (k : Int) * (-1)).toNat]?) = its.reverse.take m := by
    intro m
    induction m with
    | zero => intro _; rfl
    | succ m ih =>
      intro hm
      rw [List.range_succ, List.filterMap_append, ih (by omega)]
      have h1 : ((its.length : Int) - 1 + (m : Int) * (-1)).toNat = its.length - 1 - m := by omega
      have h2 : m < its.reverse.length := by rw [List.length_reverse]; omega
      rw [List.take_succ_eq_append_getElem h2]
      congr 1
      rw [List.filterMap_cons, h1]
      have h3 : its.toArray[its.length - 1 - m]? = some (its.reverse[m]'h2) := by
        rw [List.getElem?_toArray, List.getElem_reverse, List.getElem?_eq_getElem (by omega)]
      rw [h3]
      rfl
  have := e its.length (Nat.le_refl _)
  rw [this, List.take_of_length_le (by rw [List.length_reverse]; exact Nat.le_refl _)]
theorem getItem_rev {t sl : Addr} {its : List Value} {vl vu vk : Value} {R : Value → Shared → Prop} (ht : IsTup s.heap t its.toArray) (hs : s.heap.IsSliceOf sl vl vu vk) (pl : IsPart vl none) (pu : IsPart vu none) (pk : IsPart vk (some (-1)))
    (q : R (.ref s.heap.objs.size) { s with heap := s.heap.push { cls := .type "tuple", data := .seq its.reverse.toArray } }) (hz : its.length ≤ sizeLine) : wpAny (model prog w) A (getItem (.ref t) (.ref sl)) R E s := by
  have hfit : sizeOk (.seq its.reverse.toArray) := by
    show its.reverse.toArray.size ≤ sizeLine
    rw [List.size_toArray, List.length_reverse]
    exact hz
  obtain ⟨os, hos, hcs, hds⟩ := id hs
  have hTy : s.TypeIs (.ref sl) "slice" := ⟨os, hos, hcs⟩
  unfold getItem
  try with_reducible refine wpAny_holding ?_
  first | refine wpAny_bind (wpAny_pure ?_) | skip
  refine wpAny_bind (wpAny_sequenceKey ht.typeIs (by decide) ?_)
  refine wpAny_bind (wpAny_callSpecial?_slot (name := Str.ofString "__getitem__") ht.typeIs PyProof.Rows.slot_tuple_getitem
    (wpAny_call_entry PyProof.Rows.slot_tuple_getitem ht.typeIs PyProof.Rows.entry_tuple_getitem ?_ (PyProof.Rows.args_tuple_getitem _ _)))
  show wpAny _ _ (Builtin.Tuple.tupleItemsOf (.ref t) >>= _) _ _ s
  refine wpAny_bind (PyProof.Rows.tupleItemsOf_ ht ?_)
  refine wpAny_bind (wpAny_typeOf hTy ?_)
  rw [if_pos (by decide)]
  refine wpAny_bind (applied_rev hs pl pu pk ?_)
  show wpAny _ _ (if ((its.toArray.size : Int) - 1 == 0 && (-1 : Int) == 1 && its.toArray.size == its.toArray.size) = true then _ else _) _ _ s
  rw [if_neg (by rw [show ((-1 : Int) == 1) = false from rfl, Bool.and_false, Bool.false_and]; exact Bool.false_ne_true), pick_rev]
  first
    | exact wpAny_bind (m := Builtin.Tuple.tupleExact _) (wpAny_newObj_type (wpAny_pure ⟨_, rfl, wpAny_pure q⟩) hfit)
    | exact wpAny_bind (m := Builtin.Tuple.tupleExact _) (wpAny_newObj_type (wpAny_bind (wpAny_pure (wpAny_pure ⟨_, rfl, wpAny_pure q⟩))) hfit)
    | exact wpAny_bind (wpAny_bind (m := Builtin.Tuple.tupleExact _) (wpAny_newObj_type (wpAny_pure (wpAny_pure ⟨_, rfl, wpAny_pure q⟩)) hfit))
    | exact wpAny_bind (wpAny_bind (m := Builtin.Tuple.tupleExact _) (wpAny_newObj_type (wpAny_pure ⟨_, rfl, wpAny_pure q⟩) hfit))
end
/-- xs[::-1] of a list or a tuple -/
def tRevA (K : PySem.W.Frag) (te : TE) : TE := fun σ H Q => te σ H fun x H1 => ∃ a xs, x = .ref a ∧ ((SqL K H1 a xs ∧ ∀ p, H1 p = none → Q (.ref p) (upd H1 p (.lst xs.reverse))) ∨ (SqT K H1 a xs ∧ ∀ p, H1 p = none → Q (.ref p) (upd H1 p (.tup xs.reverse))))
theorem pe_revA {X : Cx} {e : Expr} {te : TE} {k : Nat} {p1 p2 p3 pos : Pos} (he : PE X e te) : PE X (.Subscript e (.Slice none none (some (.UnaryOp .USub (.Constant (.int 1) k p1) p2)) p3) pos) (tRevA X.K te) := by
  refine ⟨fun pins s σ H Q I h => ?_⟩
  refine PyProof.Rows.Subscript_ (thn (he.run pins s σ H _ I h) fun v s1 ⟨x, H1, I1, r1, q1⟩ => ?_)
  obtain ⟨a, xs, ex, q1⟩ := q1
  subst ex
  cases r1
  have step : PO X (some (.UnaryOp .USub (.Constant (.int 1) k p1) p2)) (tPart (tUn (rU fun i => .int (-i)) (tC (.int 1)))) := po_some (pe_un un_neg pe_int)
  refine wpAny_Slice (thn (po_none.run pins s1 σ H1 (fun o H2 => o = none ∧ H2 = H1) I1 ⟨rfl, rfl⟩) fun vl s2 ⟨l, H2, I2, pl, el, e2⟩ => ?_)
  subst el e2
  refine thn (po_none.run pins s2 σ H2 (fun o H3 => o = none ∧ H3 = H2) I2 ⟨rfl, rfl⟩) fun vu s3 ⟨u, H3, I3, pu, eu, e3⟩ => ?_
  subst eu e3
  refine thn (step.run pins s3 σ H3 (fun o H4 => o = some (-1) ∧ H4 = H3) I3 ⟨1, rfl, -1, rfl, rfl, rfl⟩) fun vs s4 ⟨o, H4, I4, ps, eo, e4⟩ => ?_
  subst eo e4
  have I5 : Inv X pins σ H4 { s4 with heap := s4.heap.push { cls := .type "slice", data := .fields #[vl, vu, vs] } } := I4.kept (t' := s4.toks) fun b ob q => Heap.get?_push_of_some _ q
  show wpAny (model X.prog X.w) X.A (PyProof.Rows.subscriptTail e (.Slice none none (some (.UnaryOp .USub (.Constant (.int 1) k p1) p2)) p3) (.ref a) (.ref s4.heap.objs.size)) (EP X pins σ Q) X.xe { s4 with heap := s4.heap.push { cls := .type "slice", data := .fields #[vl, vu, vs] } }
  rcases q1 with ⟨hx, q⟩ | ⟨hx, q⟩
  · obtain ⟨its, r, ht, hz⟩ := I5.list hx
    have hlen := r.length
    refine PyProof.Rows.tail_any (ops := [.ref a, .ref s4.heap.objs.size]) ht.isList.typeIs (PySem.slot_list_getitem.lookup) ?_ (by with_unfolding_all rfl)
    refine wpAny_getItem_list_slice ht.isList (Heap.IsSliceOf.new _ vl vu vs) pl pu ps (by decide) ?_ (by rw [List.size_toArray]; omega)
    rw [PySem.W.krv_pick]
    refine ⟨.ref _, _, I5.laid (t' := s4.toks) (o := .lst xs.reverse) (fun b ob q => Heap.get?_push_of_some _ q) (Nat.le_refl _) ?_, rfl, q _ (I5.hok.fresh (Nat.le_refl _))⟩
    exact ⟨by rw [List.length_reverse]; exact hz, _, 0, r.reverse, Heap.get?_push_size _ rfl⟩
  · obtain ⟨its, r, ht, hz⟩ := I5.tuple hx
    have hlen := r.length
    refine PyProof.Rows.tail_any (ops := [.ref a, .ref s4.heap.objs.size]) ht.typeIs (PyProof.Rows.slot_tuple_getitem.lookup) ?_ (by with_unfolding_all rfl)
    refine getItem_rev ht (Heap.IsSliceOf.new _ vl vu vs) pl pu ps ?_ (by rw [← hlen]; exact hz)
    refine ⟨.ref _, _, I5.laid (t' := s4.toks) (o := .tup xs.reverse) (fun b ob q => Heap.get?_push_of_some _ q) (Nat.le_refl _) ?_, rfl, q _ (I5.hok.fresh (Nat.le_refl _))⟩
    exact ⟨by rw [List.length_reverse]; exact hz, _, r.reverse, IsTup.new _ _⟩
theorem Dts.reverse {K : PySem.W.Frag} {H : Hp} : ∀ {vs : List V} {xs : List D}, Dts K H vs xs → Dts K H vs.reverse xs.reverse
  | _, _, .nil => .nil
  | _, _, .cons h hs => by
    rw [List.reverse_cons, List.reverse_cons]
    exact (Dts.reverse hs).append (.cons h .nil)
def revC : List C → Option C
  | [a] => match asL a with
    | some xs => some (.l xs.reverse)
    | none => (asT a).map fun xs => .d (.tup xs.reverse)
  | _ => none
def mRev (g : MG) : ME := mOp revC (maCons g maNil)
theorem ops_rev {K : PySem.W.Frag} : OpS K (fun vs H Q => match vs with | [x] => (∃ a xs, x = .ref a ∧ ((SqL K H a xs ∧ ∀ p, H p = none → Q (.ref p) (upd H p (.lst xs.reverse))) ∨ (SqT K H a xs ∧ ∀ p, H p = none → Q (.ref p) (upd H p (.tup xs.reverse))))) | _ => False) revC :=
  opsL1 (fun cs c h => by unfold revC at h; split at h <;> first | rfl | cases h) fun Hs H x a oa s ra c hc Q q => by
    unfold revC at hc
    simp only at hc
    split at hc
    · rename_i xs e
      cases hc
      obtain ⟨p, vs, rfl, h1, h2⟩ := ra.asL s e
      exact ⟨p, vs, rfl, .inl ⟨h1, fin_l s q h2.reverse⟩⟩
    · cases e : asT a with
      | none => rw [e] at hc; cases hc
      | some xs =>
        rw [e] at hc
        cases hc
        obtain ⟨p, vs, rfl, h1, h2⟩ := ra.asT s e
        exact ⟨p, vs, rfl, .inr ⟨h1, fin_t s q h2.reverse⟩⟩
theorem je_rev {X : Cx} {e : Expr} {te : TE} {g : MG} {k : Nat} {p1 p2 p3 pos : Pos} (he : JG X e te g) : JE X (.Subscript e (.Slice none none (some (.UnaryOp .USub (.Constant (.int 1) k p1) p2)) p3) pos) (tRevA X.K te) (mRev g) :=
  ⟨pe_revA he.pe, se_op ops_rev (sa_cons he.se sa_nil)⟩

/-! ### list.count -/
def rCnt (K : PySem.W.Frag) : V → List V → Hp → VK → Prop := fun x xs H Q => ∃ (a : Addr) (y : V) (d : PyData) (ds : List PyData), x = .ref a ∧ xs = [y] ∧ Dp K H (.ref a) (.list ds) ∧ Dp K H y d ∧ SeqAt.shaped (.list ds) = true ∧ SeqAt.shaped d = true ∧ Q (.int ((ds.countP fun z => PyData.eqv z d : Nat) : Int)) H
theorem plain_of_shaped {d : PyData} (h : SeqAt.shaped d = true) : d.plain = true := PyData.plain_of_canLay0 d (SeqAt.canLay_of_shaped h)
theorem mt_cnt {X : Cx} (hu : X.A.units + 65 < cLine) : MtR X "list.count" (rCnt X.K) := by
  intro pins s σ H x xs v us Q I rx rxs h
  obtain ⟨a, y, d, ds, rfl, rfl, hl, hy, sl, sd, q⟩ := h
  cases rx
  obtain ⟨uy, rfl, ry⟩ := rxs.one
  obtain ⟨bs, r1⟩ := Dp.reads I d y uy hy ry
  have room : X.A.units + 1 + min (PyData.depthAll ds) d.depth < cLine := PyProof.Rows.room_in_shaped sd hu
  cases hl with
  | lst hs ha =>
    obtain ⟨its, rv, pl, hlen⟩ := I.list hs
    obtain ⟨as, h4⟩ := Dp.readsAll I ds _ its ha rv
    have hp : PyData.plainAll ds = true := by
      have := plain_of_shaped sl
      rwa [PyData.plain] at this
    exact PySem.SeqAt.count_list_data pl.isList (by simpa using h4) r1 hp (plain_of_shaped sd) room ⟨.int _, H, I.tok _, ⟨_, rfl⟩, q⟩
def cntC : List C → Option C
  | [a, x] => match asL a with
    | some xs => if okD (frz x) && okD (.lst xs) then some (.d (.int ((toPys xs).countP fun z => PyData.eqv z (toPy (frz x)) : Nat))) else none
    | none => none
  | _ => none
theorem ops_cnt {K : PySem.W.Frag} : OpS K (fun vs H Q => match vs with | x :: r' => rCnt K x r' H Q | [] => False) cntC := opsL2 (fun cs c h => by unfold cntC at h; split at h <;> first | rfl | cases h) fun Hs H x y a b oa ob s ra rb c hc Q q => by
  unfold cntC at hc
  simp only at hc
  split at hc
  · rename_i xs e
    split at hc
    · rename_i e2
      rw [Bool.and_eq_true] at e2
      cases hc
      obtain ⟨p, vs, rfl, h1, h2⟩ := ra.asL s e
      refine ⟨p, y, _, toPys xs, rfl, rfl, ?_, rb.dp s e2.1, e2.2, e2.1, fin_d s q (.int _)⟩
      exact Dt.dp (x := .lst xs) (.lst h1 (h2.ex s)) (SeqAt.canLay_of_shaped e2.2)
    · cases hc
  · cases hc
section
variable {X : Cx} {o e : Expr} {to te : TE} {g ge : MG} {apos cpos : Pos}
theorem je_count (hu : X.A.units + 65 < cLine) (ho : JG X o to g) (he : JG X e te ge)
    (hbase : attributeBase o "count" X.env (eval o X.env) = eval o X.env := by rfl)
    (hfew : ((backTo cpos (starEach [e] X.env)).all (fun x => !x.1) && (backToKw cpos (keywordEach [] X.env)).all (fun x => x.1.isSome)
      && decide ([e].length + ([] : List Keyword).length + (if ([] : List Keyword).isEmpty then 0 else 1) < 30)) = true := by rfl)
    (hline : (apos.endLine == cpos.line) = true := by rfl) (hs : starEach [e] X.env = (false, eval e X.env) :: starEach [] X.env := by rfl) (hplain : (backTo cpos (starEach [] X.env)).any (·.1) = false := by rfl) :
    JE X (.Call (.Attribute o "count" apos) [e] [] cpos) (tBM X.K "list" (rCnt X.K) to (tCons te tNil)) (mMethO isL cntC g (maCons ge maNil)) :=
  ⟨pe_bm PySem.F.plainAttrs_list PySem.F.slot_list_count PySem.F.type_list_count (mt_cnt hu) ho.pe (pa_cons he.pe pa_nil hs) hbase hfew hline hs hplain, se_methO ho.se (sa_cons he.se sa_nil) (isL_ty X.K) ops_cnt⟩
end

/-! ### str.join -/
def isS : C → Bool
  | .d (.str _) => true
  | _ => false
def joinC : List C → Option C
  | [.d (.str z), a] => match asSeq a with
    | some xs => match asStrs xs with
      | some ys => if (ys.map (·.length)).sum + ys.length * z.length ≤ 16777216 then some (.d (.str (Txt.join z ys))) else none
      | none => none
    | none => none
  | _ => none
def rJoin (K : PySem.W.Frag) : V → List V → Hp → VK → Prop := fun x xs H Q => ∃ a p, ∃ ys : List PySem.Str, x = .str a ∧ xs = [.ref p] ∧ (SqL K H p (ys.map V.str) ∨ SqT K H p (ys.map V.str)) ∧
      (ys.map (·.length)).sum + ys.length * a.length ≤ 16777216 ∧ Q (.str (Txt.join a ys)) H
theorem ops_join {K : PySem.W.Frag} : OpS K (fun vs H Q => match vs with | x :: r' => rJoin K x r' H Q | [] => False) joinC := opsL2 (fun cs c h => by unfold joinC at h; split at h <;> first | rfl | cases h) fun Hs H x y a b oa ob s ra rb c hc Q q => by
  unfold joinC at hc
  split at hc
  · rename_i z b0 e
    cases e
    split at hc
    · rename_i xs e1
      split at hc
      · rename_i ys e2
        split at hc
        · rename_i hz
          cases hc
          obtain ⟨p, vs, rfl, h1, h2⟩ := rb.asSeq s e1
          rw [asStrs_eq e2] at h2
          rw [h2.of_strs] at h1
          exact ⟨z, p, ys, ra.str, rfl, h1, hz, fin_d s q (.str _)⟩
        · cases hc
      · cases hc
    · cases hc
  · cases hc
theorem se_m1 {K : PySem.W.Frag} {r : V → List V → Hp → VK → Prop} {to te : TE} {f : List C → Option C} {g ge : MG} (hg : SG K to g) (he : SG K te ge) (h : OpS K (fun vs H Q => match vs with | x :: r' => r x r' H Q | [] => False) f) : SE K (tM1 r to te) (mMethO isS f g (maCons ge maNil)) := by
  intro Z σ H L TT S c L' hm Q q
  unfold mMethO at hm
  split at hm
  · rename_i av L1 e1
    split at hm
    · rename_i c0 e2
      split at hm
      · rename_i hk
        unfold mOp maCons maNil at hm
        cases e3 : ge L1 with
        | none => simp only [e3] at hm; cases hm
        | some al =>
          obtain ⟨bv, L2⟩ := al
          simp only [e3] at hm
          split at hm
          · rename_i cs e4
            split at hm
            · rename_i c1 e5
              cases hm
              refine hg Z σ H L TT S av L1 e1 _ fun x H1 tv S1 a1 => ⟨?_, ?_⟩
              · obtain ⟨Hs, w, S0⟩ := S1
                obtain ⟨o, t, _, rr, _⟩ := S0.args a1 (show conts L1 [av] = some [c0] by unfold conts; rw [e2]; rfl) 0 x c0 rfl rfl
                cases c0 with
                | d x0 => cases x0 <;> first | exact ⟨_, rr.str⟩ | cases hk
                | _ => cases hk
              · refine he Z σ H1 L1 _ S1 bv L' e3 _ fun y H2 tv2 S2 a2 => ?_
                have S3 : SR K Z σ H2 L' (TT ++ (tv ++ tv2)) := by rw [← List.append_assoc]; exact S2
                exact S3.op (r := fun vs H Q => match vs with | x :: r' => r x r' H Q | [] => False) h (a1.one a2) e4 e5 q
            · cases hm
          · cases hm
      · cases hm
    · cases hm
  · cases hm
theorem je_join {X : Cx} {o e : Expr} {to te : TE} {g ge : MG} {apos pos : Pos} (ho : JG X o to g) (he : JG X e te ge) (hs : starEach [e] X.env = [(false, eval e X.env)] := by rfl) (hbase : attributeBase o "join" X.env (eval o X.env) = eval o X.env := by rfl) (hline : (apos.endLine == pos.line) = true := by rfl) :
    JE X (.Call (.Attribute o "join" apos) [e] [] pos) (tM1 (rJoin X.K) to te) (mMethO isS joinC g (maCons ge maNil)) := ⟨pe_join ho.pe he.pe hs hbase hline, se_m1 ho.se he.se ops_join⟩
end VS

/-! repr, where no repr is under way -/
namespace VS
open PySem PySem.Spec L2
open Evl (Ex Ex.refl Ex.trans Ex.new)

/-- what repr can show here -/
def okR (x : D) : Bool := okD x && (toPy x).showable && decide ((toPy x).shown.length ≤ sizeLine)
def isE : C → Bool
  | .k [] [] => true
  | .d (.dk [] []) => true
  | _ => false
def reprS (x : D) : PySem.Str := (toPy x).shown
def reprC : List C → Option C
  | [a] => if okR (frz a) then some (.d (.str (reprS (frz a)))) else if isE a then some (.d (.str "{}")) else none
  | _ => none
def rRepr (K : PySem.W.Frag) : List V → Hp → VK → Prop := fun xs H Q => (∃ (x : V) (d : PyData), xs = [x] ∧ Dp K H x d ∧ SeqAt.shaped d = true ∧ d.showable = true ∧ d.shown.length ≤ sizeLine ∧ Q (.str d.shown) H) ∨ ∃ a, xs = [.ref a] ∧ Rd H a (.dK []) ∧ Q (.str "{}") H
theorem call_reprD {X : Cx} (hG : X.A.guards = some []) (hu : X.A.units + 66 < cLine) : CallR X (.builtin "repr") (rRepr X.K) := by
  intro pins s σ H xs us Q I r h
  rcases h with ⟨x, d, rfl, hd, sh, hs, hz, q⟩ | ⟨a, rfl, hr, q⟩
  · obtain ⟨u, rfl, ru⟩ := vals1 r
    obtain ⟨as, rd⟩ := Dp.reads I d x u hd ru
    have hdep := SeqAt.depth_of_shaped sh
    have hsm : d.hasDict = true → sysModules ∉ as := PyData.noDict_hsm (PyData.hasDict_of_canLay d (SeqAt.canLay_of_shaped sh))
    have fin : ∀ h' k tk, (∀ b o, s.heap.get? b = some o → h'.get? b = some o) → EP X pins σ Q (.str d.shown k) { s with heap := h', toks := tk } := fun h' k tk hk => ⟨.str d.shown, H, I.kept (t' := tk) hk, ⟨_, rfl⟩, q⟩
    cases rd with
    | none => exact PySem.P.repr_of_none (fin s.heap _ _ fun _ _ e => e)
    | bool b => exact PySem.P.repr_of_bool (fin s.heap _ _ fun _ _ e => e)
    | int i t => exact PySem.P.repr_of_int (by simpa [PyData.showable] using hs) (fin s.heap _ _ fun _ _ e => e)
    | str z t => exact PySem.P.repr_of_str (fin s.heap _ _ fun _ _ e => e) hz
    | list h1 h2 h3 h4 => exact repr_of_reads' (.list h1 h2 h3 h4) hs hsm hG (by omega) (fun _ _ e => e) (fun h' k tk hk => fin h' k tk hk) hz
    | tuple h1 h2 h3 h4 => exact repr_of_reads' (.tuple h1 h2 h3 h4) hs hsm hG (by omega) (fun _ _ e => e) (fun h' k tk hk => fin h' k tk hk) hz
    | dict h1 h2 h3 h4 h5 => exact absurd (SeqAt.canLay_of_shaped sh) (by simp [PyData.canLay0])
  · obtain rfl := Vals.ref1 r
    obtain ⟨z, hsys, vs, rel, o, es, ep, h1, h2, h3, h4, h5, h6⟩ := dk_rd I.hok hr
    have e1 : vs = [] := List.length_eq_zero_iff.mp (by rw [← rel.length]; rfl)
    subst e1
    have e2 : es.toList = [] := by
      cases q2 : es.toList with
      | nil => rfl
      | cons x r => rw [q2] at h5; cases h5
    have rd : Reads s.heap (.ref a) (.dict []) (a :: [] ++ []) := .dict h1 h2.1 h3 (by rw [e2]; exact .nil) (by rw [e2]; exact .nil)
    refine repr_of_reads' rd rfl (fun _ hm => ?_) hG ?_ (fun _ _ e => e) (fun h' k tk hk => ⟨.str "{}", H, I.kept (t' := tk) hk, ⟨k, ?_⟩, q⟩) ?_
    · have : sysModules = a := by simpa using hm
      rw [← this] at hsys
      simp at hsys
    · simp [PyData.depth, PyData.depthKv]; omega
    · congr 1
    · decide +kernel
theorem Dt.dkE {K : PySem.W.Frag} {H : Hp} {v : V} {ks : List Key} {xs : List D} (h : Dt K H v (.dk ks xs)) : ∃ a kvs, v = .ref a ∧ Rd H a (.dK kvs) ∧ KDs K H kvs ks xs := by
  generalize hx : D.dk ks xs = y at h
  cases h <;> cases hx
  rename_i a kvs h1 h2
  exact ⟨a, kvs, rfl, h1, rfl, h2⟩
theorem Dt.dtE {K : PySem.W.Frag} {H : Hp} {v : V} {ks : List (List Key)} {xs : List D} (h : Dt K H v (.dt ks xs)) : ∃ a kvs, v = .ref a ∧ Rd H a (.dT kvs) ∧ KDs K H kvs ks xs := by
  generalize hx : D.dt ks xs = y at h
  cases h <;> cases hx
  rename_i a kvs h1 h2
  exact ⟨a, kvs, rfl, h1, rfl, h2⟩
theorem ops_repr {K : PySem.W.Frag} : OpS K (rRepr K) reprC := opsL1 (fun cs c h => by unfold reprC at h; split at h <;> first | rfl | cases h) fun Hs H x a oa s ra c hc Q q => by
  unfold reprC at hc
  simp only at hc
  split at hc
  · rename_i hk
    cases hc
    unfold okR at hk
    rw [Bool.and_eq_true, Bool.and_eq_true, decide_eq_true_eq] at hk
    exact .inl ⟨x, _, rfl, ra.dp s hk.1.1, hk.1.1, hk.1.2, hk.2, fin_d s q (.str _)⟩
  · split at hc
    · rename_i he
      cases hc
      unfold isE at he
      split at he
      · cases ra with
        | k h1 h2 =>
          obtain ⟨e1, _⟩ := h2
          have e2 := List.map_eq_nil_iff.mp e1
          subst e2
          exact .inr ⟨_, rfl, .inl h1, fin_d s q (.str _)⟩
      · obtain ⟨b, kvs, rfl, h1, e1, _⟩ := ra.data.dkE
        have e2 := List.map_eq_nil_iff.mp e1
        subst e2
        exact .inr ⟨_, rfl, Evl.ex_rd s h1, fin_d s q (.str _)⟩
      · cases he
    · cases hc
end VS

/-! walking a dict: it is locked meanwhile -/
namespace VS
open PySem PySem.Spec L2
open Evl (Ex Ex.refl Ex.trans Ex.new)

def isDictO : HO → Bool
  | .dK _ => true
  | .dT _ => true
  | _ => false
/-- what stands at d is locked -/
def lk (G : Hp) (d : Addr) (o : Obj) (u : HO) : Hp := fun a => if a = d then (match G a with | some _ => some (.frz o u) | none => none) else G a
theorem lk_ne {G : Hp} {d a : Addr} {o : Obj} {u : HO} (h : a ≠ d) : lk G d o u a = G a := if_neg h
section
variable {K : PySem.W.Frag} {G G' : Hp} {d : Addr} {u : HO}
/-- two heaps that differ at a dict alone, in its lock -/
structure Same (G G' : Hp) (d : Addr) (u : HO) : Prop where
  out : ∀ a, a ≠ d → G' a = G a
  at_ : Rd G d u
  at' : Rd G' d u
theorem Rd.fn {H : Hp} {a : Addr} {u v : HO} (hu : isDictO u = true) (h : Rd H a u) (q : H a = some v) : v = u ∨ ∃ o, v = .frz o u := by
  rcases h with h | ⟨o, h⟩
  · rw [h] at q; cases q; exact .inl rfl
  · rw [h] at q; cases q; exact .inr ⟨o, rfl⟩
theorem Same.rd (s : Same G G' d u) (hd : isDictO u = true) {a : Addr} {v : HO} (hv : isDictO v = true ∨ ∃ xs, v = .lst xs) (h : Rd G a v) : Rd G' a v := by
  by_cases e : a = d
  · subst e
    rcases h with h | ⟨o, h⟩
    · rcases Rd.fn hd s.at_ h with z | ⟨o, z⟩
      · rw [z]; exact s.at'
      · subst z
        rcases hv with z | ⟨xs, z⟩
        · cases z
        · cases z
    · rcases Rd.fn hd s.at_ h with z | ⟨o', z⟩
      · rw [← z] at hd; cases hd
      · cases z; exact s.at'
  · unfold Rd
    rw [s.out a e]
    exact h
mutual
theorem Dt.same (s : Same G G' d u) (hd : isDictO u = true) : ∀ {v : V} {x : D}, Dt K G v x → Dt K G' v x
  | _, _, .non => .non
  | _, _, .bl b => .bl b
  | _, _, .int i => .int i
  | _, _, .str z => .str z
  | _, _, .ty z => .ty z
  | _, _, .tup (a := a) h hs => .tup (by
      have ne : a ≠ d := fun z => by
        subst z
        rcases Rd.fn hd s.at_ h with q | ⟨o, q⟩
        · rw [← q] at hd; cases hd
        · cases q
      rw [s.out a ne]; exact h) (Dts.same s hd hs)
  | _, _, .kt h hs => .kt (by
      rcases h with (h | ⟨o, h⟩) | h
      · refine .inl (.inl ?_)
        rw [s.out _ (fun z => by
          subst z
          rcases Rd.fn hd s.at_ h with q | ⟨o, q⟩
          · rw [← q] at hd; cases hd
          · cases q)]
        exact h
      · refine .inl (.inr ⟨o, ?_⟩)
        rw [s.out _ (fun z => by
          subst z
          rcases Rd.fn hd s.at_ h with q | ⟨o, q⟩
          · rw [← q] at hd; cases hd
          · cases q; cases hd)]
        exact h
      · exact .inr h) (Dts.same s hd hs)
  | _, _, .lst h hs => .lst (by
      rcases h with h | h
      · exact .inl (s.rd hd (.inr ⟨_, rfl⟩) h)
      · exact .inr h) (Dts.same s hd hs)
  | _, _, .dk h hs => .dk (s.rd hd (.inl rfl) h) (Dts.same s hd hs)
  | _, _, .dt h hs => .dt (s.rd hd (.inl rfl) h) (Dts.same s hd hs)
theorem Dts.same (s : Same G G' d u) (hd : isDictO u = true) : ∀ {vs : List V} {xs : List D}, Dts K G vs xs → Dts K G' vs xs
  | _, _, .nil => .nil
  | _, _, .cons h hs => .cons (Dt.same s hd h) (Dts.same s hd hs)
end
theorem rows_same {Hs Hs' H H' : Hp} (s : Same Hs Hs' d u) (hd : isDictO u = true) : ∀ {qs : List Addr} {rows : List (List D)}, Rows K Hs H qs rows → (∀ a ∈ qs, H' a = H a) → Rows K Hs' H' qs rows
  | _, _, .nil, _ => .nil
  | _, _, .cons h hs r, k => .cons (by rw [k _ (by simp)]; exact h) (hs.same s hd) (rows_same s hd r fun a ha => k a (List.mem_cons_of_mem _ ha))
theorem Rep.same {Hs Hs' H H' : Hp} (s : Same Hs Hs' d u) (hd : isDictO u = true) {v : V} {c : C} {o : List Addr} (r : Rep K Hs H v c o) (ho : ∀ a ∈ o, H' a = H a) : Rep K Hs' H' v c o := by
  cases r with
  | d h => exact .d (h.same s hd)
  | l h hs => exact .l (by rw [ho _ (by simp)]; exact h) (hs.same s hd)
  | k h hs => exact .k (by rw [ho _ (by simp)]; exact h) ⟨hs.1, hs.2.same s hd⟩
  | t h hs => exact .t (by rw [ho _ (by simp)]; exact h) ⟨hs.1, hs.2.same s hd⟩
  | p h hs => exact .p (by rw [ho _ (by simp)]; exact h) (by rw [ho _ (by simp)]; exact hs)
  | m h nd hs => exact .m (by rw [ho _ (by simp)]; exact h) nd (rows_same s hd hs fun a ha => ho a (List.mem_cons_of_mem _ ha))
end
section
variable {K : PySem.W.Frag} {Z : Stat} {σ σ' : L2.St} {H H' Hs : Hp} {L L' : Ls} {T T' : List (V × C)} {w : Own} {d : Addr} {u : HO} {o : Obj}
/-- the statics while d is locked -/
def Stat.lk (Z : Stat) (Hs H : Hp) (w : Own) (d : Addr) (o : Obj) (u : HO) : Stat := ⟨upd H d (.frz o u), upd Hs d (.frz o u), fun a => ∃ t, w a = some t, Z.ro, Z.σ0⟩
theorem SRw.lock (S : SRw K Z σ H L T Hs w) (hd : isDictO u = true) (hs : Hs d = some u) (o : Obj) : SRw K (Z.lk Hs H w d o u) σ (upd H d (.frz o u)) L T (upd Hs d (.frz o u)) w := by
  have sm : Same Hs (upd Hs d (.frz o u)) d u := ⟨fun a e => upd_ne e, .inl hs, .inr ⟨o, upd_same⟩⟩
  have now : ∀ a t, w a = some t → a ≠ d := fun a t e z => by rw [z] at e; rw [(S.own d t e).1] at hs; cases hs
  refine ⟨Ex.refl _, fun a v e => ?_, fun a v e => .inl e, fun a t e => ⟨by rw [upd_ne (now a t e)]; exact (S.own a t e).1, .inl ⟨t, e⟩⟩, fun i c e => ?_, fun i vc e => ?_, fun a v e _ => e, S.rd, S.len, fun a xs e => by
    by_cases z : a = d
    · subst z; rw [upd_same] at e; cases e
    · rw [upd_ne z] at e ⊢; exact S.tups a xs e⟩
  · by_cases z : a = d
    · subst z; rw [upd_same] at e ⊢; exact e
    · rw [upd_ne z] at e ⊢; exact S.sub a v e
  · obtain ⟨v, o', h1, h2, h3⟩ := S.slot i c e
    exact ⟨v, o', h1, h2.same sm hd fun a ha => upd_ne (now a _ (h3 a ha)), h3⟩
  · obtain ⟨o', h2, h3⟩ := S.tmp i vc e
    exact ⟨o', h2.same sm hd fun a ha => upd_ne (now a _ (h3 a ha)), h3⟩
theorem SR.unlock (S : SRw K Z σ H L T Hs w) (hd : isDictO u = true) (hs : Hs d = some u) (S' : SR K (Z.lk Hs H w d o u) σ' H' L' T') : H' d = some (.frz o u) ∧ SR K Z σ' (upd H' d u) L' T' := by
  obtain ⟨Hs2, w2, S2⟩ := S'
  have h2 : Hs2 d = some (.frz o u) := S2.grow d _ upd_same
  have hH : H d = some u := S.sub d u hs
  have h3 : H' d = some (.frz o u) := S2.sub d _ h2
  refine ⟨h3, upd Hs2 d u, w2, fun a v e => ?_, fun a v e => ?_, fun a v e => ?_, fun a t e => ?_, fun i c e => ?_, fun i vc e => ?_, fun a v e hP => ?_, S2.rd, S2.len, fun a xs e => by
    by_cases z : a = d
    · subst z; rw [upd_same] at e; cases e; cases hd
    · rw [upd_ne z] at e ⊢; exact S2.tups a xs e⟩
  · have e1 := S.grow a v e
    by_cases z : a = d
    · subst z
      rw [hs] at e1
      cases e1
      exact upd_same
    · rw [upd_ne z]
      refine S2.grow a v ?_
      show upd Hs d (.frz o u) a = some v
      rw [upd_ne z]; exact e1
  · by_cases z : a = d
    · subst z; rw [upd_same] at e ⊢; exact e
    · rw [upd_ne z] at e ⊢; exact S2.sub a v e
  · by_cases z : a = d
    · subst z
      rw [upd_same] at e
      cases e
      exact S.news a u hs
    · rw [upd_ne z] at e
      rcases S2.news a v e with q | ⟨t, q⟩ | q
      · have q' : upd Hs d (.frz o u) a = some v := q
        rw [upd_ne z] at q'
        exact S.news a v q'
      · exact .inr (S.own a t q).2
      · have q' : upd H d (.frz o u) a = none := q
        rw [upd_ne z] at q'
        exact .inr (S.fresh0 q')
  · have q := S2.own a t e
    have z : a ≠ d := fun z => by rw [z, h2] at q; cases q.1
    refine ⟨by rw [upd_ne z]; exact q.1, ?_⟩
    rcases q.2 with ⟨t', q⟩ | q
    · exact (S.own a t' q).2
    · have q' : upd H d (.frz o u) a = none := q
      rw [upd_ne z] at q'
      exact S.fresh0 q'
  · have sm : Same Hs2 (upd Hs2 d u) d u := ⟨fun a e => upd_ne e, .inr ⟨o, h2⟩, .inl upd_same⟩
    obtain ⟨v, o', k1, k2, k3⟩ := S2.slot i c e
    exact ⟨v, o', k1, k2.same sm hd fun a ha => upd_ne fun z => (by
      have q := (S2.own a _ (k3 a ha)).1
      rw [z, h2] at q; cases q), k3⟩
  · have sm : Same Hs2 (upd Hs2 d u) d u := ⟨fun a e => upd_ne e, .inr ⟨o, h2⟩, .inl upd_same⟩
    obtain ⟨o', k2, k3⟩ := S2.tmp i vc e
    exact ⟨o', k2.same sm hd fun a ha => upd_ne fun z => (by
      have q := (S2.own a _ (k3 a ha)).1
      rw [z, h2] at q; cases q), k3⟩
  · have e1 := S.frame a v e hP
    by_cases z : a = d
    · subst z
      rw [hH] at e1
      cases e1
      exact upd_same
    · rw [upd_ne z]
      refine S2.frame a v ?_ fun ⟨t, q⟩ => ?_
      · show upd H d (.frz o u) a = some v
        rw [upd_ne z]; exact e1
      · rcases (S.own a t q).2 with q' | q'
        · exact hP q'
        · rw [e] at q'; cases q'
end

/-! ### the keys of a dict, known to be locked -/
def keysOfD : D → Option (List D)
  | .dk ks _ => some (ks.map unkey)
  | .dt ks _ => some (ks.map fun k => .tup (k.map unkey))
  | _ => none
def miKeys (i : Nat) : MI := fun L => match L[i]? with
  | some (some (.d x)) => match keysOfD x with
    | some xs => some (xs, L)
    | none => none
  | _ => none
theorem unkey_dt {K : PySem.W.Frag} {H : Hp} (k : Key) : Dt K H (kV k) (unkey k) := by
  cases k with
  | inl i => exact .int i
  | inr s => exact .str s
theorem unkeys_dts {K : PySem.W.Frag} {H : Hp} : ∀ ks : List Key, Dts K H (ks.map kV) (ks.map unkey)
  | [] => .nil
  | k :: r => .cons (unkey_dt k) (unkeys_dts r)

theorem walk_k {B : Hp} {K : PySem.W.Frag} {d : Addr} {o : Obj} {kvs : List (Key × V)} (hb : B d = some (.frz o (.dK kvs))) : Walk B K (Itk d o kvs) ((kvs.map (·.1)).map unkey) [] := by
  intro Z σ H L T T2 i hz S
  obtain ⟨Hs, w, S0⟩ := id S
  have hd : H d = some (.frz o (.dK kvs)) := S0.sub d _ (S0.grow d _ (by rw [hz]; exact hb))
  refine ⟨fun x hx => ?_, fun hi => ⟨hd, by simpa using hi⟩⟩
  rw [List.getElem?_map, List.getElem?_map] at hx
  cases e : kvs[i]? with
  | none => rw [e] at hx; cases hx
  | some p =>
    rw [e] at hx
    cases hx
    refine ⟨⟨hd, (List.getElem?_eq_some_iff.mp e).1⟩, fun v H' y => ?_⟩
    obtain ⟨rfl, k, v', e2, rfl⟩ := y
    rw [e] at e2
    cases e2
    exact S.pushC fun _ => unkey_dt _
theorem walk_kt {B : Hp} {K : PySem.W.Frag} {d : Addr} {o : Obj} {kvs : List (List Key × V)} (hb : B d = some (.frz o (.dT kvs))) : Walk B K (Itkt d o kvs) ((kvs.map (·.1)).map fun k => .tup (k.map unkey)) [] := by
  intro Z σ H L T T2 i hz S
  obtain ⟨Hs, w, S0⟩ := id S
  have hd : H d = some (.frz o (.dT kvs)) := S0.sub d _ (S0.grow d _ (by rw [hz]; exact hb))
  refine ⟨fun x hx => ?_, fun hi => ⟨hd, by simpa using hi⟩⟩
  rw [List.getElem?_map, List.getElem?_map] at hx
  cases e : kvs[i]? with
  | none => rw [e] at hx; cases hx
  | some p =>
    rw [e] at hx
    cases hx
    refine ⟨⟨hd, (List.getElem?_eq_some_iff.mp e).1⟩, fun v H' y => ?_⟩
    obtain ⟨rfl, k, v', q, e2, rfl, hq⟩ := y
    rw [e] at e2
    cases e2
    have z := S0.result (n := (T ++ [] ++ T2).length) (Nat.le_refl _) (Grow.refl S0.sub) (v := .ref q) (c := .d (.tup (k.map unkey))) (o := []) (.d (.tup (S0.tups q _ hq) (unkeys_dts k))) (fun a ha => absurd ha (by simp)) fun _ _ e => .inl e
    rw [List.take_length] at z
    exact z
theorem rd_frz {H : Hp} {d : Addr} {o : Obj} {u v : HO} (hv : isDictO v = true) (h : Rd H d v) (e : H d = some (.frz o u)) : u = v := by
  rcases h with h | ⟨o', h⟩
  · rw [e] at h; cases h; cases hv
  · rw [e] at h; cases h; rfl
theorem si_keys {K : PySem.W.Frag} {i : Nat} {Z : Stat} {σ : L2.St} {d : Addr} {o : Obj} {u : HO} (hs : σ[i]? = some (some (.ref d))) (hl : Z.Hs0 d = some (.frz o u)) : SIat K (iKeys (tVar i)) (miKeys i) Z σ := by
  intro H L T S xs L' hm R q
  unfold miKeys at hm
  split at hm
  · rename_i x e1
    split at hm
    · rename_i ys e2
      cases hm
      obtain ⟨Hs, w, S0⟩ := id S
      obtain ⟨v, o', h1, h2, h3⟩ := S0.slot i _ e1
      rw [hs] at h1
      cases h1
      have hf := S0.grow d _ hl
      unfold keysOfD at e2
      split at e2
      · cases e2
        obtain ⟨a, kvs, ea, hr, hk⟩ := h2.data.dkE
        cases ea
        have := rd_frz rfl hr hf
        subst this
        refine ⟨.ref d, hs, d, o, rfl, .inl ⟨kvs, S0.sub d _ hf, ?_⟩⟩
        rw [← hk.1] at q
        exact q _ H [] (by rw [List.append_nil]; exact S) (walk_k hl)
      · cases e2
        obtain ⟨a, kvs, ea, hr, hk⟩ := h2.data.dtE
        cases ea
        have := rd_frz rfl hr hf
        subst this
        refine ⟨.ref d, hs, d, o, rfl, .inr ⟨kvs, S0.sub d _ hf, ?_⟩⟩
        rw [← hk.1] at q
        exact q _ H [] (by rw [List.append_nil]; exact S) (walk_kt hl)
      · cases e2
    · cases hm
  · cases hm

/-! ### a nested context -/
section
variable {K : PySem.W.Frag} {Z : Stat} {σ σ' : L2.St} {H H' Hs : Hp} {L L' : Ls} {T T' : List (V × C)} {w : Own}
def Stat.nest (Z : Stat) (Hs H : Hp) (w : Own) : Stat := ⟨H, Hs, fun a => ∃ t, w a = some t, Z.ro, Z.σ0⟩
theorem SRw.nest (S : SRw K Z σ H L T Hs w) : SRw K (Z.nest Hs H w) σ H L T Hs w :=
  ⟨Ex.refl _, S.sub, fun a v e => .inl e, fun a t e => ⟨(S.own a t e).1, .inl ⟨t, e⟩⟩, S.slot, S.tmp, fun a v e _ => e, S.rd, S.len, S.tups⟩
theorem SR.unnest (S : SRw K Z σ H L T Hs w) (S' : SR K (Z.nest Hs H w) σ' H' L' T') : SR K Z σ' H' L' T' := by
  obtain ⟨Hs2, w2, S2⟩ := S'
  refine ⟨Hs2, w2, fun a v e => S2.grow a v (S.grow a v e), S2.sub, fun a v e => ?_, fun a t e => ?_, S2.slot, S2.tmp, fun a v e hP => ?_, S2.rd, S2.len, S2.tups⟩
  · rcases S2.news a v e with q | ⟨t, q⟩ | q
    · exact S.news a v q
    · exact .inr (S.own a t q).2
    · exact .inr (S.fresh0 q)
  · have q := S2.own a t e
    refine ⟨q.1, ?_⟩
    rcases q.2 with ⟨t', q⟩ | q
    · exact (S.own a t' q).2
    · exact S.fresh0 q
  · refine S2.frame a v (S.frame a v e hP) fun ⟨t, q⟩ => ?_
    rcases (S.own a t q).2 with q' | q'
    · exact hP q'
    · rw [e] at q'; cases q'
end
def isDictC : C → Bool
  | .k _ _ => true
  | .t _ _ => true
  | .d (.dk _ _) => true
  | .d (.dt _ _) => true
  | _ => false
/-- the dict in slot i, shared from now on -/
def lkL (i : Nat) (L : Ls) : Option Ls := match L[i]? with
  | some (some c) => if isDictC c then some (L.set i (some (.d (frz c)))) else none
  | _ => none
def mLk (i : Nat) (m : ME) : ME := fun L => (lkL i L).bind m
def mLkS (i : Nat) (m : MS) : MS := fun L => (lkL i L).bind m
def tLk (t : TE) : TE := fun σ H Q => t σ H Q ∨ tLockE t σ H Q
def tLkS (t : TS) : TS := fun D σ H => t D σ H ∨ tLock t D σ H
theorem lk_start {K : PySem.W.Frag} {Z : Stat} {σ : L2.St} {H : Hp} {L L1 : Ls} {T : List (V × C)} {i : Nat} (S : SR K Z σ H L T) (h : lkL i L = some L1) : ∃ Hs w d u, SRw K Z σ H L1 T Hs w ∧ σ[i]? = some (some (.ref d)) ∧ isDictO u = true ∧ Rd Hs d u := by
  unfold lkL at h
  split at h
  · rename_i c e1
    split at h
    · rename_i hc
      cases h
      obtain ⟨v, hv, Hs, w, S1⟩ := S.freeze e1
      obtain ⟨o, r, _⟩ := S1.tmp T.length (v, .d (frz c)) (by rw [List.getElem?_append_right (Nat.le_refl _), Nat.sub_self]; rfl)
      have S2 := S1.drop T.length
      rw [List.take_left] at S2
      have hd := r.data
      cases c with
      | d x =>
        cases x <;> first | cases hc | skip
        · obtain ⟨a, kvs, rfl, h1, _⟩ := Dt.dkE hd
          exact ⟨Hs, w, a, _, S2, hv, rfl, h1⟩
        · obtain ⟨a, kvs, rfl, h1, _⟩ := Dt.dtE hd
          exact ⟨Hs, w, a, _, S2, hv, rfl, h1⟩
      | k ks xs =>
        obtain ⟨a, kvs, rfl, h1, _⟩ := Dt.dkE hd
        exact ⟨Hs, w, a, _, S2, hv, rfl, h1⟩
      | t ks xs =>
        obtain ⟨a, kvs, rfl, h1, _⟩ := Dt.dtE hd
        exact ⟨Hs, w, a, _, S2, hv, rfl, h1⟩
      | _ => cases hc
    · cases h
  · cases h
theorem mut_dict {u : HO} (h : isDictO u = true) : Mut (some u) := by
  cases u <;> first | exact True.intro | cases h
theorem se_lk {K : PySem.W.Frag} {i : Nat} {t : TE} {m : ME} (h : ∀ (Z : Stat) (σ : L2.St) (d : Addr) (o : Obj) (u : HO), σ[i]? = some (some (.ref d)) → Z.Hs0 d = some (.frz o u) → SEat K t m Z σ) : SE K (tLk t) (mLk i m) := by
  intro Z σ H L T S c L' hm Q q
  unfold mLk at hm
  obtain ⟨L1, e1, hm⟩ := Option.bind_eq_some_iff.mp hm
  obtain ⟨Hs, w, d, u, S1, hv, hu, hr⟩ := lk_start S e1
  rcases hr with hr | ⟨o, hr⟩
  · refine .inr ⟨d, u, S1.sub d u hr, mut_dict hu, fun od => ?_⟩
    refine h (Z.lk Hs H w d od u) σ d od u hv upd_same _ L1 T ⟨_, _, S1.lock hu hr od⟩ c L' hm _ fun v H' S' => ?_
    obtain ⟨k1, k2⟩ := SR.unlock S1 hu hr S'
    exact ⟨k1, q v _ k2⟩
  · exact .inl (h (Z.nest Hs H w) σ d o u hv hr H L1 T ⟨_, _, S1.nest⟩ c L' hm _ fun v H' S' => q v H' (SR.unnest S1 S'))
theorem ss_lk {K : PySem.W.Frag} {ro : List Nat} {i : Nat} {t : TS} {m : MS} (h : ∀ (Z : Stat) (σ : L2.St) (d : Addr) (o : Obj) (u : HO), Z.ro = ro → σ[i]? = some (some (.ref d)) → Z.Hs0 d = some (.frz o u) → SSat K t m Z σ) : SS K ro (tLkS t) (mLkS i m) := by
  intro Z hz σ H L T S out hm D q
  unfold mLkS at hm
  obtain ⟨L1, e1, hm⟩ := Option.bind_eq_some_iff.mp hm
  obtain ⟨Hs, w, d, u, S1, hv, hu, hr⟩ := lk_start S e1
  rcases hr with hr | ⟨o, hr⟩
  · refine .inr ⟨d, u, S1.sub d u hr, mut_dict hu, fun od => ?_⟩
    refine h (Z.lk Hs H w d od u) σ d od u hz hv upd_same _ L1 T ⟨_, _, S1.lock hu hr od⟩ out hm _ ?_
    cases out with
    | nx L2 => exact fun σ' H' S' => ⟨(SR.unlock S1 hu hr S').1, q _ _ (SR.unlock S1 hu hr S').2⟩
    | rt c L2 => exact fun σ' v H' S' => ⟨(SR.unlock S1 hu hr S').1, q _ _ _ (SR.unlock S1 hu hr S').2⟩
    | bk L2 => exact fun σ' H' S' => ⟨(SR.unlock S1 hu hr S').1, q _ _ (SR.unlock S1 hu hr S').2⟩
    | ct L2 => exact fun σ' H' S' => ⟨(SR.unlock S1 hu hr S').1, q _ _ (SR.unlock S1 hu hr S').2⟩
  · refine .inl (h (Z.nest Hs H w) σ d o u hz hv hr H L1 T ⟨_, _, S1.nest⟩ out hm D ?_)
    cases out with
    | nx L2 => exact fun σ' H' S' => q _ _ (SR.unnest S1 S')
    | rt c L2 => exact fun σ' v H' S' => q _ _ _ (SR.unnest S1 S')
    | bk L2 => exact fun σ' H' S' => q _ _ (SR.unnest S1 S')
    | ct L2 => exact fun σ' H' S' => q _ _ (SR.unnest S1 S')
theorem pe_tLk {X : Cx} {e : Expr} {t : TE} (h : PE X e t) : PE X e (tLk t) := ⟨fun pins s σ H Q I q => q.elim (fun q => h.run pins s σ H Q I q) fun q => (pe_lock h).run pins s σ H Q I q⟩
theorem ps_tLk {X : Cx} {e : Stmt} {t : TS} (h : PS X e t) : PS X e (tLkS t) := ⟨fun pins s σ H D I q => q.elim (fun q => h.run pins s σ H D I q) fun q => (ps_lock h).run pins s σ H D I q⟩
section
variable {X : Cx} {elt tg : Expr} {ifs : List Expr} {scope : Scope} {js ro : List Nat} {g : TG} {mt : MTg} {tt : TT} {tst : MT} {te : TE} {me : ME} {pos p : Pos} {body : List Stmt} {tb : TS} {mb : MS}
/-- [.. for k in d if ..], d a name -/
theorem je_lcK (i : Nat) (own : List (PySem.Str × Nat)) {x : PySem.Str} {ok : BlkOk X.N X.env.scope scope own} (hc : X.calm = true) (hN : X.N.Nodup)
    (hg : ∀ (s : Shared) (H : Hp) (C : Addr) (cl : List (PySem.Str × Addr)) (fp : List Addr), JTg (X.blk s H scope (compEnvC scope cl C X.env) fp) tg js g mt)
    (ht : ∀ (s : Shared) (H : Hp) (C : Addr) (cl : List (PySem.Str × Addr)) (fp : List Addr), JTsts (X.blk s H scope (compEnvC scope cl C X.env) fp) ifs tt tst)
    (he : ∀ (s : Shared) (H : Hp) (C : Addr) (cl : List (PySem.Str × Addr)) (fp : List Addr), JE (X.blk s H scope (compEnvC scope cl C X.env) fp) elt te me)
    (hj : ∀ j ∈ js, j ∈ own.map (·.2) := by decide) (hn : X.N[i]? = some x := by rfl) (hv : Vis X.env.scope x := by first | exact Or.inl rfl | exact Or.inr (Or.inl rfl) | exact Or.inr (Or.inr rfl)) (hd : (x == ("__debug__" : PySem.Str)) = false := by decide)
    (hcd : (x == ("__classdict__" : PySem.Str)) = false := by decide) (hs : ∀ z, foldedSetIterable (.Name x p) X.env z = pure z := by intro _; rfl) :
    JE X (.ListComp elt [⟨tg, .Name x p, ifs, 0⟩] scope pos) (tLk (tLc (iKeys (tVar i)) g tt te (own.map (·.2)))) (mLk i (mLc (own.map (·.2)) (miKeys i) mt tst me)) :=
  ⟨pe_tLk (pe_lc hc hN (pi_keys (pe_var hn hv hd hcd)) ok (fun s H C cl fp => (hg s H C cl fp).pg) (fun s H C cl fp => (ht s H C cl fp).pts) (fun s H C cl fp => (he s H C cl fp).pe) hs),
    se_lk fun Z σ d o u h1 h2 => lc_at (si_keys h1 h2) (hg {} (fun _ => none) 0 [] []).st hj (ht {} (fun _ => none) 0 [] []).st (he {} (fun _ => none) 0 [] []).se⟩
/-- for k in d, d a name -/
theorem js_forK (i : Nat) {x : PySem.Str} (hc : X.calm = true) (hp : PassesOwn (model X.prog X.w) X.A X.env X.xe) (hg : JTg X tg js g mt) (hb : JSs X ro body tb mb) (hj : ∀ j ∈ js, j ∉ ro := by decide)
    (hn : X.N[i]? = some x := by rfl) (hv : Vis X.env.scope x := by first | exact Or.inl rfl | exact Or.inr (Or.inl rfl) | exact Or.inr (Or.inr rfl)) (hd : (x == ("__debug__" : PySem.Str)) = false := by decide)
    (hcd : (x == ("__classdict__" : PySem.Str)) = false := by decide) (hs : ∀ z, foldedSetIterable (.Name x p) X.env z = pure z := by intro _; rfl) :
    JS X ro (.For tg (.Name x p) body [] pos) (tLkS (tFor (iKeys (tVar i)) g tb)) (mLkS i (mFor (miKeys i) mt mb)) :=
  ⟨ps_tLk (ps_for hp hc (pi_keys (pe_var hn hv hd hcd)) hg.pg hb.ps hs), ss_lk fun Z σ d o u hz h1 h2 => for_at hz (si_keys h1 h2) hg.st hj hb.ss⟩
end
end VS

/-! lists of lists of one's own -/
namespace VS
open PySem PySem.Spec L2
open Evl (Ex Ex.refl Ex.trans Ex.new)
theorem Rows.snoc {K : PySem.W.Frag} {Hs H : Hp} {q : Addr} {vs : List V} {xs : List D} (h : H q = some (.lst vs)) (d : Dts K Hs vs xs) : ∀ {qs : List Addr} {rows : List (List D)}, Rows K Hs H qs rows → Rows K Hs H (qs ++ [q]) (rows ++ [xs])
  | _, _, .nil => .cons h d .nil
  | _, _, .cons h1 h2 r => .cons h1 h2 (Rows.snoc h d r)
theorem Rows.len {K : PySem.W.Frag} {Hs H : Hp} : ∀ {qs : List Addr} {rows : List (List D)}, Rows K Hs H qs rows → qs.length = rows.length
  | _, _, .nil => rfl
  | _, _, .cons _ _ r => congrArg (· + 1) r.len
theorem Rows.get {K : PySem.W.Frag} {Hs H : Hp} : ∀ {qs : List Addr} {rows : List (List D)} {i : Nat} {xs : List D}, Rows K Hs H qs rows → rows[i]? = some xs → ∃ q vs, qs[i]? = some q ∧ H q = some (.lst vs) ∧ Dts K Hs vs xs
  | _, _, _, _, .nil, e => by simp at e
  | _, _, 0, xs, .cons h d _, e => by
    have e' : _ = xs := Option.some.inj e
    subst e'
    exact ⟨_, _, rfl, h, d⟩
  | _, _, i + 1, xs, .cons _ _ r, e => r.get (i := i) e
/-- one of the lists is changed -/
theorem Rows.put {K : PySem.W.Frag} {Hs H : Hp} {q : Addr} {vs : List V} {xs : List D} (d : Dts K Hs vs xs) : ∀ {qs : List Addr} {rows : List (List D)} {i : Nat}, Rows K Hs H qs rows → qs.Nodup → qs[i]? = some q → Rows K Hs (upd H q (.lst vs)) qs (rows.set i xs)
  | _, _, _, .nil, _, e => by simp at e
  | q0 :: qs, x0 :: rows, 0, .cons h d0 r, nd, e => by
    have e' : q0 = q := Option.some.inj e
    subst e'
    have nd' := List.nodup_cons.mp nd
    exact .cons upd_same d (r.mono (Ex.refl _) fun a ha u hu => by
      have ne : a ≠ q0 := fun z => nd'.1 (z ▸ ha)
      rw [upd_ne ne]; exact hu)
  | q0 :: qs, x0 :: rows, i + 1, .cons h d0 r, nd, e => by
    have nd' := List.nodup_cons.mp nd
    have hq : q ∈ qs := List.mem_of_getElem? (show qs[i]? = some q from e)
    have ne : q0 ≠ q := fun z => nd'.1 (z ▸ hq)
    exact .cons (by rw [upd_ne ne]; exact h) d0 (r.put d nd'.2 (i := i) e)
section
variable {K : PySem.W.Frag} {Z : Stat} {σ : L2.St} {H : Hp} {L : Ls} {T : List (V × C)}
theorem SR.newRows (S : SR K Z σ H L T) {p : Addr} (hp : H p = none) : SR K Z σ (upd H p (.lst [])) L (T ++ [(.ref p, .m [])]) := by
  obtain ⟨Hs, w, S⟩ := S
  have q := S.result (n := T.length) (Nat.le_refl _) (Grow.owned (u := .lst []) S.sub hp) (.m (qs := []) upd_same (by simp) .nil) (fun a ha => by
    have e : a = p := by simpa using ha
    subst e
    exact ⟨hp, none_sub S.sub hp⟩) fun _ _ e => .inl e
  rwa [List.take_length] at q
theorem SR.growR {p : Addr} {rows : List (List D)} {v : V} {xs : List D} (S : SR K Z σ H L (T ++ [(.ref p, .m rows)] ++ [(v, .l xs)])) : ∃ vs, H p = some (.lst vs) ∧ vs.length = rows.length ∧ SR K Z σ (upd H p (.lst (vs ++ [v]))) L (T ++ [(.ref p, .m (rows ++ [xs]))]) := by
  obtain ⟨Hs, w, S⟩ := S
  obtain ⟨o, r, ho⟩ := S.tmp T.length (.ref p, .m rows) (by rw [List.append_assoc, List.getElem?_append_right (Nat.le_refl _), Nat.sub_self]; rfl)
  obtain ⟨o2, r2, ho2⟩ := S.tmp (T ++ [(V.ref p, C.m rows)]).length (v, .l xs) (by rw [List.getElem?_append_right (Nat.le_refl _), Nat.sub_self]; rfl)
  have hlt : (T ++ [(V.ref p, C.m rows)]).length = T.length + 1 := by rw [List.length_append]; rfl
  rw [hlt] at ho2
  cases r with
  | m h1 nd h2 =>
    rename_i qs
    cases r2 with
    | l h3 h4 =>
      rename_i q ws
      have hp : w p = some (.inr T.length) := ho p (by simp)
      have hq : w q = some (.inr (T.length + 1)) := ho2 q (by simp)
      have ne : q ≠ p := fun z => by rw [z, hp] at hq; have := Sum.inr.inj (Option.some.inj hq); omega
      have nq : q ∉ qs := fun z => by
        have := ho q (List.mem_cons_of_mem _ z)
        rw [hq] at this
        have := Sum.inr.inj (Option.some.inj this)
        omega
      let w1 : Own := fun a => if w a = some (.inr (T.length + 1)) then some (.inr T.length) else w a
      have w1s : ∀ a t, w1 a = some t → ∃ t', w a = some t' := fun a t e => by
        have e2 : (if w a = some (.inr (T.length + 1)) then some (.inr T.length) else w a) = some t := e
        split at e2
        · rename_i z; exact ⟨_, z⟩
        · exact ⟨_, e2⟩
      have keepw : ∀ a t, w a = some t → t ≠ .inr (T.length + 1) → w1 a = some t := fun a t e n => by
        show (if w a = some (.inr (T.length + 1)) then _ else _) = _
        rw [if_neg (fun z => by rw [e] at z; exact n (Option.some.inj z))]
        exact e
      refine ⟨qs.map V.ref, h1, by rw [List.length_map]; exact h2.len, Hs, w1, S.grow, fun a u e => ?_, S.news, fun a t e => ?_, fun i c e => ?_, fun i vc e => ?_, fun a u e hP => ?_, S.rd, S.len, fun a zs e => by
        by_cases z : a = p
        · subst z; rw [upd_same] at e; cases e
        · rw [upd_ne z] at e; exact S.tups a zs e⟩
      · have : a ≠ p := fun z => by rw [z, (S.own p _ hp).1] at e; cases e
        rw [upd_ne this]
        exact S.sub a u e
      · obtain ⟨t', e'⟩ := w1s a t e
        exact S.own a t' e'
      · obtain ⟨v', o', q1, q2, q3⟩ := S.slot i c e
        refine ⟨v', o', q1, q2.mono (Ex.refl _) fun a ha u q => ?_, fun a ha => keepw a _ (q3 a ha) (by intro z; cases z)⟩
        have : a ≠ p := fun z => by rw [← z, q3 a ha] at hp; cases hp
        rw [upd_ne this]; exact q
      · by_cases hi : i < T.length
        · rw [List.getElem?_append_left hi] at e
          obtain ⟨o', q2, q3⟩ := S.tmp i vc (by rw [List.append_assoc, List.getElem?_append_left hi]; exact e)
          refine ⟨o', q2.mono (Ex.refl _) fun a ha u q => ?_, fun a ha => keepw a _ (q3 a ha) (by intro z; have := Sum.inr.inj z; omega)⟩
          have : a ≠ p := fun z => by rw [← z, q3 a ha] at hp; have := Sum.inr.inj (Option.some.inj hp); omega
          rw [upd_ne this]; exact q
        · rw [List.getElem?_append_right (by omega)] at e
          have h0 : i - T.length = 0 := by
            cases q : i - T.length with
            | zero => rfl
            | succ k => rw [q] at e; simp at e
          rw [h0] at e
          have e' : (V.ref p, C.m (rows ++ [xs])) = vc := Option.some.inj e
          subst e'
          have hin : i = T.length := by omega
          subst hin
          refine ⟨p :: (qs ++ [q]), .m (by rw [upd_same, List.map_append]; rfl) ?_ ?_, fun a ha => ?_⟩
          · obtain ⟨n1, n2⟩ := List.nodup_cons.mp nd
            refine List.nodup_cons.mpr ⟨?_, ?_⟩
            · rw [List.mem_append, not_or]
              exact ⟨n1, by simpa using Ne.symm ne⟩
            · rw [List.nodup_append]
              exact ⟨n2, by simp, fun a ha b hb => by
                have : b = q := by simpa using hb
                subst this
                exact fun z => nq (z ▸ ha)⟩
          · have n1 := (List.nodup_cons.mp nd).1
            refine Rows.snoc (by rw [upd_ne ne]; exact h3) h4 (h2.mono (Ex.refl _) fun a ha u hu => ?_)
            have ne2 : a ≠ p := fun z => n1 (z ▸ ha)
            rw [upd_ne ne2]
            exact hu
          · rcases List.mem_cons.mp ha with z | ha
            · subst z; exact keepw _ _ hp (by intro z; have := Sum.inr.inj z; omega)
            · rcases List.mem_append.mp ha with ha | ha
              · exact keepw _ _ (ho a (List.mem_cons_of_mem _ ha)) (by intro z; have := Sum.inr.inj z; omega)
              · have : a = q := by simpa using ha
                subst this
                show (if w a = some (.inr (T.length + 1)) then _ else _) = _
                rw [if_pos hq]
      · have : a ≠ p := fun z => by
          rcases (S.own p _ hp).2 with q | q
          · exact hP (z ▸ q)
          · rw [z, q] at e; cases e
        rw [upd_ne this]
        exact S.frame a u e hP
end
def rmM (vs : List Nat) (mt : MTg) (tst : MT) (elt : ME) : List D → List (List D) → Ls → Option (List (List D) × Ls)
  | [], acc, L => some (acc, L)
  | x :: xs, acc, L => match mt x L with
    | some L1 => match tst L1 with
      | some (true, L2) => match elt L2 with
        | some (.l c, L3) => rmM vs mt tst elt xs (acc ++ [c]) (wipeL L3 vs)
        | _ => none
      | some (false, L2) => rmM vs mt tst elt xs acc (wipeL L2 vs)
      | none => none
    | none => none
def mRm (vs : List Nat) (mi : MI) (mt : MTg) (tst : MT) (elt : ME) : ME := fun L => match mi L with
  | some (xs, L1) => if xs.length < sizeLine then match rmM vs mt tst elt xs [] (wipeL L1 vs) with
      | some (r, L2) => some (.m r, unwipe L1 L2 vs)
      | none => none
    else none
  | none => none
theorem rm_at {K : PySem.W.Frag} {vs js : List Nat} {wi : TI} {mi : MI} {g : TG} {mt : MTg} {tt : TT} {tst : MT} {te : TE} {elt : ME} {Z : Stat} {σ : L2.St} (hi : SIat K wi mi Z σ) (hg : ST K js g mt) (hj : ∀ j ∈ js, j ∈ vs) (ht : STt K tt tst) (he : SE K te elt) : SEat K (tLc wi g tt te vs) (mRm vs mi mt tst elt) Z σ := by
  intro H L T S c L' hm Q q
  unfold mRm at hm
  split at hm
  · rename_i xs L1 e1
    split at hm
    · rename_i hz
      split at hm
      · rename_i r L2 e2
        cases hm
        refine hi H L T S xs L1 e1 _ fun J H1 U S1 wk D hD => ?_
        obtain ⟨Uk, S2, hk⟩ := S1.keep vs
        have hr : ∀ i ∈ Z.ro, σ[i]? = Z.σ0[i]? := by
          obtain ⟨_, _, S0⟩ := S
          exact S0.rd
        have S3 : SR K Z.free (wipe σ vs) H1 (wipeL L1 vs) (T ++ U ++ Uk) := by
          obtain ⟨Hs, w, S0⟩ := S2
          exact ⟨Hs, w, S0.free.wipe vs⟩
        refine ⟨fun i m H' => ∃ L' acc, m = xs.length - i ∧ i ≤ xs.length ∧ acc.length ≤ i ∧ SR K Z.free (wipe σ vs) H' L' (T ++ U ++ Uk ++ [(.ref D, .m acc)]) ∧ rmM vs mt tst elt (xs.drop i) acc L' = some (r, L2),
          ⟨xs.length, wipeL L1 vs, [], by simp, Nat.zero_le _, Nat.le_refl _, S3.newRows hD, e2⟩, fun i m H' ⟨L', acc, em, hle, hacc, S4, hf⟩ => ?_⟩
        have S4' : SR K Z.free (wipe σ vs) H' L' (T ++ U ++ (Uk ++ [(.ref D, .m acc)])) := by rw [← List.append_assoc]; exact S4
        obtain ⟨w1, w2⟩ := wk Z.free (wipe σ vs) H' L' T (Uk ++ [(.ref D, .m acc)]) i rfl S4'
        by_cases hlt : i < xs.length
        · have hx : xs[i]? = some xs[i] := List.getElem?_eq_getElem hlt
          obtain ⟨go, yl⟩ := w1 _ hx
          rw [List.drop_eq_getElem_cons hlt] at hf
          unfold rmM at hf
          cases e3 : mt xs[i] L' with
          | none => rw [e3] at hf; cases hf
          | some L3 =>
            rw [e3] at hf
            simp only at hf
            cases e4 : tst L3 with
            | none => rw [e4] at hf; cases hf
            | some bl =>
              obtain ⟨b, L4⟩ := bl
              rw [e4] at hf
              refine .inr ⟨go, fun H3 => ∃ L' acc, acc.length ≤ i + 1 ∧ SR K Z.free (wipe σ vs) H3 L' (T ++ U ++ Uk ++ [(.ref D, .m acc)]) ∧ rmM vs mt tst elt (xs.drop (i + 1)) acc L' = some (r, L2),
                fun H3 ⟨L', acc, h1, h2, h3⟩ => ⟨m - 1, by omega, L', acc, by omega, hlt, h1, h2, h3⟩, fun v H3 y => ?_⟩
              have S5 := yl v H3 y
              refine hg Z.free (fun j _ => by simp) (wipe σ vs) H3 L' _ v _ S5 L3 e3 _ fun σ4 H4 S6 f4 l4 => ?_
              have ew : wipe σ4 vs = wipe σ vs := by
                rw [← wipe_wipe (σ := σ)]
                exact wipe_eq l4 fun i hi => f4 i fun hm => hi (hj i hm)
              refine ⟨ew, ht Z.free σ4 H4 L3 _ S6 b L4 e4 _ fun H5 S7 => ?_⟩
              have S7' : SR K Z.free σ4 H5 L4 (T ++ U ++ Uk ++ [(.ref D, .m acc)]) := by rw [← List.append_assoc] at S7; exact S7
              have back : ∀ {H6 : Hp} {L6 : Ls} {acc6 : List (List VS.D)}, SR K Z.free σ4 H6 L6 (T ++ U ++ Uk ++ [(.ref D, .m acc6)]) → SR K Z.free (wipe σ vs) H6 (wipeL L6 vs) (T ++ U ++ Uk ++ [(.ref D, .m acc6)]) := fun {H6 L6 acc6} S8 => by
                obtain ⟨Hs, w, S0⟩ := S8
                have := S0.wipe vs
                rw [ew] at this
                exact ⟨Hs, w, this⟩
              cases b with
              | false =>
                rw [if_neg (by decide)]
                exact ⟨_, acc, by omega, back S7', hf⟩
              | true =>
                rw [if_pos rfl]
                simp only at hf
                cases e5 : elt L4 with
                | none => rw [e5] at hf; cases hf
                | some cl =>
                  obtain ⟨c5, L5⟩ := cl
                  rw [e5] at hf
                  cases c5 with
                  | l c6 =>
                    refine he Z.free σ4 H5 L4 _ S7' _ _ e5 _ fun y6 H6 S8 => ?_
                    obtain ⟨ws, hD6, hl6, S9⟩ := S8.growR
                    exact ⟨ws, hD6, by omega, _, acc ++ [c6], by rw [List.length_append]; show acc.length + 1 ≤ i + 1; omega, back S9, hf⟩
                  | _ => cases hf
        · have ei : i = xs.length := by omega
          subst ei
          rw [List.drop_length] at hf
          cases hf
          refine .inl ⟨w2 (Nat.le_refl _), ?_⟩
          -- out of the block
          have S5 : SR K Z.free (wipe σ vs) H' L2 (T ++ U ++ (Uk ++ [(.ref D, .m r)])) := S4'
          have S6 := S5.leave (L0 := L1) (fun i hi x hx => by
            obtain ⟨v, h1, h2⟩ := hk i hi x hx
            exact ⟨v, h1, List.mem_append_left _ h2⟩) hr
          have S7 : SR K Z σ H' (unwipe L1 L2 vs) (T ++ (U ++ Uk) ++ [(.ref D, .m r)]) := by
            have e9 : T ++ U ++ (Uk ++ [(V.ref D, C.m r)]) = T ++ (U ++ Uk) ++ [(V.ref D, C.m r)] := by simp [List.append_assoc]
            rw [e9] at S6
            exact S6
          exact q _ H' S7.squeeze
      · cases hm
    · cases hm
  · cases hm
end VS

/-! two rows of a list of lists, by two names; names of builtin types; no promise -/
namespace VS
open PySem PySem.Spec L2
open Evl (Ex Ex.refl Ex.trans Ex.new)

section
variable {K : PySem.W.Frag} {Z : Stat} {σ : L2.St} {H Hs : Hp} {L : Ls} {T : List (V × C)} {w : Own}
/-- anything may be stored into a slot that is then unknown -/
theorem SRw.poke (S : SRw K Z σ H L T Hs w) {j : Nat} (hj : j ∉ Z.ro) (x : Option V) : SRw K Z (σ.set j x) H (L.set j none) T Hs w := by
  refine ⟨S.grow, S.sub, S.news, S.own, fun i c e => ?_, S.tmp, S.frame, fun i hi => ?_, by rw [List.length_set, List.length_set]; exact S.len, S.tups⟩
  · by_cases h : i = j
    · subst h
      rw [List.getElem?_set] at e
      split at e
      · split at e <;> cases e
      · rename_i q; exact absurd rfl q
    · rw [List.getElem?_set_ne (Ne.symm h)] at e
      obtain ⟨v, o, h1, h2, h3⟩ := S.slot i c e
      exact ⟨v, o, by rw [List.getElem?_set_ne (Ne.symm h)]; exact h1, h2, h3⟩
  · have : j ≠ i := fun z => hj (z ▸ hi)
    rw [List.getElem?_set_ne this]
    exact S.rd i hi
/-- one row is changed -/
theorem SRw.putRow (S : SRw K Z σ H L T Hs w) {m : Nat} {rows : List (List D)} {p q : Addr} {qs : List Addr} {i : Nat} {vs : List V} {xs : List D} (hL : L[m]? = some (some (.m rows))) (hσ : σ[m]? = some (some (.ref p))) (hp : H p = some (.lst (qs.map V.ref))) (nd : (p :: qs).Nodup)
    (hr : Rows K Hs H qs rows) (hq : qs[i]? = some q) (hw : ∀ a ∈ p :: qs, w a = some (.inl m)) (d : Dts K Hs vs xs) : SRw K Z σ (upd H q (.lst vs)) (L.set m (some (.m (rows.set i xs)))) T Hs w := by
  have hm : m < L.length := (List.getElem?_eq_some_iff.mp hL).1
  have mq : q ∈ qs := List.mem_of_getElem? hq
  have wq : w q = some (.inl m) := hw q (List.mem_cons_of_mem _ mq)
  have nd' := List.nodup_cons.mp nd
  have npq : p ≠ q := fun z => nd'.1 (z ▸ mq)
  refine ⟨S.grow, fun a u e => ?_, S.news, S.own, fun j c e => ?_, fun j vc e => ?_, fun a u e hP => ?_, S.rd, by rw [List.length_set]; exact S.len, fun a zs e => by
    by_cases z : a = q
    · subst z; rw [upd_same] at e; cases e
    · rw [upd_ne z] at e; exact S.tups a zs e⟩
  · have : a ≠ q := fun z => by rw [z, (S.own q _ wq).1] at e; cases e
    rw [upd_ne this]
    exact S.sub a u e
  · by_cases hj : j = m
    · subst hj
      rw [List.getElem?_set_self hm] at e
      have e' : C.m (rows.set i xs) = c := by simpa using e
      subst e'
      exact ⟨.ref p, p :: qs, hσ, .m (by rw [upd_ne npq]; exact hp) nd (hr.put d nd'.2 hq), hw⟩
    · rw [List.getElem?_set_ne (Ne.symm hj)] at e
      obtain ⟨v', o', q1, q2, q3⟩ := S.slot j c e
      refine ⟨v', o', q1, q2.mono (Ex.refl _) fun a ha u hu => ?_, q3⟩
      have : a ≠ q := fun z => by rw [← z, q3 a ha] at wq; exact hj (Sum.inl.inj (Option.some.inj wq))
      rw [upd_ne this]; exact hu
  · obtain ⟨o', q2, q3⟩ := S.tmp j vc e
    refine ⟨o', q2.mono (Ex.refl _) fun a ha u hu => ?_, q3⟩
    have : a ≠ q := fun z => by rw [← z, q3 a ha] at wq; cases wq
    rw [upd_ne this]; exact hu
  · have : a ≠ q := fun z => by
      rcases (S.own q _ wq).2 with q' | q'
      · exact hP (z ▸ q')
      · rw [z, q'] at e; cases e
    rw [upd_ne this]
    exact S.frame a u e hP
theorem SRw.dat (S : SRw K Z σ H L T Hs w) {i : Nat} {x : D} (h : L[i]? = some (some (.d x))) : ∃ v, σ[i]? = some (some v) ∧ Dt K Hs v x := by
  obtain ⟨v, o, h1, h2, _⟩ := S.slot i _ h
  exact ⟨v, h1, h2.data⟩
theorem SRw.itm (S : SRw K Z σ H L T Hs w) {i : Nat} {x : Int} (h : L[i]? = some (some (.d (.int x)))) : σ[i]? = some (some (.int x)) := by
  obtain ⟨v, h1, h2⟩ := S.dat h
  cases h2
  exact h1
end
def rdD (L : Ls) (i : Nat) : Option D := match L[i]? with
  | some (some (.d x)) => some x
  | _ => none
theorem rdD_eq {L : Ls} {i : Nat} {x : D} (h : rdD L i = some x) : L[i]? = some (some (.d x)) := by
  unfold rdD at h
  split at h
  · rename_i y e; cases h; exact e
  · cases h
def rdI (L : Ls) (i : Nat) : Option Int := match rdD L i with
  | some (.int n) => some n
  | _ => none
theorem rdI_eq {L : Ls} {i : Nat} {n : Int} (h : rdI L i = some n) : L[i]? = some (some (.d (.int n))) := by
  unfold rdI at h
  split at h
  · rename_i y e; cases h; exact rdD_eq e
  · cases h
/-- rows[i][j] = x -/
def putR (rows : List (List D)) (i j : Int) (x : D) : Option (List (List D)) := match ixN rows.length i with
  | some k => match rows[k]? with
    | some xs => (ixN xs.length j).map fun l => rows.set k (xs.set l x)
    | none => none
  | none => none
/-- f, s = m[a], m[b]; f[c] = n; s[d] = o -/
def mAl2 (m f s a b n c o d : Nat) : MS := fun L => match L[m]? with
  | some (some (.m rows)) => match rdI L a, rdI L b, rdI L c, rdI L d, rdD L n, rdD L o with
    | some ia, some ib, some ic, some id, some x, some y => match ixN rows.length ib with
      | some _ => match putR rows ia ic x with
        | some rows1 => match putR rows1 ib id y with
          | some rows2 => if f < L.length ∧ s < L.length then some (.nx (((L.set f none).set s none).set m (some (.m rows2)))) else none
          | none => none
        | none => none
      | none => none
    | _, _, _, _, _, _ => none
  | _ => none
theorem putR_inv {rows rows1 : List (List D)} {i j : Int} {x : D} (h : putR rows i j x = some rows1) : ∃ k xs l, ixN rows.length i = some k ∧ rows[k]? = some xs ∧ ixN xs.length j = some l ∧ rows1 = rows.set k (xs.set l x) := by
  unfold putR at h
  split at h
  · rename_i k e1
    split at h
    · rename_i xs e2
      cases e3 : ixN xs.length j with
      | none => rw [e3] at h; cases h
      | some l =>
        rw [e3] at h
        cases h
        exact ⟨k, xs, l, e1, e2, e3, rfl⟩
    · cases h
  · cases h
theorem set2_get {α : Type} {l : List α} {i j k : Nat} {x y : α} (h1 : k ≠ i) (h2 : k ≠ j) : ((l.set i x).set j y)[k]? = l[k]? := by
  rw [List.getElem?_set_ne (Ne.symm h2), List.getElem?_set_ne (Ne.symm h1)]
def tAl2 (K : PySem.W.Frag) (m f s a b n c o d : Nat) (u : TS) : TS := tSeq (tPar f s (tCons (tOp (rIxL K) (tVar m) (tVar a)) (tCons (tOp (rIxL K) (tVar m) (tVar b)) tNil))) (tSeq (tAsg (tVar n) (gSub (tVar f) (tVar c) rSetL)) (tSeq (tAsg (tVar o) (gSub (tVar s) (tVar d) rSetL)) u))
theorem ss_al2 {K : PySem.W.Frag} {ro : List Nat} {m f s a b n c o d : Nat} {u : TS} {mu : MS} (hr : SS K ro u mu) (hfs : f ≠ s) (hf : ∀ k ∈ [m, a, b, n, c, o, d], k ≠ f ∧ k ≠ s) (hfr : f ∉ ro) (hsr : s ∉ ro) : SS K ro (tAl2 K m f s a b n c o d u) (mSeq (mAl2 m f s a b n c o d) mu) := fun Z hz σ H L T S out hm D q => by
  unfold mSeq at hm
  split at hm
  · rename_i L1 e
    unfold mAl2 at e
    split at e
    · rename_i rows hL
      split at e
      · rename_i ia ib ic id x y ea eb ec ed en eo
        split at e
        · rename_i kb0 e1
          split at e
          · rename_i rows1 e2
            split at e
            · rename_i rows2 e3
              split at e
              · rename_i hl
                cases e
                obtain ⟨Hs, w, S0⟩ := S
                obtain ⟨vm, om, hσ, rm, hw⟩ := S0.slot m _ hL
                cases rm with
                | m h1 nd h2 =>
                  rename_i p qs
                  obtain ⟨ka, xa, la, f1, f2, f3, rfl⟩ := putR_inv e2
                  obtain ⟨kb, xb, lb, g1, g2, g3, rfl⟩ := putR_inv e3
                  obtain ⟨qa, va, q1, q2, q3⟩ := h2.get f2
                  obtain ⟨nv, hn, dn⟩ := S0.dat (rdD_eq en)
                  obtain ⟨ov, ho, dov⟩ := S0.dat (rdD_eq eo)
                  have hkb : kb < qs.length := by
                    rw [h2.len]
                    have := (List.getElem?_eq_some_iff.mp g2).1
                    simpa using this
                  have qbe : qs[kb]? = some qs[kb] := List.getElem?_eq_getElem hkb
                  have len : σ.length = L.length := S0.len.symm
                  have at1 : atI (qs.map V.ref) ia = some (.ref qa) := by
                    unfold atI
                    rw [List.length_map, h2.len, f1]
                    show (qs.map V.ref)[ka]? = _
                    rw [List.getElem?_map, q1]; rfl
                  have at2 : atI (qs.map V.ref) ib = some (.ref qs[kb]) := by
                    unfold atI
                    rw [List.length_map, h2.len]
                    rw [List.length_set] at g1
                    rw [g1]
                    show (qs.map V.ref)[kb]? = _
                    rw [List.getElem?_map, qbe]; rfl
                  have nm := hf m (by simp); have na := hf a (by simp); have nb := hf b (by simp); have nn := hf n (by simp); have nc := hf c (by simp); have no := hf o (by simp); have nd2 := hf d (by simp)
                  -- after the stores
                  have S1 : SRw K Z ((σ.set f (some (.ref qa))).set s (some (.ref qs[kb]))) H ((L.set f none).set s none) T Hs w := (S0.poke (by rw [hz]; exact hfr) _).poke (by rw [hz]; exact hsr) _
                  have gm : ((L.set f none).set s none)[m]? = some (some (.m rows)) := by rw [set2_get nm.1 nm.2]; exact hL
                  have σm : ((σ.set f (some (.ref qa))).set s (some (.ref qs[kb])))[m]? = some (some (.ref p)) := by rw [set2_get nm.1 nm.2]; exact hσ
                  have S2 := S1.putRow gm σm h1 nd h2 q1 hw (q3.set dn la)
                  have pl : m < ((L.set f none).set s none).length := (List.getElem?_eq_some_iff.mp gm).1
                  have h3 := h2.put (q3.set dn la) (List.nodup_cons.mp nd).2 q1
                  have npq : p ≠ qa := fun z => (List.nodup_cons.mp nd).1 (z ▸ List.mem_of_getElem? q1)
                  obtain ⟨qb, vb, r1, r2, r3⟩ := h3.get g2
                  have eqb : qb = qs[kb] := by rw [qbe] at r1; exact (Option.some.inj r1).symm
                  subst eqb
                  have S3 := S2.putRow (by rw [List.getElem?_set_self pl]) σm (by rw [upd_ne npq]; exact h1) nd h3 r1 hw (r3.set dov lb)
                  rw [List.set_set] at S3
                  refine ⟨.ref p, hσ, .int ia, S0.itm (rdI_eq ea), p, _, ia, .ref qa, rfl, rfl, .inl (.inl h1), at1, .ref p, hσ, .int ib, S0.itm (rdI_eq eb), p, _, ib, .ref qs[kb], rfl, rfl, .inl (.inl h1), at2, .ref qa, .ref qs[kb], rfl, ?_⟩
                  refine ⟨nv, by rw [set2_get nn.1 nn.2]; exact hn, .ref qa, by rw [List.getElem?_set_ne hfs.symm, List.getElem?_set_self (by rw [len]; exact hl.1)], .int ic, by rw [set2_get nc.1 nc.2]; exact S0.itm (rdI_eq ec), qa, va, ic, la, rfl, rfl, q2, by rw [q3.len]; exact f3, ?_⟩
                  refine ⟨ov, by rw [set2_get no.1 no.2]; exact ho, .ref qs[kb], by rw [List.getElem?_set_self (by rw [List.length_set, len]; exact hl.2)], .int id, by rw [set2_get nd2.1 nd2.2]; exact S0.itm (rdI_eq ed), qs[kb], vb, id, lb, rfl, rfl, r2, by rw [r3.len]; exact g3, ?_⟩
                  exact hr Z hz _ _ _ T ⟨Hs, w, S3⟩ out hm D q
              · cases e
            · cases e
          · cases e
        · cases e
      · cases e
    · cases e
  · rename_i hn
    cases out with
    | nx L1 => exact absurd hm (hn L1)
    | _ =>
      unfold mAl2 at hm
      split at hm
      · split at hm
        · split at hm
          · split at hm
            · split at hm
              · split at hm <;> cases hm
              · cases hm
            · cases hm
          · cases hm
        · cases hm
      · cases hm
end VS

/-! the last rules -/
namespace VS
open PySem PySem.Spec L2
open Evl (Ex Ex.refl Ex.trans Ex.new)

theorem js_al2 {X : Cx} {ro : List Nat} {xm xf xs xa xb xn xc xo xd : PySem.Str} {rest : List Stmt} {u : TS} {mu : MS} {pf ps_ pt pm1 pm2 pa pb p1 p2 pt2 pos1 pf' pc p3 pn pos2 ps' pd p4 po pos3 : Pos} {kt k2} (m f s a b n c o d : Nat) (hc : X.calm = true) (hN : X.N.Nodup) (hr : JSs X ro rest u mu)
    (hfs : f ≠ s := by decide) (hf : ∀ k ∈ [m, a, b, n, c, o, d], k ≠ f ∧ k ≠ s := by decide) (hfr : f ∉ ro := by decide) (hsr : s ∉ ro := by decide)
    (im : X.N[m]? = some xm := by rfl) (if_ : X.N[f]? = some xf := by rfl) (is : X.N[s]? = some xs := by rfl) (ia : X.N[a]? = some xa := by rfl) (ib : X.N[b]? = some xb := by rfl) (in_ : X.N[n]? = some xn := by rfl) (ic : X.N[c]? = some xc := by rfl) (io : X.N[o]? = some xo := by rfl) (id : X.N[d]? = some xd := by rfl)
    (vm : Vis X.env.scope xm := by first | exact Or.inl rfl | exact Or.inr (Or.inl rfl)) (va : Vis X.env.scope xa := by first | exact Or.inl rfl | exact Or.inr (Or.inl rfl)) (vb : Vis X.env.scope xb := by first | exact Or.inl rfl | exact Or.inr (Or.inl rfl)) (vn : Vis X.env.scope xn := by first | exact Or.inl rfl | exact Or.inr (Or.inl rfl))
    (vc : Vis X.env.scope xc := by first | exact Or.inl rfl | exact Or.inr (Or.inl rfl)) (vo : Vis X.env.scope xo := by first | exact Or.inl rfl | exact Or.inr (Or.inl rfl)) (vd : Vis X.env.scope xd := by first | exact Or.inl rfl | exact Or.inr (Or.inl rfl))
    (lf : X.env.scope.names.lookup xf = some .local := by rfl) (ls : X.env.scope.names.lookup xs = some .local := by rfl)
    (dm : (xm == ("__debug__" : PySem.Str)) = false := by decide) (df : (xf == ("__debug__" : PySem.Str)) = false := by decide) (ds : (xs == ("__debug__" : PySem.Str)) = false := by decide) (da : (xa == ("__debug__" : PySem.Str)) = false := by decide) (db : (xb == ("__debug__" : PySem.Str)) = false := by decide) (dn : (xn == ("__debug__" : PySem.Str)) = false := by decide) (dc : (xc == ("__debug__" : PySem.Str)) = false := by decide) (do_ : (xo == ("__debug__" : PySem.Str)) = false := by decide) (dd : (xd == ("__debug__" : PySem.Str)) = false := by decide)
    (em : (xm == ("__classdict__" : PySem.Str)) = false := by decide) (ef : (xf == ("__classdict__" : PySem.Str)) = false := by decide) (es : (xs == ("__classdict__" : PySem.Str)) = false := by decide) (ea : (xa == ("__classdict__" : PySem.Str)) = false := by decide) (eb : (xb == ("__classdict__" : PySem.Str)) = false := by decide) (en : (xn == ("__classdict__" : PySem.Str)) = false := by decide) (ec : (xc == ("__classdict__" : PySem.Str)) = false := by decide) (eo : (xo == ("__classdict__" : PySem.Str)) = false := by decide) (ed : (xd == ("__classdict__" : PySem.Str)) = false := by decide)
    (hw : swappedStores [.Tuple [.Name xf pf, .Name xs ps_] kt pt] (.Tuple [.Subscript (.Name xm pm1) (.Name xa pa) p1, .Subscript (.Name xm pm2) (.Name xb pb) p2] k2 pt2) X.env = pure (some [xf, xs]) := by rfl)
    (hs : swapsWithSole [.Tuple [.Name xf pf, .Name xs ps_] kt pt] (.Tuple [.Subscript (.Name xm pm1) (.Name xa pa) p1, .Subscript (.Name xm pm2) (.Name xb pb) p2] k2 pt2) pos1.line X.env = pure false := by rfl)
    (hst : starEach [.Subscript (.Name xm pm1) (.Name xa pa) p1, .Subscript (.Name xm pm2) (.Name xb pb) p2] X.env = (false, eval (.Subscript (.Name xm pm1) (.Name xa pa) p1) X.env) :: starEach [.Subscript (.Name xm pm2) (.Name xb pb) p2] X.env := by rfl)
    (hst2 : starEach [.Subscript (.Name xm pm2) (.Name xb pb) p2] X.env = (false, eval (.Subscript (.Name xm pm2) (.Name xb pb) p2) X.env) :: starEach [] X.env := by rfl)
    (ha2 : ∀ v, assign (.Subscript (.Name xf pf') (.Name xc pc) p3) X.env v = (do
      let ov ← holding [v] (eval (.Name xf pf') X.env)
      let iv ← holding [v, ov] (eval (.Name xc pc) X.env)
      standAt p3
      holding [v, ov, iv] (setItem ov iv v)
      release [v, ov, iv] []) := by intro _; rfl)
    (hs2 : swapsWithSole [.Subscript (.Name xf pf') (.Name xc pc) p3] (.Name xn pn) pos2.line X.env = pure false := by rfl) (hw2 : swappedStores [.Subscript (.Name xf pf') (.Name xc pc) p3] (.Name xn pn) X.env = pure none := by rfl)
    (h12 : (assignEach [.Subscript (.Name xf pf') (.Name xc pc) p3] X.env).map (·.2) = [assign (.Subscript (.Name xf pf') (.Name xc pc) p3) X.env] := by rfl)
    (ha3 : ∀ v, assign (.Subscript (.Name xs ps') (.Name xd pd) p4) X.env v = (do
      let ov ← holding [v] (eval (.Name xs ps') X.env)
      let iv ← holding [v, ov] (eval (.Name xd pd) X.env)
      standAt p4
      holding [v, ov, iv] (setItem ov iv v)
      release [v, ov, iv] []) := by intro _; rfl)
    (hs3 : swapsWithSole [.Subscript (.Name xs ps') (.Name xd pd) p4] (.Name xo po) pos3.line X.env = pure false := by rfl) (hw3 : swappedStores [.Subscript (.Name xs ps') (.Name xd pd) p4] (.Name xo po) X.env = pure none := by rfl)
    (h13 : (assignEach [.Subscript (.Name xs ps') (.Name xd pd) p4] X.env).map (·.2) = [assign (.Subscript (.Name xs ps') (.Name xd pd) p4) X.env] := by rfl) :
    JSs X ro (.Assign [.Tuple [.Name xf pf, .Name xs ps_] kt pt] (.Tuple [.Subscript (.Name xm pm1) (.Name xa pa) p1, .Subscript (.Name xm pm2) (.Name xb pb) p2] k2 pt2) pos1 :: .Assign [.Subscript (.Name xf pf') (.Name xc pc) p3] (.Name xn pn) pos2 :: .Assign [.Subscript (.Name xs ps') (.Name xd pd) p4] (.Name xo po) pos3 :: rest)
      (tAl2 X.K m f s a b n c o d u) (mSeq (mAl2 m f s a b n c o d) mu) :=
  ⟨pss_cons (ps_par hc hN if_ is hfs lf ls (pa_cons (pe_ix ix_list (pe_var im vm dm em) (pe_var ia va da ea) (fun _ _ => rfl)) (pa_cons (pe_ix ix_list (pe_var im vm dm em) (pe_var ib vb db eb) (fun _ _ => rfl)) pa_nil hst2) hst) hw hs)
    (pss_cons (ps_asg (pe_var in_ vn dn en) (pg_sub (pe_var if_ (.inl lf) df ef) (pe_var ic vc dc ec) set_list ha2) hs2 hw2 h12)
      (pss_cons (ps_asg (pe_var io vo do_ eo) (pg_sub (pe_var is (.inl ls) ds es) (pe_var id vd dd ed) set_list ha3) hs3 hw3 h13) hr.ps)),
    ss_al2 hr.ss hfs hf hfr hsr⟩
/-- a builtin type's name -/
theorem je_ty {X : Cx} {x : PySem.Str} {T : String} {pos : Pos} (hg : Gl X x) (hm : X.mg x = none) (hv : bootBuiltins x = some (.type T)) (hn : x ≠ "__name__" := by decide) (hd : (x == ("__debug__" : PySem.Str)) = false := by decide) : JE X (.Name x pos) (tC (.ty T)) (mC (.ty T)) :=
  ⟨pe_bltn hg hm hv rfl hn hd, se_c fun _ => .ty T⟩
theorem FnG.none {P : Program} {w : World} {K : PySem.W.Frag} {mg : PySem.Str → Option Value} {base : Heap} {k : Nat} {f : Addr} {fd : FuncData} {ps : List PySem.Str} : FnG P w K mg base k f fd ps (fun _ => none) :=
  ⟨fun A fr st H ags us vs Q E _ _ _ _ _ ⟨_, Hs, w, tgs, cs, cs', c, p, hm, q⟩ => (nomatch hm)⟩
theorem hu66 {A : Around} {k : Nat} (hr : Room k A) : A.units + 66 < cLine := by have := hr.un; omega
theorem hu65 {A : Around} {k : Nat} (hr : Room k A) : A.units + 65 < cLine := by have := hr.un; omega
theorem hu1 {A : Around} {k : Nat} (hr : Room k A) : A.units + 1 < cLine := by have := hr.un; omega
/-- rows = [own list for ..] -/
theorem js_setRm {X : Cx} {ro : List Nat} {elt tg iter : Expr} {ifs : List Expr} {scope : Scope} {js : List Nat} {wi : TI} {mi : MI} {g : TG} {mt : MTg} {tt : TT} {tst : MT} {te : TE} {me : ME} {pos : Pos} (i : Nat) {y : PySem.Str} {py spos : Pos} (own : List (PySem.Str × Nat)) {ok : BlkOk X.N X.env.scope scope own} (hc : X.calm = true) (hN : X.N.Nodup) (hi : JI X tg iter wi mi)
    (hg : ∀ (s : Shared) (H : Hp) (C : Addr) (cl : List (PySem.Str × Addr)) (fp : List Addr), JTg (X.blk s H scope (compEnvC scope cl C X.env) fp) tg js g mt)
    (ht : ∀ (s : Shared) (H : Hp) (C : Addr) (cl : List (PySem.Str × Addr)) (fp : List Addr), JTsts (X.blk s H scope (compEnvC scope cl C X.env) fp) ifs tt tst)
    (he : ∀ (s : Shared) (H : Hp) (C : Addr) (cl : List (PySem.Str × Addr)) (fp : List Addr), JE (X.blk s H scope (compEnvC scope cl C X.env) fp) elt te me)
    (hro : i ∉ ro := by decide) (hj : ∀ j ∈ js, j ∈ own.map (·.2) := by decide) (hy : X.N[i]? = some y := by rfl) (hyl : X.env.scope.names.lookup y = some .local := by rfl)
    (hsw : swapsWith (.ListComp elt [⟨tg, iter, ifs, 0⟩] scope pos) (some (.Name y py)) spos.line X.env = pure true := by exact sw_true rfl rfl rfl (by decide +kernel)) (hs : ∀ x, foldedSetIterable iter X.env x = pure x := by intro _; rfl) :
    JS X ro (.Assign [.Name y py] (.ListComp elt [⟨tg, iter, ifs, 0⟩] scope pos) spos) (tAsg (tLc wi g tt te (own.map (·.2))) (gName i)) (mSet i (mRm (own.map (·.2)) mi mt tst me)) :=
  ⟨ps_setLc hc hN hy hyl hsw hi.pi ok (fun s H C cl fp => (hg s H C cl fp).pg) (fun s H C cl fp => (ht s H C cl fp).pts) (fun s H C cl fp => (he s H C cl fp).pe) hs,
    ss_set (fun Z σ => rm_at (hi.si Z σ) (hg {} (fun _ => none) 0 [] []).st hj (ht {} (fun _ => none) 0 [] []).st (he {} (fun _ => none) 0 [] []).se) hro⟩
end VS

/-! comprehensions whose parts' readings name the block -/
namespace VS
open PySem PySem.Spec L2
open Evl (Ex Ex.refl Ex.trans Ex.new)
abbrev B5 (α : Type _) := Shared → Hp → Addr → List (PySem.Str × Addr) → List Addr → α
abbrev z5 {α : Type _} (f : Shared → Hp → Addr → List (PySem.Str × Addr) → List Addr → α) : α := f {} (fun _ => none) 0 [] []
section
variable {X : Cx} {elt tg iter tg1 iter1 : Expr} {ifs ifs1 : List Expr} {scope : Scope} {js js1 ro : List Nat} {wi : TI} {wi1 : Shared → Hp → Addr → List (PySem.Str × Addr) → List Addr → TI} {mi mi1 : MI} {g g1 : Shared → Hp → Addr → List (PySem.Str × Addr) → List Addr → TG} {mt mt1 : MTg} {tt tt1 : Shared → Hp → Addr → List (PySem.Str × Addr) → List Addr → TT} {tst tst1 : MT} {te : Shared → Hp → Addr → List (PySem.Str × Addr) → List Addr → TE} {me : ME} {pos p : Pos} {y : PySem.Str} {py spos : Pos}
theorem je_lcB (own : List (PySem.Str × Nat)) {ok : BlkOk X.N X.env.scope scope own} (hc : X.calm = true) (hN : X.N.Nodup) (hi : JI X tg iter wi mi)
    (hg : ∀ (s : Shared) (H : Hp) (C : Addr) (cl : List (PySem.Str × Addr)) (fp : List Addr), JTg (X.blk s H scope (compEnvC scope cl C X.env) fp) tg js (g s H C cl fp) mt)
    (ht : ∀ (s : Shared) (H : Hp) (C : Addr) (cl : List (PySem.Str × Addr)) (fp : List Addr), JTsts (X.blk s H scope (compEnvC scope cl C X.env) fp) ifs (tt s H C cl fp) tst)
    (he : ∀ (s : Shared) (H : Hp) (C : Addr) (cl : List (PySem.Str × Addr)) (fp : List Addr), JE (X.blk s H scope (compEnvC scope cl C X.env) fp) elt (te s H C cl fp) me)
    (hj : ∀ j ∈ js, j ∈ own.map (·.2) := by decide) (hs : ∀ x, foldedSetIterable iter X.env x = pure x := by intro _; rfl) (eg : ∀ (s : Shared) (H : Hp) (C : Addr) (cl : List (PySem.Str × Addr)) (fp : List Addr), g s H C cl fp = z5 g := by intros; rfl) (et : ∀ (s : Shared) (H : Hp) (C : Addr) (cl : List (PySem.Str × Addr)) (fp : List Addr), tt s H C cl fp = z5 tt := by intros; rfl) (ee : ∀ (s : Shared) (H : Hp) (C : Addr) (cl : List (PySem.Str × Addr)) (fp : List Addr), te s H C cl fp = z5 te := by intros; rfl) :
    JE X (.ListComp elt [⟨tg, iter, ifs, 0⟩] scope pos) (tLc wi (z5 g) (z5 tt) (z5 te) (own.map (·.2))) (mLc (own.map (·.2)) mi mt tst me) :=
  je_lc own (ok := ok) hc hN hi (fun s H C cl fp => eg s H C cl fp ▸ hg s H C cl fp) (fun s H C cl fp => et s H C cl fp ▸ ht s H C cl fp) (fun s H C cl fp => ee s H C cl fp ▸ he s H C cl fp) hj hs
theorem js_setLcB (i : Nat) (own : List (PySem.Str × Nat)) {ok : BlkOk X.N X.env.scope scope own} (hc : X.calm = true) (hN : X.N.Nodup) (hi : JI X tg iter wi mi)
    (hg : ∀ (s : Shared) (H : Hp) (C : Addr) (cl : List (PySem.Str × Addr)) (fp : List Addr), JTg (X.blk s H scope (compEnvC scope cl C X.env) fp) tg js (g s H C cl fp) mt)
    (ht : ∀ (s : Shared) (H : Hp) (C : Addr) (cl : List (PySem.Str × Addr)) (fp : List Addr), JTsts (X.blk s H scope (compEnvC scope cl C X.env) fp) ifs (tt s H C cl fp) tst)
    (he : ∀ (s : Shared) (H : Hp) (C : Addr) (cl : List (PySem.Str × Addr)) (fp : List Addr), JE (X.blk s H scope (compEnvC scope cl C X.env) fp) elt (te s H C cl fp) me)
    (hro : i ∉ ro := by decide) (hj : ∀ j ∈ js, j ∈ own.map (·.2) := by decide) (hy : X.N[i]? = some y := by rfl) (hyl : X.env.scope.names.lookup y = some .local := by rfl) (hsw : swapsWith (.ListComp elt [⟨tg, iter, ifs, 0⟩] scope pos) (some (.Name y py)) spos.line X.env = pure true := by exact sw_true rfl rfl rfl (by decide +kernel)) (hs : ∀ x, foldedSetIterable iter X.env x = pure x := by intro _; rfl) (eg : ∀ (s : Shared) (H : Hp) (C : Addr) (cl : List (PySem.Str × Addr)) (fp : List Addr), g s H C cl fp = z5 g := by intros; rfl) (et : ∀ (s : Shared) (H : Hp) (C : Addr) (cl : List (PySem.Str × Addr)) (fp : List Addr), tt s H C cl fp = z5 tt := by intros; rfl) (ee : ∀ (s : Shared) (H : Hp) (C : Addr) (cl : List (PySem.Str × Addr)) (fp : List Addr), te s H C cl fp = z5 te := by intros; rfl) :
    JS X ro (.Assign [.Name y py] (.ListComp elt [⟨tg, iter, ifs, 0⟩] scope pos) spos) (tAsg (tLc wi (z5 g) (z5 tt) (z5 te) (own.map (·.2))) (gName i)) (mSet i (mLc (own.map (·.2)) mi mt tst me)) :=
  js_setLc i own (ok := ok) hc hN hi (fun s H C cl fp => eg s H C cl fp ▸ hg s H C cl fp) (fun s H C cl fp => et s H C cl fp ▸ ht s H C cl fp) (fun s H C cl fp => ee s H C cl fp ▸ he s H C cl fp) hro hj hy hyl hsw hs
theorem js_setRmB (i : Nat) (own : List (PySem.Str × Nat)) {ok : BlkOk X.N X.env.scope scope own} (hc : X.calm = true) (hN : X.N.Nodup) (hi : JI X tg iter wi mi)
    (hg : ∀ (s : Shared) (H : Hp) (C : Addr) (cl : List (PySem.Str × Addr)) (fp : List Addr), JTg (X.blk s H scope (compEnvC scope cl C X.env) fp) tg js (g s H C cl fp) mt)
    (ht : ∀ (s : Shared) (H : Hp) (C : Addr) (cl : List (PySem.Str × Addr)) (fp : List Addr), JTsts (X.blk s H scope (compEnvC scope cl C X.env) fp) ifs (tt s H C cl fp) tst)
    (he : ∀ (s : Shared) (H : Hp) (C : Addr) (cl : List (PySem.Str × Addr)) (fp : List Addr), JE (X.blk s H scope (compEnvC scope cl C X.env) fp) elt (te s H C cl fp) me)
    (hro : i ∉ ro := by decide) (hj : ∀ j ∈ js, j ∈ own.map (·.2) := by decide) (hy : X.N[i]? = some y := by rfl) (hyl : X.env.scope.names.lookup y = some .local := by rfl) (hsw : swapsWith (.ListComp elt [⟨tg, iter, ifs, 0⟩] scope pos) (some (.Name y py)) spos.line X.env = pure true := by exact sw_true rfl rfl rfl (by decide +kernel)) (hs : ∀ x, foldedSetIterable iter X.env x = pure x := by intro _; rfl) (eg : ∀ (s : Shared) (H : Hp) (C : Addr) (cl : List (PySem.Str × Addr)) (fp : List Addr), g s H C cl fp = z5 g := by intros; rfl) (et : ∀ (s : Shared) (H : Hp) (C : Addr) (cl : List (PySem.Str × Addr)) (fp : List Addr), tt s H C cl fp = z5 tt := by intros; rfl) (ee : ∀ (s : Shared) (H : Hp) (C : Addr) (cl : List (PySem.Str × Addr)) (fp : List Addr), te s H C cl fp = z5 te := by intros; rfl) :
    JS X ro (.Assign [.Name y py] (.ListComp elt [⟨tg, iter, ifs, 0⟩] scope pos) spos) (tAsg (tLc wi (z5 g) (z5 tt) (z5 te) (own.map (·.2))) (gName i)) (mSet i (mRm (own.map (·.2)) mi mt tst me)) :=
  js_setRm i own (ok := ok) hc hN hi (fun s H C cl fp => eg s H C cl fp ▸ hg s H C cl fp) (fun s H C cl fp => et s H C cl fp ▸ ht s H C cl fp) (fun s H C cl fp => ee s H C cl fp ▸ he s H C cl fp) hro hj hy hyl hsw hs
theorem je_lcKB (i : Nat) (own : List (PySem.Str × Nat)) {x : PySem.Str} {ok : BlkOk X.N X.env.scope scope own} (hc : X.calm = true) (hN : X.N.Nodup)
    (hg : ∀ (s : Shared) (H : Hp) (C : Addr) (cl : List (PySem.Str × Addr)) (fp : List Addr), JTg (X.blk s H scope (compEnvC scope cl C X.env) fp) tg js (g s H C cl fp) mt)
    (ht : ∀ (s : Shared) (H : Hp) (C : Addr) (cl : List (PySem.Str × Addr)) (fp : List Addr), JTsts (X.blk s H scope (compEnvC scope cl C X.env) fp) ifs (tt s H C cl fp) tst)
    (he : ∀ (s : Shared) (H : Hp) (C : Addr) (cl : List (PySem.Str × Addr)) (fp : List Addr), JE (X.blk s H scope (compEnvC scope cl C X.env) fp) elt (te s H C cl fp) me)
    (hj : ∀ j ∈ js, j ∈ own.map (·.2) := by decide) (hn : X.N[i]? = some x := by rfl) (hv : Vis X.env.scope x := by first | exact Or.inl rfl | exact Or.inr (Or.inl rfl) | exact Or.inr (Or.inr rfl)) (hd : (x == ("__debug__" : PySem.Str)) = false := by decide)
    (hcd : (x == ("__classdict__" : PySem.Str)) = false := by decide) (hs : ∀ z, foldedSetIterable (.Name x p) X.env z = pure z := by intro _; rfl) (eg : ∀ (s : Shared) (H : Hp) (C : Addr) (cl : List (PySem.Str × Addr)) (fp : List Addr), g s H C cl fp = z5 g := by intros; rfl) (et : ∀ (s : Shared) (H : Hp) (C : Addr) (cl : List (PySem.Str × Addr)) (fp : List Addr), tt s H C cl fp = z5 tt := by intros; rfl) (ee : ∀ (s : Shared) (H : Hp) (C : Addr) (cl : List (PySem.Str × Addr)) (fp : List Addr), te s H C cl fp = z5 te := by intros; rfl) :
    JE X (.ListComp elt [⟨tg, .Name x p, ifs, 0⟩] scope pos) (tLk (tLc (iKeys (tVar i)) (z5 g) (z5 tt) (z5 te) (own.map (·.2)))) (mLk i (mLc (own.map (·.2)) (miKeys i) mt tst me)) :=
  je_lcK i own (ok := ok) hc hN (fun s H C cl fp => eg s H C cl fp ▸ hg s H C cl fp) (fun s H C cl fp => et s H C cl fp ▸ ht s H C cl fp) (fun s H C cl fp => ee s H C cl fp ▸ he s H C cl fp) hj hn hv hd hcd hs
theorem je_lc2B (own : List (PySem.Str × Nat)) (vs1 : List Nat) {ok : BlkOk X.N X.env.scope scope own} (hc : X.calm = true) (hN : X.N.Nodup) (hi : JI X tg iter wi mi)
    (hg : ∀ (s : Shared) (H : Hp) (C : Addr) (cl : List (PySem.Str × Addr)) (fp : List Addr), JTg (X.blk s H scope (compEnvC scope cl C X.env) fp) tg js (g s H C cl fp) mt)
    (ht : ∀ (s : Shared) (H : Hp) (C : Addr) (cl : List (PySem.Str × Addr)) (fp : List Addr), JTsts (X.blk s H scope (compEnvC scope cl C X.env) fp) ifs (tt s H C cl fp) tst)
    (hi1 : ∀ (s : Shared) (H : Hp) (C : Addr) (cl : List (PySem.Str × Addr)) (fp : List Addr), JI (X.blk s H scope (compEnvC scope cl C X.env) fp) tg1 iter1 (wi1 s H C cl fp) mi1)
    (hg1 : ∀ (s : Shared) (H : Hp) (C : Addr) (cl : List (PySem.Str × Addr)) (fp : List Addr), JTg (X.blk s H scope (compEnvC scope cl C X.env) fp) tg1 js1 (g1 s H C cl fp) mt1)
    (ht1 : ∀ (s : Shared) (H : Hp) (C : Addr) (cl : List (PySem.Str × Addr)) (fp : List Addr), JTsts (X.blk s H scope (compEnvC scope cl C X.env) fp) ifs1 (tt1 s H C cl fp) tst1)
    (he : ∀ (s : Shared) (H : Hp) (C : Addr) (cl : List (PySem.Str × Addr)) (fp : List Addr), JE (X.blk s H scope (compEnvC scope cl C X.env) fp) elt (te s H C cl fp) me)
    (hj : ∀ j ∈ js, j ∈ own.map (·.2) := by decide) (hj1 : ∀ j ∈ js1, j ∈ vs1 := by decide) (hv : ∀ i ∈ vs1, i ∈ own.map (·.2) := by decide) (hs : ∀ x, foldedSetIterable iter X.env x = pure x := by intro _; rfl) (hs1 : ∀ env x, foldedSetIterable iter1 env x = pure x := by intro _ _; rfl) (eg : ∀ (s : Shared) (H : Hp) (C : Addr) (cl : List (PySem.Str × Addr)) (fp : List Addr), g s H C cl fp = z5 g := by intros; rfl) (et : ∀ (s : Shared) (H : Hp) (C : Addr) (cl : List (PySem.Str × Addr)) (fp : List Addr), tt s H C cl fp = z5 tt := by intros; rfl) (ee : ∀ (s : Shared) (H : Hp) (C : Addr) (cl : List (PySem.Str × Addr)) (fp : List Addr), te s H C cl fp = z5 te := by intros; rfl) (ei1 : ∀ (s : Shared) (H : Hp) (C : Addr) (cl : List (PySem.Str × Addr)) (fp : List Addr), wi1 s H C cl fp = z5 wi1 := by intros; rfl) (eg1 : ∀ (s : Shared) (H : Hp) (C : Addr) (cl : List (PySem.Str × Addr)) (fp : List Addr), g1 s H C cl fp = z5 g1 := by intros; rfl) (et1 : ∀ (s : Shared) (H : Hp) (C : Addr) (cl : List (PySem.Str × Addr)) (fp : List Addr), tt1 s H C cl fp = z5 tt1 := by intros; rfl) :
    JE X (.ListComp elt [⟨tg, iter, ifs, 0⟩, ⟨tg1, iter1, ifs1, 0⟩] scope pos) (tLc2 wi (z5 g) (z5 tt) (z5 wi1) (z5 g1) (z5 tt1) (z5 te) (own.map (·.2)) vs1) (mLc2 (own.map (·.2)) vs1 mi mt tst mi1 mt1 tst1 me) :=
  je_lc2 own vs1 (ok := ok) hc hN hi (fun s H C cl fp => eg s H C cl fp ▸ hg s H C cl fp) (fun s H C cl fp => et s H C cl fp ▸ ht s H C cl fp) (fun s H C cl fp => ei1 s H C cl fp ▸ hi1 s H C cl fp) (fun s H C cl fp => eg1 s H C cl fp ▸ hg1 s H C cl fp) (fun s H C cl fp => et1 s H C cl fp ▸ ht1 s H C cl fp) (fun s H C cl fp => ee s H C cl fp ▸ he s H C cl fp) hj hj1 hv hs hs1
theorem js_setLc2B (i : Nat) (own : List (PySem.Str × Nat)) (vs1 : List Nat) {ok : BlkOk X.N X.env.scope scope own} (hc : X.calm = true) (hN : X.N.Nodup) (hi : JI X tg iter wi mi)
    (hg : ∀ (s : Shared) (H : Hp) (C : Addr) (cl : List (PySem.Str × Addr)) (fp : List Addr), JTg (X.blk s H scope (compEnvC scope cl C X.env) fp) tg js (g s H C cl fp) mt)
    (ht : ∀ (s : Shared) (H : Hp) (C : Addr) (cl : List (PySem.Str × Addr)) (fp : List Addr), JTsts (X.blk s H scope (compEnvC scope cl C X.env) fp) ifs (tt s H C cl fp) tst)
    (hi1 : ∀ (s : Shared) (H : Hp) (C : Addr) (cl : List (PySem.Str × Addr)) (fp : List Addr), JI (X.blk s H scope (compEnvC scope cl C X.env) fp) tg1 iter1 (wi1 s H C cl fp) mi1)
    (hg1 : ∀ (s : Shared) (H : Hp) (C : Addr) (cl : List (PySem.Str × Addr)) (fp : List Addr), JTg (X.blk s H scope (compEnvC scope cl C X.env) fp) tg1 js1 (g1 s H C cl fp) mt1)
    (ht1 : ∀ (s : Shared) (H : Hp) (C : Addr) (cl : List (PySem.Str × Addr)) (fp : List Addr), JTsts (X.blk s H scope (compEnvC scope cl C X.env) fp) ifs1 (tt1 s H C cl fp) tst1)
    (he : ∀ (s : Shared) (H : Hp) (C : Addr) (cl : List (PySem.Str × Addr)) (fp : List Addr), JE (X.blk s H scope (compEnvC scope cl C X.env) fp) elt (te s H C cl fp) me)
    (hro : i ∉ ro := by decide) (hj : ∀ j ∈ js, j ∈ own.map (·.2) := by decide) (hj1 : ∀ j ∈ js1, j ∈ vs1 := by decide) (hv : ∀ i ∈ vs1, i ∈ own.map (·.2) := by decide) (hy : X.N[i]? = some y := by rfl) (hyl : X.env.scope.names.lookup y = some .local := by rfl) (hsw : swapsWith (.ListComp elt [⟨tg, iter, ifs, 0⟩, ⟨tg1, iter1, ifs1, 0⟩] scope pos) (some (.Name y py)) spos.line X.env = pure true := by exact sw_true rfl rfl rfl (by decide +kernel)) (hs : ∀ x, foldedSetIterable iter X.env x = pure x := by intro _; rfl) (hs1 : ∀ env x, foldedSetIterable iter1 env x = pure x := by intro _ _; rfl) (eg : ∀ (s : Shared) (H : Hp) (C : Addr) (cl : List (PySem.Str × Addr)) (fp : List Addr), g s H C cl fp = z5 g := by intros; rfl) (et : ∀ (s : Shared) (H : Hp) (C : Addr) (cl : List (PySem.Str × Addr)) (fp : List Addr), tt s H C cl fp = z5 tt := by intros; rfl) (ee : ∀ (s : Shared) (H : Hp) (C : Addr) (cl : List (PySem.Str × Addr)) (fp : List Addr), te s H C cl fp = z5 te := by intros; rfl) (ei1 : ∀ (s : Shared) (H : Hp) (C : Addr) (cl : List (PySem.Str × Addr)) (fp : List Addr), wi1 s H C cl fp = z5 wi1 := by intros; rfl) (eg1 : ∀ (s : Shared) (H : Hp) (C : Addr) (cl : List (PySem.Str × Addr)) (fp : List Addr), g1 s H C cl fp = z5 g1 := by intros; rfl) (et1 : ∀ (s : Shared) (H : Hp) (C : Addr) (cl : List (PySem.Str × Addr)) (fp : List Addr), tt1 s H C cl fp = z5 tt1 := by intros; rfl) :
    JS X ro (.Assign [.Name y py] (.ListComp elt [⟨tg, iter, ifs, 0⟩, ⟨tg1, iter1, ifs1, 0⟩] scope pos) spos) (tAsg (tLc2 wi (z5 g) (z5 tt) (z5 wi1) (z5 g1) (z5 tt1) (z5 te) (own.map (·.2)) vs1) (gName i)) (mSet i (mLc2 (own.map (·.2)) vs1 mi mt tst mi1 mt1 tst1 me)) :=
  js_setLc2 i own vs1 (ok := ok) hc hN hi (fun s H C cl fp => eg s H C cl fp ▸ hg s H C cl fp) (fun s H C cl fp => et s H C cl fp ▸ ht s H C cl fp) (fun s H C cl fp => ei1 s H C cl fp ▸ hi1 s H C cl fp) (fun s H C cl fp => eg1 s H C cl fp ▸ hg1 s H C cl fp) (fun s H C cl fp => et1 s H C cl fp ▸ ht1 s H C cl fp) (fun s H C cl fp => ee s H C cl fp ▸ he s H C cl fp) hro hj hj1 hv hy hyl hsw hs hs1
end
end VS

/-! equality: texts of any signs, and data -/
namespace VS
open PySem PySem.Spec L2
open Evl (Ex Ex.refl Ex.trans Ex.new)
def eqSC : List C → Option C
  | [.d (.str a), .d (.str b)] => some (.d (.bl (decide (a = b))))
  | _ => none
def neSC : List C → Option C
  | [.d (.str a), .d (.str b)] => some (.d (.bl (!decide (a = b))))
  | _ => none
theorem eqSC_len : ∀ cs c, eqSC cs = some c → cs.length = 2 := fun cs c h => by unfold eqSC at h; split at h <;> first | rfl | cases h
theorem neSC_len : ∀ cs c, neSC cs = some c → cs.length = 2 := fun cs c h => by unfold neSC at h; split at h <;> first | rfl | cases h
theorem dec_vstr (a b : PySem.Str) : decide (V.str a = V.str b) = decide (a = b) := by
  by_cases h : a = b
  · subst h; simp
  · rw [decide_eq_false h, decide_eq_false (fun e => h (by cases e; rfl))]
theorem ops_eqS {K : PySem.W.Frag} : OpS K (r2 rEq) eqSC := ops2 eqSC_len fun Hs H x y a b oa ob s ra rb c hc Q q => by
  unfold eqSC at hc
  split at hc
  · rename_i z w e
    cases e
    cases hc
    obtain rfl := ra.str
    obtain rfl := rb.str
    exact ⟨rfl, by rw [dec_vstr]; exact fin_d s q (.bl _)⟩
  · cases hc
theorem ops_neS {K : PySem.W.Frag} : OpS K (r2 rNe) neSC := ops2 neSC_len fun Hs H x y a b oa ob s ra rb c hc Q q => by
  unfold neSC at hc
  split at hc
  · rename_i z w e
    cases e
    cases hc
    obtain rfl := ra.str
    obtain rfl := rb.str
    exact ⟨rfl, by rw [dec_vstr]; exact fin_d s q (.bl _)⟩
  · cases hc
def eqA : List C → Option C := orC eqSC eqC
def neA : List C → Option C := orC neSC neC
theorem op_eqA {X : Cx} (hu : X.A.units + 64 < cLine) : OpR X (compareOp .Eq) (r2or rEq (rEqD X.K)) := op_or2 op_eq (op_eqD hu)
theorem op_neA {X : Cx} (hu : X.A.units + 64 < cLine) : OpR X (compareOp .NotEq) (r2or rNe (rNeD X.K)) := op_or2 op_ne (op_neD hu)
theorem ops_eqA {K : PySem.W.Frag} : OpS K (r2 (r2or rEq (rEqD K))) eqA := ops_or ops_eqS ops_eq eqSC_len eqC_len
theorem ops_neA {K : PySem.W.Frag} : OpS K (r2 (r2or rNe (rNeD K))) neA := ops_or ops_neS ops_ne neSC_len neC_len
theorem e_eqAS (a b : PySem.Str) : eqA [.d (.str a), .d (.str b)] = some (.d (.bl (decide (a = b)))) := rfl
theorem e_neAS (a b : PySem.Str) : neA [.d (.str a), .d (.str b)] = some (.d (.bl (!decide (a = b)))) := rfl
theorem e_eqAI (a b : Int) : eqA [.d (.int a), .d (.int b)] = some (.d (.bl (decide (a = b)))) := by
  have : eqSC [.d (.int a), .d (.int b)] = none := rfl
  have h2 : okD (.int a) = true := by simp [okD, SeqAt.shaped, toPy, PyData.canLay0, PyData.depth]
  have h3 : okD (.int b) = true := by simp [okD, SeqAt.shaped, toPy, PyData.canLay0, PyData.depth]
  simp [eqA, orC, this, eqC, eqB, frz, h2, h3, toPy, PyData.eqv, Bool.beq_eq_decide_eq]
theorem e_neAI (a b : Int) : neA [.d (.int a), .d (.int b)] = some (.d (.bl (!decide (a = b)))) := by
  have : neSC [.d (.int a), .d (.int b)] = none := rfl
  have h2 : okD (.int a) = true := by simp [okD, SeqAt.shaped, toPy, PyData.canLay0, PyData.depth]
  have h3 : okD (.int b) = true := by simp [okD, SeqAt.shaped, toPy, PyData.canLay0, PyData.depth]
  simp [neA, orC, this, neC, eqB, frz, h2, h3, toPy, PyData.eqv, Bool.beq_eq_decide_eq]
theorem e_eqAB (a b : Bool) : eqA [.d (.bl a), .d (.bl b)] = some (.d (.bl (a == b))) := by
  cases a <;> cases b <;> rfl
theorem e_neAB (a b : Bool) : neA [.d (.bl a), .d (.bl b)] = some (.d (.bl (a != b))) := by
  cases a <;> cases b <;> rfl
end VS

/-! how a mirror is computed -/
namespace VS
open PySem PySem.Spec L2
def bS (r : Option Out) (f : Ls → Option Out) : Option Out := match r with
  | some (.nx L) => f L
  | x => x
theorem bS_nx (L : Ls) (f : Ls → Option Out) : bS (some (.nx L)) f = f L := rfl
theorem bS_rt (c : C) (L : Ls) (f : Ls → Option Out) : bS (some (.rt c L)) f = some (.rt c L) := rfl
theorem bS_bk (L : Ls) (f : Ls → Option Out) : bS (some (.bk L)) f = some (.bk L) := rfl
theorem bS_ct (L : Ls) (f : Ls → Option Out) : bS (some (.ct L)) f = some (.ct L) := rfl
theorem bS_no (f : Ls → Option Out) : bS none f = none := rfl
theorem e_seq (a b : MS) (L : Ls) : mSeq a b L = bS (a L) b := by
  unfold mSeq bS
  cases a L with
  | none => rfl
  | some o => cases o <;> rfl
theorem e_skip (L : Ls) : mSkip L = some (.nx L) := rfl
theorem e_if (t : MT) (a b : MS) (L : Ls) : mIf t a b L = (t L).bind fun p => if p.1 = true then a p.2 else b p.2 := by
  unfold mIf
  cases t L with
  | none => rfl
  | some p => obtain ⟨b1, L1⟩ := p; cases b1 <;> rfl
theorem e_set (j : Nat) (e : ME) (L : Ls) : mSet j e L = (e L).bind fun p => if j < p.2.length then some (.nx (p.2.set j (some p.1))) else none := by
  unfold mSet
  cases e L <;> rfl
theorem e_ret (e : ME) (L : Ls) : mRet e L = (e L).bind fun p => some (.rt p.1 p.2) := by
  unfold mRet
  cases e L <;> rfl
theorem e_retN (L : Ls) : mRetN L = some (.rt (.d .non) L) := rfl
theorem e_expr (e : ME) (L : Ls) : mExpr e L = (e L).bind fun p => some (.nx p.2) := by
  unfold mExpr
  cases e L <;> rfl
theorem e_setIx (ms : MA) (L : Ls) : mSetIx ms L = (mCall setM ms L).bind fun p => some (.nx p.2) := by
  unfold mSetIx
  cases mCall setM ms L <;> rfl
theorem e_op (f : List C → Option C) (ms : MA) (L : Ls) : mOp f ms L = (ms L).bind fun p => (conts p.2 p.1).bind fun cs => (f cs).bind fun c => some (c, p.2) := by
  unfold mOp
  cases ms L with
  | none => rfl
  | some p =>
    obtain ⟨a, L1⟩ := p
    show (match conts L1 a with | some cs => _ | none => none) = (conts L1 a).bind _
    cases conts L1 a with
    | none => rfl
    | some cs =>
      show (match f cs with | some c => _ | none => none) = (f cs).bind _
      cases f cs <;> rfl
theorem e_nil (L : Ls) : maNil L = some ([], L) := rfl
theorem e_cons (g : MG) (r : MA) (L : Ls) : maCons g r L = (g L).bind fun p => (r p.2).bind fun q => some (p.1 :: q.1, q.2) := by
  unfold maCons
  cases g L with
  | none => rfl
  | some p =>
    obtain ⟨a, L1⟩ := p
    show (match r L1 with | some (avs, L2) => _ | none => none) = (r L1).bind _
    cases r L1 <;> rfl
theorem e_val (m : ME) (L : Ls) : mVal m L = (m L).bind fun p => some (.val p.1, p.2) := by
  unfold mVal
  cases m L <;> rfl
theorem e_frz (m : ME) (L : Ls) : mFrz m L = (m L).bind fun p => some (.d (frz p.1), p.2) := by
  unfold mFrz
  cases m L <;> rfl
def gA (i : Nat) (L : Ls) : Option (Option C) → Option (AV × Ls)
  | some (some (.d x)) => some (.val (.d x), L)
  | some (some _) => some (.ref i, L)
  | _ => none
theorem e_arg (i : Nat) (L : Ls) : gNameA i L = gA i L L[i]? := by
  unfold gNameA gA
  rfl
theorem gA_d (i : Nat) (L : Ls) (x : D) : gA i L (some (some (.d x))) = some (.val (.d x), L) := rfl
theorem gA_l (i : Nat) (L : Ls) (x : List D) : gA i L (some (some (.l x))) = some (.ref i, L) := rfl
theorem gA_k (i : Nat) (L : Ls) (x y) : gA i L (some (some (.k x y))) = some (.ref i, L) := rfl
theorem gA_t (i : Nat) (L : Ls) (x y) : gA i L (some (some (.t x y))) = some (.ref i, L) := rfl
theorem gA_p (i : Nat) (L : Ls) (x y) : gA i L (some (some (.p x y))) = some (.ref i, L) := rfl
theorem gA_m (i : Nat) (L : Ls) (x) : gA i L (some (some (.m x))) = some (.ref i, L) := rfl
def nA (i : Nat) (L : Ls) : Option (Option C) → Option (C × Ls)
  | some (some (.d x)) => some (.d x, L)
  | some (some c) => some (.d (frz c), L.set i (some (.d (frz c))))
  | _ => none
theorem e_name (i : Nat) (L : Ls) : mName i L = nA i L L[i]? := by
  unfold mName nA
  cases h : L[i]? with
  | none => rfl
  | some o => cases o with
    | none => rfl
    | some c => cases c <;> rfl
theorem nA_d (i : Nat) (L : Ls) (x : D) : nA i L (some (some (.d x))) = some (.d x, L) := rfl
theorem nA_l (i : Nat) (L : Ls) (x) : nA i L (some (some (.l x))) = some (.d (.lst x), L.set i (some (.d (.lst x)))) := rfl
theorem nA_k (i : Nat) (L : Ls) (x y) : nA i L (some (some (.k x y))) = some (.d (.dk x y), L.set i (some (.d (.dk x y)))) := rfl
theorem nA_t (i : Nat) (L : Ls) (x y) : nA i L (some (some (.t x y))) = some (.d (.dt x y), L.set i (some (.d (.dt x y)))) := rfl
theorem nA_m (i : Nat) (L : Ls) (x) : nA i L (some (some (.m x))) = some (.d (.lst (x.map .lst)), L.set i (some (.d (.lst (x.map .lst))))) := rfl
def vA (i : Nat) (L : Ls) : Option (Option C) → Option (C × Ls)
  | some (some c) => some (c, L.set i none)
  | _ => none
theorem e_move (i : Nat) (L : Ls) : mMove i L = vA i L L[i]? := by
  unfold mMove vA
  rfl
theorem vA_s (i : Nat) (L : Ls) (c : C) : vA i L (some (some c)) = some (c, L.set i none) := rfl
theorem e_c (x : D) (L : Ls) : mC x L = some (.d x, L) := rfl
theorem e_conts0 (L : Ls) : conts L [] = some [] := rfl
theorem e_conts1 (L : Ls) (a : AV) (r : List AV) : conts L (a :: r) = (contA L a).bind fun c => (conts L r).bind fun cs => some (c :: cs) := by
  show (match contA L a, conts L r with | some c, some cs => _ | _, _ => none) = _
  cases contA L a <;> cases conts L r <;> rfl
theorem e_contV (L : Ls) (c : C) : contA L (.val c) = some c := rfl
theorem e_contR (L : Ls) (i : Nat) : contA L (.ref i) = (L[i]?).bind id := by
  unfold contA
  cases h : L[i]? with
  | none => simp [h]
  | some o => cases o <;> simp [h]
theorem e_tst (m : ME) (L : Ls) : tstM m L = (m L).bind fun p => match p.1 with | .d (.bl b) => some (b, p.2) | _ => none := by
  unfold tstM
  cases m L with
  | none => rfl
  | some p =>
    obtain ⟨c, L1⟩ := p
    cases c with
    | d x => cases x <;> rfl
    | _ => rfl
theorem e_tnot (t : MT) (L : Ls) : tNotM t L = (t L).bind fun p => some (!p.1, p.2) := by
  unfold tNotM
  cases t L <;> rfl
theorem e_tand (a b : MT) (L : Ls) : tAndM a b L = (a L).bind fun p => if p.1 = true then b p.2 else some (false, p.2) := by
  unfold tAndM
  cases a L with
  | none => rfl
  | some p => obtain ⟨k, L1⟩ := p; cases k <;> rfl
theorem e_tor (a b : MT) (L : Ls) : tOrM a b L = (a L).bind fun p => if p.1 = true then some (true, p.2) else b p.2 := by
  unfold tOrM
  cases a L with
  | none => rfl
  | some p => obtain ⟨k, L1⟩ := p; cases k <;> rfl
theorem e_ifE (t : MT) (a b : ME) (L : Ls) : mIfE t a b L = (t L).bind fun p => if p.1 = true then a p.2 else b p.2 := by
  unfold mIfE
  cases t L with
  | none => rfl
  | some p => obtain ⟨k, L1⟩ := p; cases k <;> rfl
theorem e_call (m : FM) (ms : MA) (L : Ls) : mCall m ms L = (ms L).bind fun p => if (refsOf p.1).Nodup then (conts p.2 p.1).bind fun cs => (m cs).bind fun r => if r.2.length = p.1.length then some (r.1, setRefs p.2 p.1 r.2) else none else none := by
  unfold mCall
  cases ms L with
  | none => rfl
  | some p =>
    obtain ⟨a, L1⟩ := p
    show (if (refsOf a).Nodup then _ else none) = (if (refsOf a).Nodup then _ else none)
    split
    · show (match conts L1 a with | some cs => _ | none => none) = (conts L1 a).bind _
      cases conts L1 a with
      | none => rfl
      | some cs =>
        show (match m cs with | some (c, cs') => _ | none => none) = (m cs).bind _
        cases m cs <;> rfl
    · rfl
theorem e_refs0 : refsOf [] = [] := rfl
theorem e_refsV (c : C) (r : List AV) : refsOf (.val c :: r) = refsOf r := rfl
theorem e_refsR (i : Nat) (r : List AV) : refsOf (.ref i :: r) = i :: refsOf r := rfl
theorem e_sr0 (L : Ls) : setRefs L [] [] = L := rfl
theorem e_srV (L : Ls) (c : C) (r : List AV) (d : C) (cs : List C) : setRefs L (.val c :: r) (d :: cs) = setRefs L r cs := rfl
theorem e_srR (L : Ls) (i : Nat) (r : List AV) (d : C) (cs : List C) : setRefs L (.ref i :: r) (d :: cs) = (setRefs L r cs).set i (some d) := rfl
theorem e_ixA (xs : List D) (i : Int) : ixA [.l xs, .d (.int i)] = (atI xs i).map .d := by
  unfold ixA orC
  have : ixC [.l xs, .d (.int i)] = (atI xs i).map .d := rfl
  rw [this]
  cases atI xs i <;> rfl
theorem e_ixL (xs : List D) (i : Int) : ixA [.d (.lst xs), .d (.int i)] = (atI xs i).map .d := by
  unfold ixA orC
  have : ixC [.d (.lst xs), .d (.int i)] = (atI xs i).map .d := rfl
  rw [this]
  cases atI xs i <;> rfl
theorem e_ixT (xs : List D) (i : Int) : ixA [.d (.tup xs), .d (.int i)] = (atI xs i).map .d := by
  unfold ixA orC
  have : ixC [.d (.tup xs), .d (.int i)] = (atI xs i).map .d := rfl
  rw [this]
  cases atI xs i <;> rfl
theorem atI_ge {xs : List D} {i : Int} {k : Nat} (h0 : i = k) (hk : k < xs.length) : atI xs i = xs[k]? := by
  subst h0
  unfold atI
  have : ixN xs.length (k : Int) = some k := by
    unfold ixN
    simp [hk]
  rw [this]
  rfl
theorem e_at0 (x : D) (r : List D) : atI (x :: r) 0 = some x := (atI_ge (k := 0) rfl (by simp)).trans rfl
theorem e_at1 (x y : D) (r : List D) : atI (x :: y :: r) 1 = some y := (atI_ge (k := 1) rfl (by simp)).trans rfl
theorem e_at2 (x y z : D) (r : List D) : atI (x :: y :: z :: r) 2 = some z := (atI_ge (k := 2) rfl (by simp)).trans rfl
theorem e_at3 (x y z u : D) (r : List D) : atI (x :: y :: z :: u :: r) 3 = some u := (atI_ge (k := 3) rfl (by simp)).trans rfl
theorem e_addI (i j : Int) : addC [.d (.int i), .d (.int j)] = some (.d (.int (i + j))) := rfl
theorem e_subI (i j : Int) : subC [.d (.int i), .d (.int j)] = some (.d (.int (i - j))) := rfl
theorem e_mulI {i j : Int} (h : i.natAbs.log2 < 64 ∨ j.natAbs.log2 < 64 ∨ i.natAbs.log2 + j.natAbs.log2 < 1000000) : mulC [.d (.int i), .d (.int j)] = some (.d (.int (i * j))) := by
  unfold mulC orC mul1C i2
  simp only [if_pos h, Option.map_some]
theorem e_modI {i j : Int} (h : 0 < j) : modC [.d (.int i), .d (.int j)] = some (.d (.int (i % j))) := by
  unfold modC i2
  simp only [if_pos h, Option.map_some]
theorem e_fdivI {i j : Int} (h : 0 < j) (h2 : j.natAbs.log2 < 9000) : fdivC [.d (.int i), .d (.int j)] = some (.d (.int (i / j))) := by
  unfold fdivC i2
  simp only [if_pos (And.intro h h2), Option.map_some]
theorem e_powI {i j : Int} (h : 0 ≤ j ∧ (Builtin.Int.intBits i : Int) * j ≤ 2 ^ 27) : powC [.d (.int i), .d (.int j)] = some (.d (.int (i ^ j.toNat))) := by
  unfold powC i2
  simp only [if_pos h, Option.map_some]
theorem e_gtI (i j : Int) : gtC [.d (.int i), .d (.int j)] = some (.d (.bl (decide (j < i)))) := rfl
theorem e_ltI (i j : Int) : ltC [.d (.int i), .d (.int j)] = some (.d (.bl (decide (i < j)))) := rfl
theorem e_leI (i j : Int) : leC [.d (.int i), .d (.int j)] = some (.d (.bl (decide (i ≤ j)))) := rfl
theorem e_intI (i : Int) : intC [.d (.int i)] = some (.d (.int i)) := rfl
theorem e_intB (b : Bool) : intC [.d (.bl b)] = some (.d (.int (if b then 1 else 0))) := rfl
theorem e_setM (x : D) (a i : C) : setM [.d x, a, i] = (putC a i x).map fun a' => (.d .non, [.d x, a', i]) := rfl
theorem e_putL (xs : List D) (k : Int) (x : D) : putC (.l xs) (.d (.int k)) x = (ixN xs.length k).map fun j => .l (xs.set j x) := rfl
theorem ixN_lt {n : Nat} {i : Int} {k : Nat} (h0 : i = k) (hk : k < n) : ixN n i = some k := by
  subst h0
  unfold ixN
  simp [hk]
theorem e_ix30 : ixN 3 0 = some 0 := rfl
theorem e_ix31 : ixN 3 1 = some 1 := rfl
theorem e_ix32 : ixN 3 2 = some 2 := rfl
end VS

/-! loops and comprehensions computed -/
namespace VS
open PySem PySem.Spec L2
theorem e_for (mi : MI) (mt : MTg) (body : MS) (L : Ls) : mFor mi mt body L = (mi L).bind fun p => forM mt body p.1 p.2 := by
  unfold mFor
  cases mi L <;> rfl
/-- a loop that ends or returns -/
theorem for_gen {mt : MTg} {body : MS} (P : Nat → Ls → Prop) (R : C → Ls → Prop) : ∀ (xs : List D) (k : Nat) (L : Ls), P k L →
    (∀ (i : Nat) (x : D) (L : Ls), xs[i]? = some x → P (k + i) L → ∃ L1, mt x L = some L1 ∧ ((∃ L2, body L1 = some (.nx L2) ∧ P (k + i + 1) L2) ∨ ∃ c L2, body L1 = some (.rt c L2) ∧ R c L2)) →
    (∃ L', forM mt body xs L = some (.nx L') ∧ P (k + xs.length) L') ∨ ∃ c L', forM mt body xs L = some (.rt c L') ∧ R c L'
  | [], k, L, h0, _ => .inl ⟨L, rfl, h0⟩
  | x :: xs, k, L, h0, st => by
    obtain ⟨L1, e1, h⟩ := st 0 x L rfl h0
    rcases h with ⟨L2, e2, h2⟩ | ⟨c, L2, e2, h2⟩
    · have ih := for_gen P R xs (k + 1) L2 h2 fun i y L hy hP => by
        have := st (i + 1) y L (by simpa using hy) (by rw [← Nat.add_assoc, Nat.add_right_comm]; exact hP)
        have e : k + (i + 1) = k + 1 + i := by omega
        rw [e] at this
        exact this
      have e3 : forM mt body (x :: xs) L = forM mt body xs L2 := by
        show (match mt x L with | some L1 => _ | none => none) = _
        rw [e1]
        show (match body L1 with | some (.nx L2) => _ | some (.ct L2) => _ | some (.bk L2) => _ | some (.rt c L2) => _ | none => none) = _
        rw [e2]
      rw [e3]
      have e4 : k + (x :: xs).length = k + 1 + xs.length := by rw [List.length_cons]; omega
      rw [e4]
      exact ih
    · refine .inr ⟨c, L2, ?_, h2⟩
      show (match mt x L with | some L1 => _ | none => none) = _
      rw [e1]
      show (match body L1 with | some (.nx L2) => _ | some (.ct L2) => _ | some (.bk L2) => _ | some (.rt c L2) => _ | none => none) = _
      rw [e2]
theorem for_inv {mt : MTg} {body : MS} (P : Nat → Ls → Prop) (xs : List D) {L : Ls} (h0 : P 0 L) (st : ∀ (i : Nat) (x : D) (L : Ls), xs[i]? = some x → P i L → ∃ L1 L2, mt x L = some L1 ∧ body L1 = some (.nx L2) ∧ P (i + 1) L2) :
    ∃ L', forM mt body xs L = some (.nx L') ∧ P xs.length L' := by
  have := for_gen (mt := mt) (body := body) P (fun _ _ => False) xs 0 L h0 fun i x L hx hP => by
    rw [Nat.zero_add] at hP ⊢
    obtain ⟨L1, L2, e1, e2, h⟩ := st i x L hx hP
    exact ⟨L1, e1, .inl ⟨L2, e2, h⟩⟩
  rcases this with ⟨L', e, h⟩ | ⟨_, _, _, h⟩
  · rw [Nat.zero_add] at h
    exact ⟨L', e, h⟩
  · exact h.elim
theorem e_lc (vs : List Nat) (mi : MI) (mt : MTg) (tst : MT) (elt : ME) (L : Ls) : mLc vs mi mt tst elt L = (mi L).bind fun p => if p.1.length < sizeLine then (lcM vs mt tst elt p.1 [] (wipeL p.2 vs)).bind fun q => some (.l q.1, unwipe p.2 q.2 vs) else none := by
  unfold mLc
  cases mi L with
  | none => rfl
  | some p =>
    obtain ⟨xs, L1⟩ := p
    show (if xs.length < sizeLine then _ else none) = (if xs.length < sizeLine then _ else none)
    split
    · show (match lcM vs mt tst elt xs [] (wipeL L1 vs) with | some (r, L2) => _ | none => none) = _
      cases lcM vs mt tst elt xs [] (wipeL L1 vs) <;> rfl
    · rfl
theorem lc_inv {vs : List Nat} {mt : MTg} {tst : MT} {elt : ME} (P : Nat → List D → Ls → Prop) : ∀ (xs : List D) (k : Nat) (acc : List D) (L : Ls), P k acc L →
    (∀ (i : Nat) (x : D) (acc : List D) (L : Ls), xs[i]? = some x → P (k + i) acc L → ∃ L1 b L2, mt x L = some L1 ∧ tst L1 = some (b, L2) ∧ (b = true → ∃ c L3, elt L2 = some (c, L3) ∧ P (k + i + 1) (acc ++ [frz c]) (wipeL L3 vs)) ∧ (b = false → P (k + i + 1) acc (wipeL L2 vs))) →
    ∃ acc' L', lcM vs mt tst elt xs acc L = some (acc', L') ∧ P (k + xs.length) acc' L'
  | [], k, acc, L, h0, _ => ⟨acc, L, rfl, h0⟩
  | x :: xs, k, acc, L, h0, st => by
    obtain ⟨L1, b, L2, e1, e2, h1, h2⟩ := st 0 x acc L rfl h0
    have e4 : k + (x :: xs).length = k + 1 + xs.length := by rw [List.length_cons]; omega
    rw [e4]
    have nxt : ∀ acc2 L5, P (k + 1) acc2 L5 → ∃ acc' L', lcM vs mt tst elt xs acc2 L5 = some (acc', L') ∧ P (k + 1 + xs.length) acc' L' := fun acc2 L5 h5 => lc_inv P xs (k + 1) acc2 L5 h5 fun i y acc L hy hP => by
      have e : k + (i + 1) = k + 1 + i := by omega
      have := st (i + 1) y acc L (by simpa using hy) (by rw [e]; exact hP)
      rw [e] at this
      exact this
    cases b with
    | true =>
      obtain ⟨c, L3, e3, h3⟩ := h1 rfl
      obtain ⟨acc', L', e5, h5⟩ := nxt _ _ h3
      refine ⟨acc', L', ?_, h5⟩
      show (match mt x L with | some L1 => _ | none => none) = _
      rw [e1]
      show (match tst L1 with | some (true, L2) => _ | some (false, L2) => _ | none => none) = _
      rw [e2]
      show (match elt L2 with | some (c, L3) => _ | none => none) = _
      rw [e3]
      exact e5
    | false =>
      obtain ⟨acc', L', e5, h5⟩ := nxt _ _ (h2 rfl)
      refine ⟨acc', L', ?_, h5⟩
      show (match mt x L with | some L1 => _ | none => none) = _
      rw [e1]
      show (match tst L1 with | some (true, L2) => _ | some (false, L2) => _ | none => none) = _
      rw [e2]
      exact e5
/-- a comprehension that changes nothing -/
theorem lc_pure {vs : List Nat} {mt : MTg} {tst : MT} {elt : ME} {L : Ls} {f : D → D} {p : D → Bool} (xs : List D)
    (h : ∀ x ∈ xs, ∃ L1 L2, mt x L = some L1 ∧ tst L1 = some (p x, L2) ∧ (p x = true → ∃ c L3, elt L2 = some (c, L3) ∧ frz c = f x ∧ wipeL L3 vs = L) ∧ (p x = false → wipeL L2 vs = L)) :
    lcM vs mt tst elt xs [] L = some ((xs.filter p).map f, L) := by
  obtain ⟨acc, L', e, h1, h2⟩ := lc_inv (vs := vs) (mt := mt) (tst := tst) (elt := elt) (fun k acc L' => L' = L ∧ acc = ((xs.take k).filter p).map f) xs 0 [] L ⟨rfl, rfl⟩ fun i x acc L' hx hP => by
    obtain ⟨rfl, rfl⟩ := hP
    rw [Nat.zero_add]
    obtain ⟨L1, L2, e1, e2, h1, h2⟩ := h x (List.mem_of_getElem? hx)
    have tk : xs.take (i + 1) = xs.take i ++ [x] := by rw [List.take_add_one, hx]; rfl
    refine ⟨L1, p x, L2, e1, e2, fun hp => ?_, fun hp => ?_⟩
    · obtain ⟨c, L3, e3, e4, e5⟩ := h1 hp
      refine ⟨c, L3, e3, e5, ?_⟩
      rw [tk, List.filter_append, List.map_append, List.filter_cons_of_pos hp, e4]
      rfl
    · refine ⟨h2 hp, ?_⟩
      rw [tk, List.filter_append, List.map_append, List.filter_cons_of_neg (by rw [hp]; decide)]
      simp
  rw [Nat.zero_add, List.take_length] at h2
  rw [e, h1, h2]
theorem e_yes (L : Ls) : tYesM L = some (true, L) := rfl
theorem e_seqI (m : ME) (L : Ls) : miSeq m L = (m L).bind fun p => (asSeqD (.d (frz p.1))).bind fun xs => some (xs, p.2) := by
  unfold miSeq
  cases m L with
  | none => rfl
  | some p =>
    obtain ⟨c, L1⟩ := p
    show (match asSeqD (.d (frz c)) with | some xs => _ | none => none) = (asSeqD (.d (frz c))).bind _
    cases asSeqD (.d (frz c)) <;> rfl
theorem e_asl (xs : List D) : asSeqD (.d (.lst xs)) = some xs := rfl
theorem e_ast (xs : List D) : asSeqD (.d (.tup xs)) = some xs := rfl
theorem e_r1 (m : MA) (L : Ls) (n : Nat) (avs : List AV) (L' : Ls) (h : m L = some (avs, L')) (h2 : conts L' avs = some [.d (.int n)]) (hn : n < 2 ^ 60) : miR1 m L = some (rngD 0 n, L') := by
  unfold miR1
  rw [h]
  show (match conts L' avs with | some [.d (.int j)] => _ | _ => none) = _
  rw [h2]
  show (if -(2 ^ 62) ≤ (n : Int) ∧ (n : Int) < 2 ^ 62 then _ else none) = _
  have h60 : (2 : Nat) ^ 60 = 1152921504606846976 := by decide
  have h62 : (2 : Int) ^ 62 = 4611686018427387904 := by decide
  rw [if_pos ⟨by omega, by omega⟩]
  rfl
theorem rngD_get0 (n i : Nat) (x : D) (h : (rngD 0 n)[i]? = some x) : x = .int i ∧ i < n := by
  have hi : i < n := by
    have := (List.getElem?_eq_some_iff.mp h).1
    rwa [rngD_len] at this
  rw [rngD_get 0 n i hi] at h
  cases h
  exact ⟨by rw [Int.zero_add], hi⟩
theorem e_gset (j : Nat) (x : D) (L : Ls) : gSet j x L = if j < L.length then some (L.set j (some (.d x))) else none := rfl
theorem e_par (i j : Nat) (ms : MA) (L : Ls) (a b : C) (L' : Ls) (h : ms L = some ([.val a, .val b], L')) (hi : i < L'.length) (hj : j < L'.length) : mPar i j ms L = some (.nx ((L'.set j (some b)).set i (some a))) := by
  unfold mPar
  rw [h]
  exact if_pos ⟨hi, hj⟩
theorem e_frzd (x : D) : frz (.d x) = x := rfl
theorem e_frzl (x : List D) : frz (.l x) = .lst x := rfl
theorem e_frzm (x : List (List D)) : frz (.m x) = .lst (x.map .lst) := rfl
theorem e_frzk (x y) : frz (.k x y) = .dk x y := rfl
theorem e_frzt (x y) : frz (.t x y) = .dt x y := rfl
theorem e_max2 (i j : Int) : max2C [.d (.int i), .d (.int j)] = some (.d (.int (if j > i then j else i))) := rfl
theorem e_min2 (i j : Int) : min2C [.d (.int i), .d (.int j)] = some (.d (.int (if j < i then j else i))) := rfl
theorem e_datas0 : datas [] = some [] := rfl
theorem e_datas1 (x : D) (r : List C) : datas (.d x :: r) = (datas r).bind fun xs => some (x :: xs) := by
  show (datas r).map (x :: ·) = _
  cases datas r <;> rfl
theorem e_dispL (cs : List C) : dispL cs = (datas cs).bind fun xs => if xs.length ≤ 100000 then some (.l xs) else none := by
  unfold dispL
  cases datas cs <;> rfl
theorem e_dispT (cs : List C) : dispT cs = (datas cs).bind fun xs => if xs.length ≤ 100000 then some (.d (.tup xs)) else none := by
  unfold dispT
  cases datas cs <;> rfl
theorem e_outs0 (ro : List Nat) (L : Ls) (i : Nat) : outs ro L i [] = some [] := rfl
theorem e_outsD (ro : List Nat) (L : Ls) (i : Nat) (x : D) (r : List C) : outs ro L i (.d x :: r) = (outs ro L (i + 1) r).bind fun y => some (.d x :: y) := by
  show (match (if isD (.d x) then some (C.d x) else _), outs ro L (i + 1) r with | some c', some r => some (c' :: r) | _, _ => none) = _
  cases outs ro L (i + 1) r <;> rfl
def slotC (L : Ls) (i : Nat) : Option C := match L[i]? with
  | some (some c') => some c'
  | _ => none
theorem e_slotC (L : Ls) (i : Nat) : slotC L i = (L[i]?).bind id := by
  unfold slotC
  cases h : L[i]? with
  | none => simp [h]
  | some o => cases o <;> simp [h]
theorem e_outsO (ro : List Nat) (L : Ls) (i : Nat) (c : C) (r : List C) (h : isD c = false) : outs ro L i (c :: r) = if i ∈ ro then (slotC L i).bind fun c' => (outs ro L (i + 1) r).bind fun y => some (c' :: y) else none := by
  show (match (if isD c then some c else if i ∈ ro then slotC L i else none), outs ro L (i + 1) r with | some c', some r => some (c' :: r) | _, _ => none) = _
  rw [h]
  by_cases hi : i ∈ ro
  · rw [if_pos hi]
    simp only [Bool.false_eq_true, if_false, if_pos hi]
    cases slotC L i <;> cases outs ro L (i + 1) r <;> rfl
  · rw [if_neg hi]
    simp only [Bool.false_eq_true, if_false, if_neg hi]
theorem e_outsL (ro : List Nat) (L : Ls) (i : Nat) (c : List D) (r : List C) : outs ro L i (.l c :: r) = if i ∈ ro then (slotC L i).bind fun c' => (outs ro L (i + 1) r).bind fun y => some (c' :: y) else none := e_outsO ro L i _ r rfl
theorem e_outsT (ro : List Nat) (L : Ls) (i : Nat) (c c2) (r : List C) : outs ro L i (.t c c2 :: r) = if i ∈ ro then (slotC L i).bind fun c' => (outs ro L (i + 1) r).bind fun y => some (c' :: y) else none := e_outsO ro L i _ r rfl
theorem e_outsK (ro : List Nat) (L : Ls) (i : Nat) (c c2) (r : List C) : outs ro L i (.k c c2 :: r) = if i ∈ ro then (slotC L i).bind fun c' => (outs ro L (i + 1) r).bind fun y => some (c' :: y) else none := e_outsO ro L i _ r rfl
/-- a def's end -/
def fin (ro : List Nat) (cs : List C) : Option Out → Option (C × List C)
  | some (.rt c L) => (outs ro L 0 cs).bind fun r => some (c, r)
  | some (.nx L) => (outs ro L 0 cs).bind fun r => some (.d .non, r)
  | _ => none
theorem e_fn (n s : Nat) (ro : List Nat) (body : MS) (cs : List C) (h : cs.length = n) : mFn n s ro body cs = fin ro cs (body (cs.map some ++ List.replicate (s - n) none)) := by
  unfold mFn
  rw [if_pos h]
  cases body (cs.map some ++ List.replicate (s - n) none) with
  | none => rfl
  | some o =>
    cases o with
    | rt c L =>
      show (outs ro L 0 cs).map _ = (outs ro L 0 cs).bind _
      cases outs ro L 0 cs <;> rfl
    | nx L =>
      show (outs ro L 0 cs).map _ = (outs ro L 0 cs).bind _
      cases outs ro L 0 cs <;> rfl
    | _ => rfl
theorem fin_rt (ro : List Nat) (cs : List C) (c : C) (L : Ls) : fin ro cs (some (.rt c L)) = (outs ro L 0 cs).bind fun r => some (c, r) := rfl
theorem fin_nx (ro : List Nat) (cs : List C) (L : Ls) : fin ro cs (some (.nx L)) = (outs ro L 0 cs).bind fun r => some (.d .non, r) := rfl
end VS

/-! sorts, membership, methods computed -/
namespace VS
open PySem PySem.Spec L2
open PySem.W (dataLt dataLe)
theorem dlt_asym (x y : PyData) (h : dataLt x y = true) : dataLt y x = false := by
  unfold dataLt at *
  cases e : PyProof.Rows.lexLt PyProof.Rows.itemOrd (PySem.W.keyToks y) (PySem.W.keyToks x) with
  | false => rfl
  | true =>
    have := PyProof.Rows.lex_trans _ _ _ h e
    rw [PyProof.Rows.lex_irrefl] at this
    cases this
theorem dle_def (a b : D) : dataLe false toPy a b = !dataLt (toPy b) (toPy a) := rfl
theorem dle_trans (a b c : D) (h1 : dataLe false toPy a b = true) (h2 : dataLe false toPy b c = true) : dataLe false toPy a c = true := by
  rw [dle_def, Bool.not_eq_true'] at *
  cases e : dataLt (toPy c) (toPy a) with
  | false => rfl
  | true =>
    unfold dataLt at *
    rcases PyProof.Rows.lex_negTrans _ (PySem.W.keyToks (toPy b)) _ e with z | z
    · rw [h2] at z; cases z
    · rw [h1] at z; cases z
theorem dle_total (a b : D) : (dataLe false toPy a b || dataLe false toPy b a) = true := by
  rw [dle_def, dle_def]
  cases e : dataLt (toPy b) (toPy a) with
  | false => rfl
  | true => rw [dlt_asym _ _ e]; rfl
theorem sortL_spec {xs : List D} (h : (alikeB (xs.map toPy) && sortableB (xs.map toPy) && xs.all okD) = true) : ∃ ys, sortL xs = some ys ∧ ys.Perm xs ∧ ys.Pairwise (fun a b => dataLe false toPy a b = true) := by
  unfold sortL
  rw [if_pos h]
  exact ⟨_, rfl, List.mergeSort_perm _ _, List.pairwise_mergeSort dle_trans dle_total _⟩
theorem e_sortL (xs ys : List D) (h : sortL xs = some ys) : sortC [.l xs] = some (.l ys) := by
  show (match asSeq (.l xs) with | some xs => _ | none => none) = _
  show (match sortL xs with | some ys => _ | none => _) = _
  rw [h]
theorem e_sortT (xs ys : List D) (h : sortL xs = some ys) : sortC [.d (.tup xs)] = some (.l ys) := by
  show (match asSeq (.d (.tup xs)) with | some xs => _ | none => none) = _
  show (match sortL xs with | some ys => _ | none => _) = _
  rw [h]
theorem e_sortD (xs ys : List D) (h : sortL xs = some ys) : sortC [.d (.lst xs)] = some (.l ys) := by
  show (match asSeq (.d (.lst xs)) with | some xs => _ | none => none) = _
  show (match sortL xs with | some ys => _ | none => _) = _
  rw [h]
theorem strs_sortable (ws : List PySem.Str) (h : ∀ w ∈ ws, okD (.str w) = true) : (alikeB ((ws.map D.str).map toPy) && sortableB ((ws.map D.str).map toPy) && (ws.map D.str).all okD) = true := by
  rw [Bool.and_eq_true, Bool.and_eq_true]
  refine ⟨⟨?_, ?_⟩, ?_⟩
  · unfold alikeB
    rw [List.all_eq_true]
    intro d hd
    rw [List.all_eq_true]
    intro e he
    simp only [List.map_map, List.mem_map, Function.comp_apply] at hd he
    obtain ⟨a, _, rfl⟩ := hd
    obtain ⟨b, _, rfl⟩ := he
    simp [toPy, PySem.W.alike]
  · unfold sortableB
    rw [Bool.or_eq_true]
    right
    rw [List.all_eq_true]
    intro d hd
    simp only [List.map_map, List.mem_map, Function.comp_apply] at hd
    obtain ⟨a, _, rfl⟩ := hd
    simp [toPy, plainB]
  · rw [List.all_eq_true]
    intro d hd
    obtain ⟨a, ha, rfl⟩ := List.mem_map.mp hd
    exact h a ha
/-- data of one kind, permuted -/
theorem perm_map {α β : Type} {f : α → β} {zs : List β} {ws : List α} (p : zs.Perm (ws.map f)) : ∃ us : List α, zs = us.map f ∧ us.Perm ws := by
  generalize hy : ws.map f = ys at p
  induction p generalizing ws with
  | nil =>
    have := List.map_eq_nil_iff.mp hy
    subst this
    exact ⟨[], rfl, .nil⟩
  | cons x _ ih =>
    obtain ⟨w, r, rfl, rfl, h3⟩ := List.map_eq_cons_iff.mp hy
    obtain ⟨us, e1, e2⟩ := ih h3
    exact ⟨w :: us, by rw [List.map_cons, e1], e2.cons w⟩
  | swap x y l =>
    obtain ⟨w, r, rfl, rfl, h3⟩ := List.map_eq_cons_iff.mp hy
    obtain ⟨w2, r2, rfl, rfl, rfl⟩ := List.map_eq_cons_iff.mp h3
    exact ⟨w2 :: w :: r2, rfl, .swap _ _ _⟩
  | trans _ _ ih1 ih2 =>
    obtain ⟨us, rfl, e2⟩ := ih2 hy
    obtain ⟨vs, e3, e4⟩ := ih1 rfl
    exact ⟨vs, e3, e4.trans e2⟩
def leS (a b : PySem.Str) : Prop := a.cps.toList ≤ b.cps.toList
theorem sort_strs (ws : List PySem.Str) (h : ∀ w ∈ ws, okD (.str w) = true) : ∃ us : List PySem.Str, sortL (ws.map .str) = some (us.map .str) ∧ us.Perm ws ∧ us.Pairwise leS := by
  obtain ⟨ys, e1, p, s⟩ := sortL_spec (strs_sortable ws h)
  obtain ⟨us, rfl, p2⟩ := perm_map p
  refine ⟨us, e1, p2, ?_⟩
  rw [List.pairwise_map] at s
  refine s.imp fun {a b} hab => ?_
  rw [dle_def, Bool.not_eq_true'] at hab
  have : dataLt (.str b) (.str a) = false := hab
  rw [PySem.W.dataLt_str] at this
  exact List.not_lt.mp (of_decide_eq_false this)
theorem nodup_sub_len {α : Type} [DecidableEq α] : ∀ {l m : List α}, l.Nodup → (∀ x ∈ l, x ∈ m) → l.length ≤ m.length
  | [], m, _, _ => Nat.zero_le _
  | x :: l, m, nd, h => by
    obtain ⟨n1, n2⟩ := List.nodup_cons.mp nd
    have hx : x ∈ m := h x (by simp)
    have := nodup_sub_len (l := l) (m := m.erase x) n2 fun y hy => by
      have ne : y ≠ x := fun z => n1 (z ▸ hy)
      exact (List.mem_erase_of_ne ne).mpr (h y (List.mem_cons_of_mem _ hy))
    rw [List.length_erase_of_mem hx] at this
    have hp := List.length_pos_of_mem hx
    rw [List.length_cons]
    omega
theorem canLay_ints (ns : List Int) : PyData.canLayAll0 (toPys (ns.map .int)) = true := by
  induction ns with
  | nil => rfl
  | cons n r ih =>
    rw [List.map_cons, toPys, PyData.canLayAll0, ih]
    rfl
theorem depth_ints (ns : List Int) : PyData.depthAll (toPys (ns.map .int)) = 0 := by
  induction ns with
  | nil => simp [toPys, PyData.depthAll]
  | cons n r ih =>
    rw [List.map_cons, toPys, PyData.depthAll, ih]
    simp [toPy, PyData.depth]
theorem okD_int (i : Int) : okD (.int i) = true := by simp [okD, SeqAt.shaped, toPy, PyData.canLay0, PyData.depth]
theorem okD_non : okD .non = true := by simp [okD, SeqAt.shaped, toPy, PyData.canLay0, PyData.depth]
theorem okD_bl (b : Bool) : okD (.bl b) = true := by simp [okD, SeqAt.shaped, toPy, PyData.canLay0, PyData.depth]
theorem okD_ints (ns : List Int) : okD (.lst (ns.map .int)) = true := by
  simp [okD, SeqAt.shaped, toPy, PyData.canLay0, PyData.depth, canLay_ints, depth_ints]
theorem any_ints (ns : List Int) (x : Int) : ((toPys (ns.map .int)).any fun z => PyData.eqv z (.int x)) = decide (x ∈ ns) := by
  induction ns with
  | nil => rfl
  | cons n r ih =>
    rw [List.map_cons, toPys, List.any_cons, ih]
    by_cases h : n = x
    · subst h; simp [toPy, PyData.eqv]
    · have h' : ¬ x = n := fun z => h z.symm
      simp [toPy, PyData.eqv, h, h']
theorem e_inInts (ns : List Int) (x : Int) : inA [.d (.int x), .l (ns.map .int)] = some (.d (.bl (decide (x ∈ ns)))) := by
  have : inC [.d (.int x), .l (ns.map .int)] = some (.d (.bl (decide (x ∈ ns)))) := by
    show (inDB (.d (.int x)) (.l (ns.map .int))).map _ = _
    have e : inDB (.d (.int x)) (.l (ns.map .int)) = some (decide (x ∈ ns)) := by
      unfold inDB
      show (if okD (.int x) && okD (.lst (ns.map .int)) then some ((toPys (ns.map .int)).any fun z => PyData.eqv z (toPy (.int x))) else none) = _
      rw [okD_int, okD_ints]
      simp only [Bool.and_self, if_true]
      rw [show toPy (.int x) = .int x from rfl, any_ints]
    rw [e]
    rfl
  unfold inA orC
  rw [this]
theorem e_meth (kd : C → Bool) (m : FM) (g : MG) (ms : MA) (L : Ls) : mMeth kd m g ms L = (g L).bind fun p => (contA p.2 p.1).bind fun c => if kd c = true then (ms p.2).bind fun q => if (refsOf (p.1 :: q.1)).Nodup then (conts q.2 (p.1 :: q.1)).bind fun cs => (m cs).bind fun r => if r.2.length = (p.1 :: q.1).length then some (r.1, setRefs q.2 (p.1 :: q.1) r.2) else none else none else none := by
  unfold mMeth
  cases g L with
  | none => rfl
  | some p =>
    obtain ⟨av, L1⟩ := p
    show (match contA L1 av with | some c => _ | none => none) = (contA L1 av).bind _
    cases contA L1 av with
    | none => rfl
    | some c =>
      show (if kd c then _ else none) = (if kd c = true then _ else none)
      by_cases hk : kd c = true
      · rw [if_pos hk, if_pos hk, e_call]
        cases ms L1 with
        | none => rfl
        | some q => rfl
      · rw [if_neg hk, if_neg hk]
theorem e_methO (kd : C → Bool) (f : List C → Option C) (g : MG) (ms : MA) (L : Ls) : mMethO kd f g ms L = (g L).bind fun p => (contA p.2 p.1).bind fun c => if kd c = true then (ms p.2).bind fun q => (conts q.2 (p.1 :: q.1)).bind fun cs => (f cs).bind fun r => some (r, q.2) else none := by
  unfold mMethO
  cases g L with
  | none => rfl
  | some p =>
    obtain ⟨av, L1⟩ := p
    show (match contA L1 av with | some c => _ | none => none) = (contA L1 av).bind _
    cases contA L1 av with
    | none => rfl
    | some c =>
      show (if kd c then _ else none) = (if kd c = true then _ else none)
      by_cases hk : kd c = true
      · rw [if_pos hk, if_pos hk, e_op]
        cases ms L1 with
        | none => rfl
        | some q => rfl
      · rw [if_neg hk, if_neg hk]
theorem e_isLl (xs : List D) : isL (.l xs) = true := rfl
theorem e_isLd (xs : List D) : isL (.d (.lst xs)) = true := rfl
theorem e_append {xs : List D} {x : D} (h : xs.length < 100000) : appendM [.l xs, .d x] = some (.d .non, [.l (xs ++ [x]), .d x]) := by
  show (if xs.length < 100000 then _ else none) = _
  rw [if_pos h]
theorem e_tuL (xs : List D) : tupleC [.l xs] = some (.d (.tup xs)) := rfl
theorem e_tuD (xs : List D) : tupleC [.d (.lst xs)] = some (.d (.tup xs)) := rfl
theorem e_tuT (xs : List D) : tupleC [.d (.tup xs)] = some (.d (.tup xs)) := rfl
theorem e_liL (xs : List D) : listC [.l xs] = some (.l xs) := rfl
theorem e_liD (xs : List D) : listC [.d (.lst xs)] = some (.l xs) := rfl
theorem e_liT (xs : List D) : listC [.d (.tup xs)] = some (.l xs) := rfl
theorem e_lenT (xs : List D) : lenC [.d (.tup xs)] = some (.d (.int xs.length)) := rfl
theorem e_lenD (xs : List D) : lenC [.d (.lst xs)] = some (.d (.int xs.length)) := rfl
theorem e_lenO (xs : List D) : lenC [.l xs] = some (.d (.int xs.length)) := rfl
end VS

namespace VS.L44
open PySem PySem.Spec L2 VS
def topS (i : Nat) : Stmt := PySem.Challenge.pw_kinbranches_k44_fours_judged.main.body.getD i (.Pass ⟨0, 0, 0, 0⟩)
theorem bo_all : bootBuiltins "all" = some (.builtin "all") := by decide +kernel
theorem bo_bool : bootBuiltins "bool" = some (.type "bool") := by decide +kernel
theorem bo_int : bootBuiltins "int" = some (.type "int") := by decide +kernel
theorem bo_isinstance : bootBuiltins "isinstance" = some (.builtin "isinstance") := by decide +kernel
theorem bo_len : bootBuiltins "len" = some (.builtin "len") := by decide +kernel
theorem bo_list : bootBuiltins "list" = some (.type "list") := by decide +kernel
theorem bo_max : bootBuiltins "max" = some (.builtin "max") := by decide +kernel
theorem bo_min : bootBuiltins "min" = some (.builtin "min") := by decide +kernel
theorem bo_repr : bootBuiltins "repr" = some (.builtin "repr") := by decide +kernel
theorem bo_sorted : bootBuiltins "sorted" = some (.builtin "sorted") := by decide +kernel
theorem bo_str : bootBuiltins "str" = some (.type "str") := by decide +kernel
theorem bo_sum : bootBuiltins "sum" = some (.builtin "sum") := by decide +kernel
theorem bo_tuple : bootBuiltins "tuple" = some (.type "tuple") := by decide +kernel
abbrev s_law_pot : Stmt := topS 23
theorem sc_law_pot : FnScope ["script", "k", "total", "number", "cell"] ["script", "k"] (defScope s_law_pot) := ⟨rfl, rfl, rfl, by decide +kernel, rfl, by decide +kernel, by decide +kernel⟩
def b_law_pot_1 : MS :=
  (mSet 2 (mOp modC (maCons (mVal (mOp intC (maCons (mVal (mOp addC (maCons (mVal (mOp addC (maCons (mVal (mOp mulC (maCons (gNameA 2) (maCons (mVal (mC (.int 7919))) maNil)))) (maCons (mVal (mOp mulC (maCons (gNameA 3) (maCons (mVal (mC (.int 611953))) maNil)))) maNil)))) (maCons (mVal (mC (.int 3))) maNil)))) maNil))) (maCons (mVal (mOp addC (maCons (mVal (mOp powC (maCons (mVal (mC (.int 10))) (maCons (mVal (mC (.int 27))) maNil)))) (maCons (mVal (mC (.int 103))) maNil)))) maNil))))
def m_law_pot : FM := mFn 2 5 [0, 1]
  ((mSeq (mSet 2 (mOp addC (maCons (mVal (mOp mulC (maCons (mVal (mC (.int 31))) (maCons (gNameA 1) maNil)))) (maCons (mVal (mC (.int 11))) maNil))))
  (mSeq (mFor (miSeq (mName 0)) (gSet 3) b_law_pot_1)
  (mSeq (mSet 4 (mIfE (tstM (mOp ltC (maCons (gNameA 1) (maCons (mVal (mOp lenC (maCons (gNameA 0) maNil))) maNil)))) (mOp ixA (maCons (gNameA 0) (maCons (gNameA 1) maNil))) (mName 2)))
  (mRet (mOp dispL (maCons (mVal (mOp max2C (maCons (mVal (mC (.int 0))) (maCons (mVal (mOp subC (maCons (gNameA 4) (maCons (mVal (mOp powC (maCons (mVal (mC (.int 10))) (maCons (mVal (mC (.int 18))) maNil)))) maNil)))) maNil)))) (maCons (mVal (mOp modC (maCons (mVal (mOp intC (maCons (mVal (mOp addC (maCons (mVal (mOp mulC (maCons (gNameA 2) (maCons (mVal (mC (.int 5))) maNil)))) (maCons (mVal (mOp mulC (maCons (gNameA 4) (maCons (mVal (mC (.int 9))) maNil)))) maNil)))) maNil))) (maCons (mVal (mOp addC (maCons (mVal (mOp powC (maCons (mVal (mC (.int 10))) (maCons (mVal (mC (.int 29))) maNil)))) (maCons (mVal (mC (.int 319))) maNil)))) maNil)))) (maCons (mVal (mC (.int 0))) maNil)))))))))
abbrev s_law_draw : Stmt := topS 24
theorem sc_law_draw : FnScope ["pot", "many", "found", "mixed"] ["pot", "many"] (defScope s_law_draw) := ⟨rfl, rfl, rfl, by decide +kernel, rfl, by decide +kernel, by decide +kernel⟩
def m_law_draw : FM := mFn 2 4 [0, 1]
  ((mSeq (mIf (tstM (mOp gtC (maCons (mVal (mOp ixA (maCons (gNameA 0) (maCons (mVal (mC (.int 0))) maNil)))) (maCons (mVal (mC (.int 0))) maNil))))
    (mSeq (mSet 2 (mOp modC (maCons (mVal (mOp intC (maCons (mVal (mOp ixA (maCons (gNameA 0) (maCons (mVal (mC (.int 0))) maNil)))) maNil))) (maCons (gNameA 1) maNil))))
    (mSeq (mSetIx (maCons (mVal (mOp fdivC (maCons (mVal (mOp ixA (maCons (gNameA 0) (maCons (mVal (mC (.int 0))) maNil)))) (maCons (gNameA 1) maNil)))) (maCons (gNameA 0) (maCons (mVal (mC (.int 0))) maNil))))
    (mRet (mMove 2))))
    mSkip)
  (mSeq (mSetIx (maCons (mVal (mOp addC (maCons (mVal (mOp ixA (maCons (gNameA 0) (maCons (mVal (mC (.int 2))) maNil)))) (maCons (mVal (mC (.int 1))) maNil)))) (maCons (gNameA 0) (maCons (mVal (mC (.int 2))) maNil))))
  (mSeq (mSet 3 (mOp modC (maCons (mVal (mOp intC (maCons (mVal (mOp addC (maCons (mVal (mOp powC (maCons (mVal (mOp addC (maCons (mVal (mOp ixA (maCons (gNameA 0) (maCons (mVal (mC (.int 1))) maNil)))) (maCons (mVal (mOp mulC (maCons (mVal (mC (.int 32452843))) (maCons (mVal (mOp ixA (maCons (gNameA 0) (maCons (mVal (mC (.int 2))) maNil)))) maNil)))) maNil)))) (maCons (mVal (mC (.int 3))) maNil)))) (maCons (mVal (mOp ixA (maCons (gNameA 0) (maCons (mVal (mC (.int 2))) maNil)))) maNil)))) maNil))) (maCons (mVal (mOp addC (maCons (mVal (mOp powC (maCons (mVal (mC (.int 10))) (maCons (mVal (mC (.int 30))) maNil)))) (maCons (mVal (mC (.int 57))) maNil)))) maNil))))
  (mSeq (mSet 3 (mOp modC (maCons (mVal (mOp intC (maCons (mVal (mOp addC (maCons (mVal (mOp addC (maCons (mVal (mOp mulC (maCons (gNameA 3) (maCons (gNameA 3) maNil)))) (maCons (mVal (mOp ixA (maCons (gNameA 0) (maCons (mVal (mC (.int 1))) maNil)))) maNil)))) (maCons (mVal (mOp mulC (maCons (mVal (mC (.int 7))) (maCons (mVal (mOp ixA (maCons (gNameA 0) (maCons (mVal (mC (.int 2))) maNil)))) maNil)))) maNil)))) maNil))) (maCons (mVal (mOp addC (maCons (mVal (mOp powC (maCons (mVal (mC (.int 10))) (maCons (mVal (mC (.int 28))) maNil)))) (maCons (mVal (mC (.int 331))) maNil)))) maNil))))
  (mRet (mOp modC (maCons (mVal (mOp intC (maCons (mVal (mOp fdivC (maCons (gNameA 3) (maCons (mVal (mC (.int 15485863))) maNil)))) maNil))) (maCons (gNameA 1) maNil)))))))))
abbrev s_law_with : Stmt := topS 37
theorem sc_law_with : FnScope ["distances", "i", "j", "number", "rows", "first", "second", "row"] ["distances", "i", "j", "number"] (defScope s_law_with) := ⟨rfl, rfl, rfl, by decide +kernel, rfl, by decide +kernel, by decide +kernel⟩
def m_law_with : FM := mFn 4 8 [0, 1, 2, 3]
  ((mSeq (mSet 4 (mRm [7] (miSeq (mOp ixA (maCons (gNameA 0) (maCons (mVal (mC (.int 1))) maNil)))) (gSet 7) tYesM (mOp listC (maCons (gNameA 7) maNil))))
  (mSeq (mAl2 4 5 6 1 2 3 2 3 1)
  (mRet (mOp dispT (maCons (mVal (mOp ixA (maCons (gNameA 0) (maCons (mVal (mC (.int 0))) maNil)))) (maCons (mVal (mOp tupleC (maCons (mVal (mLc [7] (miSeq (mName 4)) (gSet 7) tYesM (mOp tupleC (maCons (gNameA 7) maNil)))) maNil))) maNil)))))))
abbrev s_law_any : Stmt := topS 38
theorem sc_law_any : FnScope ["pot", "names", "size", "found", "i", "j"] ["pot", "names"] (defScope s_law_any) := ⟨rfl, rfl, rfl, by decide +kernel, rfl, by decide +kernel, by decide +kernel⟩
def b_law_any_1 : MS :=
  (mSet 3 (mCall m_law_with (maCons (gNameA 3) (maCons (gNameA 4) (maCons (gNameA 5) (maCons (mVal (mCall m_law_draw (maCons (gNameA 0) (maCons (gNameA 2) maNil)))) maNil))))))
def b_law_any_2 : MS :=
  (mFor (miR1 (maCons (gNameA 4) maNil)) (gSet 5) b_law_any_1)
def m_law_any : FM := mFn 2 6 [0, 1]
  ((mSeq (mPar 2 3 (maCons (mVal (mOp ixA (maCons (mVal (mOp dispL (maCons (mVal (mC (.int 2))) (maCons (mVal (mC (.int 3))) (maCons (mVal (mC (.int 6))) (maCons (mVal (mOp addC (maCons (mVal (mOp powC (maCons (mVal (mC (.int 10))) (maCons (mVal (mC (.int 9))) maNil)))) (maCons (mVal (mC (.int 1))) maNil)))) maNil)))))) (maCons (mVal (mCall m_law_draw (maCons (gNameA 0) (maCons (mVal (mC (.int 4))) maNil)))) maNil)))) (maCons (mVal (mOp dispT (maCons (mVal (mName 1)) (maCons (mVal (mFrz (mOp mulC (maCons (mVal (mOp dispT (maCons (mVal (mFrz (mOp mulC (maCons (mVal (mOp dispT (maCons (mVal (mC (.int 0))) maNil))) (maCons (mVal (mOp lenC (maCons (gNameA 1) maNil))) maNil))))) maNil))) (maCons (mVal (mOp lenC (maCons (gNameA 1) maNil))) maNil))))) maNil)))) maNil)))
  (mSeq (mFor (miR1 (maCons (mVal (mOp lenC (maCons (gNameA 1) maNil))) maNil)) (gSet 4) b_law_any_2)
  (mRet (mMove 3)))))
abbrev s_law_bad : Stmt := topS 34
theorem sc_law_bad : FnScope ["table", "four", "a", "b", "c", "d", "sums"] ["table", "four"] (defScope s_law_bad) := ⟨rfl, rfl, rfl, by decide +kernel, rfl, by decide +kernel, by decide +kernel⟩
def m_law_bad : FM := mFn 2 7 [0, 1]
  ((mSeq (mUnp (gUnp 4 (gsCons (gSet 2) (gsCons (gSet 3) (gsCons (gSet 4) (gsCons (gSet 5) gsNil))))) (mName 1))
  (mSeq (mSet 6 (mOp dispL (maCons (mVal (mFrz (mOp addC (maCons (mVal (mOp ixA (maCons (gNameA 0) (maCons (mVal (mOp dispT (maCons (mVal (mName 2)) (maCons (mVal (mName 3)) maNil)))) maNil)))) (maCons (mVal (mOp ixA (maCons (gNameA 0) (maCons (mVal (mOp dispT (maCons (mVal (mName 4)) (maCons (mVal (mName 5)) maNil)))) maNil)))) maNil))))) (maCons (mVal (mFrz (mOp addC (maCons (mVal (mOp ixA (maCons (gNameA 0) (maCons (mVal (mOp dispT (maCons (mVal (mName 2)) (maCons (mVal (mName 4)) maNil)))) maNil)))) (maCons (mVal (mOp ixA (maCons (gNameA 0) (maCons (mVal (mOp dispT (maCons (mVal (mName 3)) (maCons (mVal (mName 5)) maNil)))) maNil)))) maNil))))) (maCons (mVal (mFrz (mOp addC (maCons (mVal (mOp ixA (maCons (gNameA 0) (maCons (mVal (mOp dispT (maCons (mVal (mName 2)) (maCons (mVal (mName 5)) maNil)))) maNil)))) (maCons (mVal (mOp ixA (maCons (gNameA 0) (maCons (mVal (mOp dispT (maCons (mVal (mName 3)) (maCons (mVal (mName 4)) maNil)))) maNil)))) maNil))))) maNil)))))
  (mRet (mOp eqA (maCons (mVal (mMethO isL cntC (gNameA 6) (maCons (mVal (mOp maxC (maCons (gNameA 6) maNil))) maNil))) (maCons (mVal (mC (.int 1))) maNil)))))))
abbrev s_law_first_four : Stmt := topS 36
theorem sc_law_first_four : FnScope ["names", "table", "a", "b", "c", "d", "four"] ["names", "table"] (defScope s_law_first_four) := ⟨rfl, rfl, rfl, by decide +kernel, rfl, by decide +kernel, by decide +kernel⟩
def b_law_first_four_1 : MS :=
  (mSeq (mSet 6 (mOp dispT (maCons (mVal (mOp ixA (maCons (gNameA 0) (maCons (gNameA 2) maNil)))) (maCons (mVal (mOp ixA (maCons (gNameA 0) (maCons (gNameA 3) maNil)))) (maCons (mVal (mOp ixA (maCons (gNameA 0) (maCons (gNameA 4) maNil)))) (maCons (mVal (mOp ixA (maCons (gNameA 0) (maCons (gNameA 5) maNil)))) maNil))))))
  (mIf (tstM (mCall m_law_bad (maCons (gNameA 1) (maCons (gNameA 6) maNil))))
    (mRet (mMove 6))
    mSkip))
def b_law_first_four_2 : MS :=
  (mFor (miR2 (maCons (gNameA 4) (maCons (mVal (mOp lenC (maCons (gNameA 0) maNil))) maNil))) (gSet 5) b_law_first_four_1)
def b_law_first_four_3 : MS :=
  (mFor (miR2 (maCons (gNameA 3) (maCons (mVal (mOp lenC (maCons (gNameA 0) maNil))) maNil))) (gSet 4) b_law_first_four_2)
def b_law_first_four_4 : MS :=
  (mFor (miR2 (maCons (gNameA 2) (maCons (mVal (mOp lenC (maCons (gNameA 0) maNil))) maNil))) (gSet 3) b_law_first_four_3)
def m_law_first_four : FM := mFn 2 7 [0, 1]
  ((mSeq (mFor (miR1 (maCons (mVal (mOp lenC (maCons (gNameA 0) maNil))) maNil)) (gSet 2) b_law_first_four_4)
  (mRet (mC .non))))
abbrev s_law_thing : Stmt := topS 40
theorem sc_law_thing : FnScope ["pot", "names", "table", "four", "way", "bad", "others", "turn"] ["pot", "names", "table"] (defScope s_law_thing) := ⟨rfl, rfl, rfl, by decide +kernel, rfl, by decide +kernel, by decide +kernel⟩
def m_law_thing : FM := mFn 3 8 [0, 1, 2]
  ((mSeq (mSet 3 (mOp tupleC (maCons (mVal (mLc [7] (miR1 (maCons (mVal (mC (.int 4))) maNil)) (gSet 7) tYesM (mOp ixA (maCons (gNameA 1) (maCons (mVal (mCall m_law_draw (maCons (gNameA 0) (maCons (mVal (mOp lenC (maCons (gNameA 1) maNil))) maNil)))) maNil))))) maNil)))
  (mSeq (mSet 4 (mCall m_law_draw (maCons (gNameA 0) (maCons (mVal (mC (.int 12))) maNil))))
  (mSeq (mIf (tstM (mOp ltC (maCons (gNameA 4) (maCons (mVal (mC (.int 6))) maNil))))
    (mRet (mOp tupleC (maCons (mVal (mOp sortC (maCons (gNameA 3) maNil))) maNil)))
    mSkip)
  (mSeq (mIf (tstM (mOp eqA (maCons (gNameA 4) (maCons (mVal (mC (.int 6))) maNil))))
    (mSeq (mSet 5 (mCall m_law_first_four (maCons (gNameA 1) (maCons (gNameA 2) maNil))))
    (mRet (mIfE (tstM (mOp isNC (maCons (gNameA 5) (maCons (mVal (mC .non)) maNil)))) (mRev (mVal (mOp tupleC (maCons (mVal (mOp sortC (maCons (gNameA 3) maNil))) maNil)))) (mOp ixA (maCons (mVal (mOp dispL (maCons (mVal (mName 5)) (maCons (mVal (mFrz (mRev (gNameA 5)))) (maCons (mVal (mFrz (mOp listC (maCons (gNameA 5) maNil)))) (maCons (mVal (mFrz (mSl (gNameA 5) moNone (moSome (mC (.int 3)))))) maNil)))))) (maCons (mVal (mCall m_law_draw (maCons (gNameA 0) (maCons (mVal (mC (.int 4))) maNil)))) maNil))))))
    mSkip)
  (mSeq (mIf (tstM (mOp eqA (maCons (gNameA 4) (maCons (mVal (mC (.int 7))) maNil))))
    (mRet (mMove 3))
    mSkip)
  (mSeq (mSet 6 (mOp dispL (maCons (mVal (mFrz (mSl (gNameA 3) moNone (moSome (mC (.int 3)))))) (maCons (mVal (mOp tupleC (maCons (mVal (mOp sortC (maCons (mVal (mOp addC (maCons (gNameA 3) (maCons (mVal (mSl (gNameA 3) moNone (moSome (mC (.int 1))))) maNil)))) maNil))) maNil))) (maCons (mVal (mC .non)) (maCons (mVal (mC (.int 0))) (maCons (mVal (mMethO isS joinC (mVal (mC (.str ""))) (maCons (gNameA 3) maNil))) (maCons (mVal (mOp dispT maNil)) (maCons (mVal (mFrz (mOp dispL (maCons (mVal (mName 3)) maNil)))) (maCons (mVal (mFrz (mOp addC (maCons (mVal (mSl (gNameA 3) moNone (moSome (mC (.int 3))))) (maCons (mVal (mOp dispT (maCons (mVal (mC (.str ""))) maNil))) maNil))))) (maCons (mVal (mFrz mNewK)) maNil)))))))))))
  (mSeq (mSet 6 (mOp addC (maCons (gNameA 6) (maCons (mVal (mOp dispL (maCons (mVal (mFrz (mOp addC (maCons (mVal (mSl (mVal (mOp tupleC (maCons (mVal (mOp sortC (maCons (gNameA 3) maNil))) maNil))) moNone (moSome (mC (.int 3))))) (maCons (mVal (mOp dispT (maCons (mVal (mC (.str "zzzzzzzzz"))) maNil))) maNil))))) (maCons (mVal (mOp dispT (maCons (mVal (mName 3)) (maCons (mVal (mName 3)) maNil)))) (maCons (mVal (mFrz (mOp addC (maCons (mVal (mSl (mVal (mOp tupleC (maCons (mVal (mOp sortC (maCons (gNameA 3) maNil))) maNil))) moNone (moSome (mC (.int 3))))) (maCons (mVal (mOp dispT (maCons (mVal (mC .non)) maNil))) maNil))))) maNil))))) maNil))))
  (mRet (mOp ixA (maCons (gNameA 6) (maCons (mVal (mCall m_law_draw (maCons (gNameA 0) (maCons (mVal (mOp lenC (maCons (gNameA 6) maNil))) maNil)))) maNil))))))))))))
abbrev s_law_distances : Stmt := topS 33
theorem sc_law_distances : FnScope ["names", "doubled", "rows", "a", "row", "b", "lot"] ["names", "doubled"] (defScope s_law_distances) := ⟨rfl, rfl, rfl, by decide +kernel, rfl, by decide +kernel, by decide +kernel⟩
def b_law_distances_1 : MS :=
  (mExpr (mMeth isL appendM (gNameA 4) (maCons (mVal (mOp fdivC (maCons (mVal (mOp sumC (maCons (mVal (mLk 1 (mLc [6] (miKeys 1) (gSet 6) (tstM (mOp neA (maCons (mVal (mOp inA (maCons (gNameA 3) (maCons (gNameA 6) maNil)))) (maCons (mVal (mOp inA (maCons (gNameA 5) (maCons (gNameA 6) maNil)))) maNil)))) (mOp ixA (maCons (gNameA 1) (maCons (gNameA 6) maNil)))))) maNil))) (maCons (mVal (mC (.int 2))) maNil)))) maNil)))
def b_law_distances_2 : MS :=
  (mSeq (mSet 4 (mOp dispL maNil))
  (mSeq (mFor (miSeq (mName 0)) (gSet 5) b_law_distances_1)
  (mExpr (mMeth isL appendM (gNameA 2) (maCons (mVal (mOp tupleC (maCons (gNameA 4) maNil))) maNil)))))
def m_law_distances : FM := mFn 2 7 [0, 1]
  ((mSeq (mSet 2 (mOp dispL maNil))
  (mSeq (mFor (miSeq (mName 0)) (gSet 3) b_law_distances_2)
  (mRet (mOp dispT (maCons (mVal (mName 0)) (maCons (mVal (mOp tupleC (maCons (gNameA 2) maNil))) maNil)))))))
abbrev s_law_lots : Stmt := topS 28
theorem sc_law_lots : FnScope ["tree", "found", "whole", "child", "lots"] ["tree"] (defScope s_law_lots) := ⟨rfl, rfl, rfl, by decide +kernel, rfl, by decide +kernel, by decide +kernel⟩
def b_law_lots_1 (n : FM) : MS :=
  (mSeq (mSet 4 (mCall n (maCons (gNameA 3) maNil)))
  (mSeq (mSet 1 (mOp addC (maCons (gNameA 1) (maCons (gNameA 4) maNil))))
  (mSet 2 (mOp addC (maCons (gNameA 2) (maCons (mVal (mOp listC (maCons (mVal (mOp ixA (maCons (gNameA 4) (maCons (mVal (mOp negC (maCons (mVal (mC (.int 1))) maNil))) maNil)))) maNil))) maNil))))))
def m_law_lots : Nat → FM
  | 0 => fun _ => none
  | n + 1 => mFn 1 5 [0]
    ((mSeq (mIf (tstM (mOp isiC (maCons (gNameA 0) (maCons (mVal (mC (.ty "str"))) maNil))))
      (mRet (mOp dispL (maCons (mVal (mOp dispT (maCons (mVal (mName 0)) maNil))) maNil)))
      mSkip)
    (mSeq (mPar 1 2 (maCons (mVal (mOp dispL maNil)) (maCons (mVal (mOp dispL maNil)) maNil)))
    (mSeq (mFor (miSeq (mName 0)) (gSet 3) (b_law_lots_1 (m_law_lots n)))
    (mRet (mOp addC (maCons (gNameA 1) (maCons (mVal (mOp dispL (maCons (mVal (mOp tupleC (maCons (mVal (mOp sortC (maCons (gNameA 2) maNil))) maNil))) maNil))) maNil))))))))
abbrev s_law_splits : Stmt := topS 30
theorem sc_law_splits : FnScope ["tree", "lots", "lot"] ["tree"] (defScope s_law_splits) := ⟨rfl, rfl, rfl, by decide +kernel, rfl, by decide +kernel, by decide +kernel⟩
def m_law_splits : FM := mFn 1 3 [0]
  ((mSeq (mSet 1 (mCall (m_law_lots 12) (maCons (gNameA 0) maNil)))
  (mRet (mOp sortC (maCons (mVal (mLc [2] (miSeq (mSl (gNameA 1) moNone (moSome (mOp negC (maCons (mVal (mC (.int 1))) maNil))))) (gSet 2) (tstM (mOp neA (maCons (mVal (mOp ixA (maCons (gNameA 2) (maCons (mVal (mC (.int 0))) maNil)))) (maCons (mVal (mOp ixA (maCons (mVal (mOp ixA (maCons (gNameA 1) (maCons (mVal (mOp negC (maCons (mVal (mC (.int 1))) maNil))) maNil)))) (maCons (mVal (mC (.int 0))) maNil)))) maNil)))) (mName 2))) maNil)))))
abbrev s_law_doubled : Stmt := topS 31
theorem sc_law_doubled : FnScope ["pot", "tree", "lots", "most", "odd", "found", "lot", "above", "off", "least", "other"] ["pot", "tree"] (defScope s_law_doubled) := ⟨rfl, rfl, rfl, by decide +kernel, rfl, by decide +kernel, by decide +kernel⟩
def b_law_doubled_1 : MS :=
  (mSetIx (maCons (mVal (mFrz (mIfE (tstM (mOp eqA (maCons (mVal (mOp lenC (maCons (gNameA 6) maNil))) (maCons (mVal (mC (.int 1))) maNil)))) (mC (.int 0)) (mCall m_law_draw (maCons (gNameA 0) (maCons (mVal (mC (.int 2))) maNil)))))) (maCons (gNameA 4) (maCons (gNameA 6) maNil))))
def b_law_doubled_2 : MS :=
  (mSeq (mSet 7 (mOp sortC (maCons (mVal (mLc [10] (miSeq (mSl (gNameA 2) moNone (moSome (mOp negC (maCons (mVal (mC (.int 1))) maNil))))) (gSet 10) (tAndM (tstM (mOp gtC (maCons (mVal (mOp lenC (maCons (gNameA 10) maNil))) (maCons (mVal (mOp lenC (maCons (gNameA 6) maNil))) maNil)))) (tstM (mOp inA (maCons (mVal (mOp ixA (maCons (gNameA 6) (maCons (mVal (mC (.int 0))) maNil)))) (maCons (gNameA 10) maNil))))) (mOp dispT (maCons (mVal (mOp lenC (maCons (gNameA 10) maNil))) (maCons (mVal (mName 10)) maNil))))) maNil)))
  (mSeq (mSet 8 (mOp modC (maCons (mVal (mOp intC (maCons (mVal (mOp addC (maCons (mVal (mOp ixA (maCons (gNameA 4) (maCons (gNameA 6) maNil)))) (maCons (mVal (mIfE (tstM (mOp neA (maCons (gNameA 7) (maCons (mVal (mOp dispL maNil)) maNil)))) (mOp ixA (maCons (gNameA 4) (maCons (mVal (mOp ixA (maCons (mVal (mOp ixA (maCons (gNameA 7) (maCons (mVal (mC (.int 0))) maNil)))) (maCons (mVal (mC (.int 1))) maNil)))) maNil))) (mC (.int 0)))) maNil)))) maNil))) (maCons (mVal (mC (.int 2))) maNil))))
  (mSeq (mSet 9 (mIfE (tAndM (tstM (mChain ltC ltC (mVal (mC (.int 1))) (mVal (mOp lenC (maCons (gNameA 6) maNil))) (mVal (mOp subC (maCons (mVal (mOp lenC (maCons (mVal (mOp ixA (maCons (gNameA 2) (maCons (mVal (mOp negC (maCons (mVal (mC (.int 1))) maNil))) maNil)))) maNil))) (maCons (mVal (mC (.int 1))) maNil)))))) (tstM (mOp eqA (maCons (gNameA 8) (maCons (mVal (mC (.int 0))) maNil))))) (mC (.int 1)) (mC (.int 0))))
  (mSetIx (maCons (mVal (mFrz (mOp addC (maCons (gNameA 8) (maCons (mVal (mOp mulC (maCons (mVal (mC (.int 2))) (maCons (mVal (mOp addC (maCons (gNameA 9) (maCons (mVal (mCall m_law_draw (maCons (gNameA 0) (maCons (gNameA 3) maNil)))) maNil)))) maNil)))) maNil))))) (maCons (gNameA 5) (maCons (gNameA 6) maNil)))))))
def m_law_doubled : FM := mFn 2 11 [0, 1]
  ((mSeq (mPar 2 3 (maCons (mVal (mCall (m_law_lots 12) (maCons (gNameA 1) maNil))) (maCons (mVal (mOp ixA (maCons (mVal (mOp dispL (maCons (mVal (mC (.int 1))) (maCons (mVal (mC (.int 3))) (maCons (mVal (mC (.int 50))) (maCons (mVal (mOp mulC (maCons (mVal (mC (.int 8))) (maCons (mVal (mOp powC (maCons (mVal (mC (.int 10))) (maCons (mVal (mC (.int 7))) maNil)))) maNil)))) maNil)))))) (maCons (mVal (mCall m_law_draw (maCons (gNameA 0) (maCons (mVal (mC (.int 4))) maNil)))) maNil)))) maNil)))
  (mSeq (mPar 4 5 (maCons (mVal mNewT) (maCons (mVal mNewT) maNil)))
  (mSeq (mFor (miSeq (mName 2)) (gSet 6) b_law_doubled_1)
  (mSeq (mFor (miSeq (mCall m_law_splits (maCons (gNameA 1) maNil))) (gSet 6) b_law_doubled_2)
  (mRet (mMove 5)))))))
abbrev s_law_due : Stmt := topS 41
theorem sc_law_due : FnScope ["names", "table", "value", "name"] ["names", "table", "value"] (defScope s_law_due) := ⟨rfl, rfl, rfl, by decide +kernel, rfl, by decide +kernel, by decide +kernel⟩
def m_law_due : FM := mFn 3 4 [0, 1, 2]
  ((mSeq (mIf (tOrM (tNotM (tstM (mOp isiC (maCons (gNameA 2) (maCons (mVal (mC (.ty "tuple"))) maNil))))) (tOrM (tstM (mOp neA (maCons (mVal (mOp lenC (maCons (gNameA 2) maNil))) (maCons (mVal (mC (.int 4))) maNil)))) (tNotM (tstM (mOp allC (maCons (mVal (mLc [3] (miSeq (mName 2)) (gSet 3) tYesM (mOp isiC (maCons (gNameA 3) (maCons (mVal (mC (.ty "str"))) maNil))))) maNil))))))
    (mRet (mC (.bl false)))
    mSkip)
  (mSeq (mIf (tOrM (tNotM (tstM (mOp allC (maCons (mVal (mLc [3] (miSeq (mName 2)) (gSet 3) tYesM (mOp inA (maCons (gNameA 3) (maCons (gNameA 0) maNil))))) maNil)))) (tstM (mOp neA (maCons (mVal (mOp listC (maCons (gNameA 2) maNil))) (maCons (mVal (mOp sortC (maCons (gNameA 2) maNil))) maNil)))))
    (mRet (mC (.bl false)))
    mSkip)
  (mRet (mCall m_law_bad (maCons (gNameA 1) (maCons (gNameA 2) maNil)))))))
abbrev s_law_word : Stmt := topS 25
theorem sc_law_word : FnScope ["number", "letters", "text", "turn"] ["number"] (defScope s_law_word) := ⟨rfl, rfl, rfl, by decide +kernel, rfl, by decide +kernel, by decide +kernel⟩
def b_law_word_1 : MS :=
  (mIf (tOrM (tstM (mOp gtC (maCons (gNameA 0) (maCons (mVal (mC (.int 0))) maNil)))) (tstM (mOp eqA (maCons (gNameA 2) (maCons (mVal (mC (.str ""))) maNil)))))
    (mSeq (mSet 2 (mOp addC (maCons (mVal (mOp ixA (maCons (gNameA 1) (maCons (mVal (mOp modC (maCons (mVal (mOp intC (maCons (gNameA 0) maNil))) (maCons (mVal (mC (.int 26))) maNil)))) maNil)))) (maCons (gNameA 2) maNil))))
    (mSet 0 (mOp fdivC (maCons (gNameA 0) (maCons (mVal (mC (.int 26))) maNil)))))
    mSkip)
def m_law_word : FM := mFn 1 4 []
  ((mSeq (mUnp (gUnp 2 (gsCons (gSet 1) (gsCons (gSet 2) gsNil))) (mOp dispT (maCons (mVal (mC (.str "abcdefghijklmnopqrstuvwxyz"))) (maCons (mVal (mC (.str ""))) maNil))))
  (mSeq (mFor (miR1 (maCons (mVal (mC (.int 8))) maNil)) (gSet 3) b_law_word_1)
  (mRet (mMove 2)))))
abbrev s_law_names : Stmt := topS 26
theorem sc_law_names : FnScope ["pot", "many", "size", "taken", "turn", "number", "look"] ["pot", "many"] (defScope s_law_names) := ⟨rfl, rfl, rfl, by decide +kernel, rfl, by decide +kernel, by decide +kernel⟩
def b_law_names_1 : MS :=
  (mIf (tstM (mOp inA (maCons (gNameA 5) (maCons (gNameA 3) maNil))))
    (mSet 5 (mOp modC (maCons (mVal (mOp intC (maCons (mVal (mOp addC (maCons (gNameA 5) (maCons (mVal (mC (.int 1))) maNil)))) maNil))) (maCons (gNameA 2) maNil))))
    mSkip)
def b_law_names_2 : MS :=
  (mSeq (mSet 5 (mCall m_law_draw (maCons (gNameA 0) (maCons (gNameA 2) maNil))))
  (mSeq (mFor (miR1 (maCons (gNameA 1) maNil)) (gSet 6) b_law_names_1)
  (mExpr (mMeth isL appendM (gNameA 3) (maCons (mVal (mName 5)) maNil)))))
def m_law_names : FM := mFn 2 7 [0, 1]
  ((mSeq (mPar 2 3 (maCons (mVal (mOp ixA (maCons (mVal (mOp dispL (maCons (mVal (mC (.int 26))) (maCons (mVal (mC (.int 700))) (maCons (mVal (mOp powC (maCons (mVal (mC (.int 26))) (maCons (mVal (mC (.int 8))) maNil)))) maNil))))) (maCons (mVal (mCall m_law_draw (maCons (gNameA 0) (maCons (mVal (mC (.int 3))) maNil)))) maNil)))) (maCons (mVal (mOp dispL maNil)) maNil)))
  (mSeq (mFor (miR1 (maCons (gNameA 1) maNil)) (gSet 4) b_law_names_2)
  (mRet (mOp tupleC (maCons (mVal (mOp sortC (maCons (mVal (mLc [5] (miSeq (mName 3)) (gSet 5) tYesM (mCall m_law_word (maCons (gNameA 5) maNil)))) maNil))) maNil))))))
abbrev s_law_table : Stmt := topS 35
theorem sc_law_table : FnScope ["distances", "found", "a", "row", "b", "number"] ["distances"] (defScope s_law_table) := ⟨rfl, rfl, rfl, by decide +kernel, rfl, by decide +kernel, by decide +kernel⟩
def b_law_table_1 : MS :=
  (mSetIx (maCons (mVal (mName 5)) (maCons (gNameA 1) (maCons (mVal (mOp dispT (maCons (mVal (mName 2)) (maCons (mVal (mName 4)) maNil)))) maNil))))
def b_law_table_2 : MS :=
  (mFor (miZip (maCons (mVal (mOp ixA (maCons (gNameA 0) (maCons (mVal (mC (.int 0))) maNil)))) (maCons (mVal (mName 3)) maNil))) (gUnp 2 (gsCons (gSet 4) (gsCons (gSet 5) gsNil))) b_law_table_1)
def m_law_table : FM := mFn 1 6 [0]
  ((mSeq (mSet 1 mNewT)
  (mSeq (mFor (miZip (maCons (mVal (mOp ixA (maCons (gNameA 0) (maCons (mVal (mC (.int 0))) maNil)))) (maCons (mVal (mOp ixA (maCons (gNameA 0) (maCons (mVal (mC (.int 1))) maNil)))) maNil))) (gUnp 2 (gsCons (gSet 2) (gsCons (gSet 3) gsNil))) b_law_table_2)
  (mRet (mMove 1)))))
abbrev sone_is_greatest : Stmt := topS 14
theorem scone_is_greatest : FnScope ["numbers"] ["numbers"] (defScope sone_is_greatest) := ⟨rfl, rfl, rfl, by decide +kernel, rfl, by decide +kernel, by decide +kernel⟩
def mone_is_greatest : FM := mFn 1 1 [0]
  ((mRet (mOp eqA (maCons (mVal (mMethO isL cntC (gNameA 0) (maCons (mVal (mOp maxC (maCons (gNameA 0) maNil))) maNil))) (maCons (mVal (mC (.int 1))) maNil)))))
abbrev sis_bad_four : Stmt := topS 15
theorem scis_bad_four : FnScope ["table", "four", "a", "b", "c", "d", "sums"] ["table", "four"] (defScope sis_bad_four) := ⟨rfl, rfl, rfl, by decide +kernel, rfl, by decide +kernel, by decide +kernel⟩
def mis_bad_four : FM := mFn 2 7 [0, 1]
  ((mSeq (mUnp (gUnp 4 (gsCons (gSet 2) (gsCons (gSet 3) (gsCons (gSet 4) (gsCons (gSet 5) gsNil))))) (mName 1))
  (mSeq (mSet 6 (mOp dispL (maCons (mVal (mFrz (mOp addC (maCons (mVal (mOp ixA (maCons (gNameA 0) (maCons (mVal (mOp dispT (maCons (mVal (mName 2)) (maCons (mVal (mName 3)) maNil)))) maNil)))) (maCons (mVal (mOp ixA (maCons (gNameA 0) (maCons (mVal (mOp dispT (maCons (mVal (mName 4)) (maCons (mVal (mName 5)) maNil)))) maNil)))) maNil))))) (maCons (mVal (mFrz (mOp addC (maCons (mVal (mOp ixA (maCons (gNameA 0) (maCons (mVal (mOp dispT (maCons (mVal (mName 2)) (maCons (mVal (mName 4)) maNil)))) maNil)))) (maCons (mVal (mOp ixA (maCons (gNameA 0) (maCons (mVal (mOp dispT (maCons (mVal (mName 3)) (maCons (mVal (mName 5)) maNil)))) maNil)))) maNil))))) (maCons (mVal (mFrz (mOp addC (maCons (mVal (mOp ixA (maCons (gNameA 0) (maCons (mVal (mOp dispT (maCons (mVal (mName 2)) (maCons (mVal (mName 5)) maNil)))) maNil)))) (maCons (mVal (mOp ixA (maCons (gNameA 0) (maCons (mVal (mOp dispT (maCons (mVal (mName 3)) (maCons (mVal (mName 4)) maNil)))) maNil)))) maNil))))) maNil)))))
  (mRet (mCall mone_is_greatest (maCons (gNameA 6) maNil))))))
abbrev sis_integer : Stmt := topS 6
theorem scis_integer : FnScope ["value"] ["value"] (defScope sis_integer) := ⟨rfl, rfl, rfl, by decide +kernel, rfl, by decide +kernel, by decide +kernel⟩
def mis_integer : FM := mFn 1 1 [0]
  ((mRet (mAndV (mOp isiC (maCons (gNameA 0) (maCons (mVal (mC (.ty "int"))) maNil))) (mNotV (mOp isiC (maCons (gNameA 0) (maCons (mVal (mC (.ty "bool"))) maNil)))))))
abbrev sis_between : Stmt := topS 7
theorem scis_between : FnScope ["least", "value", "most"] ["least", "value", "most"] (defScope sis_between) := ⟨rfl, rfl, rfl, by decide +kernel, rfl, by decide +kernel, by decide +kernel⟩
def mis_between : FM := mFn 3 3 [0, 1, 2]
  ((mRet (mAndV (mCall mis_integer (maCons (gNameA 1) maNil)) (mChain leC leC (gNameA 0) (gNameA 1) (gNameA 2)))))
abbrev sis_tuple_of : Stmt := topS 8
theorem scis_tuple_of : FnScope ["length", "value"] ["length", "value"] (defScope sis_tuple_of) := ⟨rfl, rfl, rfl, by decide +kernel, rfl, by decide +kernel, by decide +kernel⟩
def mis_tuple_of : FM := mFn 2 2 [0, 1]
  ((mRet (mAndV (mOp isiC (maCons (gNameA 1) (maCons (mVal (mC (.ty "tuple"))) maNil))) (mOp eqA (maCons (mVal (mOp lenC (maCons (gNameA 1) maNil))) (maCons (gNameA 0) maNil))))))
abbrev sare_rows : Stmt := topS 18
theorem scare_rows : FnScope ["value", "many", "row", "number", "i", "j"] ["value", "many"] (defScope sare_rows) := ⟨rfl, rfl, rfl, by decide +kernel, rfl, by decide +kernel, by decide +kernel⟩
def mare_rows : FM := mFn 2 6 [0, 1]
  ((mSeq (mIf (tOrM (tNotM (tstM (mCall mis_tuple_of (maCons (gNameA 1) (maCons (gNameA 0) maNil))))) (tNotM (tstM (mOp allC (maCons (mVal (mLc [2] (miSeq (mName 0)) (gSet 2) tYesM (mCall mis_tuple_of (maCons (gNameA 1) (maCons (gNameA 2) maNil))))) maNil)))))
    (mRet (mC (.bl false)))
    mSkip)
  (mSeq (mIf (tNotM (tstM (mOp allC (maCons (mVal (mLc2 [2, 3] [3] (miSeq (mName 0)) (gSet 2) tYesM (miSeq (mName 2)) (gSet 3) tYesM (mCall mis_between (maCons (mVal (mC (.int 0))) (maCons (gNameA 3) (maCons (mVal (mC (.int 1000000000))) maNil)))))) maNil))))
    (mRet (mC (.bl false)))
    mSkip)
  (mRet (mOp allC (maCons (mVal (mLc2 [4, 5] [5] (miR1 (maCons (gNameA 1) maNil)) (gSet 4) tYesM (miR1 (maCons (gNameA 1) maNil)) (gSet 5) tYesM (mOp eqA (maCons (mVal (mOp ixA (maCons (mVal (mOp ixA (maCons (gNameA 0) (maCons (gNameA 4) maNil)))) (maCons (gNameA 5) maNil)))) (maCons (mVal (mIfE (tstM (mOp neA (maCons (gNameA 4) (maCons (gNameA 5) maNil)))) (mOp ixA (maCons (mVal (mOp ixA (maCons (gNameA 0) (maCons (gNameA 5) maNil)))) (maCons (gNameA 4) maNil))) (mC (.int 0)))) maNil))))) maNil))))))
abbrev sis_word : Stmt := topS 9
theorem scis_word : FnScope ["value", "sign"] ["value"] (defScope sis_word) := ⟨rfl, rfl, rfl, by decide +kernel, rfl, by decide +kernel, by decide +kernel⟩
def mis_word : FM := mFn 1 2 [0]
  ((mRet (mAndV (mOp isiC (maCons (gNameA 0) (maCons (mVal (mC (.ty "str"))) maNil))) (mAndV (mChain leC leC (mVal (mC (.int 1))) (mVal (mOp lenC (maCons (gNameA 0) maNil))) (mVal (mC (.int 8)))) (mOp allC (maCons (mVal (mLc [1] (miStr (mName 0)) (gSet 1) tYesM (mChain leC leC (mVal (mC (.str "a"))) (gNameA 1) (mVal (mC (.str "z")))))) maNil))))))
abbrev sis_lot : Stmt := topS 10
theorem scis_lot : FnScope ["value", "name", "one", "other"] ["value"] (defScope sis_lot) := ⟨rfl, rfl, rfl, by decide +kernel, rfl, by decide +kernel, by decide +kernel⟩
def mis_lot : FM := mFn 1 4 [0]
  ((mSeq (mIf (tOrM (tNotM (tstM (mOp isiC (maCons (gNameA 0) (maCons (mVal (mC (.ty "tuple"))) maNil))))) (tOrM (tstM (mOp eqA (maCons (gNameA 0) (maCons (mVal (mOp dispT maNil)) maNil)))) (tNotM (tstM (mOp allC (maCons (mVal (mLc [1] (miSeq (mName 0)) (gSet 1) tYesM (mCall mis_word (maCons (gNameA 1) maNil)))) maNil))))))
    (mRet (mC (.bl false)))
    mSkip)
  (mRet (mOp allC (maCons (mVal (mLc [2, 3] (miZip (maCons (mVal (mName 0)) (maCons (mVal (mFrz (mSl (gNameA 0) (moSome (mC (.int 1))) moNone))) maNil))) (gUnp 2 (gsCons (gSet 2) (gsCons (gSet 3) gsNil))) tYesM (mOp ltC (maCons (gNameA 2) (maCons (gNameA 3) maNil))))) maNil)))))
abbrev sare_distances : Stmt := topS 19
theorem scare_distances : FnScope ["value"] ["value"] (defScope sare_distances) := ⟨rfl, rfl, rfl, by decide +kernel, rfl, by decide +kernel, by decide +kernel⟩
def mare_distances : FM := mFn 1 1 [0]
  ((mSeq (mIf (tOrM (tNotM (tstM (mCall mis_tuple_of (maCons (mVal (mC (.int 2))) (maCons (gNameA 0) maNil))))) (tOrM (tNotM (tstM (mCall mis_lot (maCons (mVal (mOp ixA (maCons (gNameA 0) (maCons (mVal (mC (.int 0))) maNil)))) maNil)))) (tstM (mOp gtC (maCons (mVal (mOp lenC (maCons (mVal (mOp ixA (maCons (gNameA 0) (maCons (mVal (mC (.int 0))) maNil)))) maNil))) (maCons (mVal (mC (.int 12))) maNil))))))
    (mRet (mC (.bl false)))
    mSkip)
  (mRet (mCall mare_rows (maCons (mVal (mOp ixA (maCons (gNameA 0) (maCons (mVal (mC (.int 1))) maNil)))) (maCons (mVal (mOp lenC (maCons (mVal (mOp ixA (maCons (gNameA 0) (maCons (mVal (mC (.int 0))) maNil)))) maNil))) maNil))))))
abbrev scheck_distances : Stmt := topS 20
theorem sccheck_distances : FnScope ["distances"] ["distances"] (defScope scheck_distances) := ⟨rfl, rfl, rfl, by decide +kernel, rfl, by decide +kernel, by decide +kernel⟩
def mcheck_distances : FM := mFn 1 1 [0]
  ((mIf (tNotM (tstM (mCall mare_distances (maCons (gNameA 0) maNil))))
    mNever
    mSkip))
abbrev stable_of : Stmt := topS 13
theorem sctable_of : FnScope ["distances", "names", "rows", "found", "name", "row", "other", "number"] ["distances"] (defScope stable_of) := ⟨rfl, rfl, rfl, by decide +kernel, rfl, by decide +kernel, by decide +kernel⟩
def btable_of_1 : MS :=
  (mSetIx (maCons (mVal (mName 7)) (maCons (gNameA 3) (maCons (mVal (mOp dispT (maCons (mVal (mName 4)) (maCons (mVal (mName 6)) maNil)))) maNil))))
def btable_of_2 : MS :=
  (mFor (miZip (maCons (mVal (mName 1)) (maCons (mVal (mName 5)) maNil))) (gUnp 2 (gsCons (gSet 6) (gsCons (gSet 7) gsNil))) btable_of_1)
def mtable_of : FM := mFn 1 8 [0]
  ((mSeq (mUnp (gUnp 2 (gsCons (gSet 1) (gsCons (gSet 2) gsNil))) (mName 0))
  (mSeq (mSet 3 mNewT)
  (mSeq (mFor (miZip (maCons (mVal (mName 1)) (maCons (mVal (mName 2)) maNil))) (gUnp 2 (gsCons (gSet 4) (gsCons (gSet 5) gsNil))) btable_of_2)
  (mRet (mMove 3))))))
abbrev sfour_holds : Stmt := topS 21
theorem scfour_holds : FnScope ["distances", "value", "names", "name"] ["distances", "value"] (defScope sfour_holds) := ⟨rfl, rfl, rfl, by decide +kernel, rfl, by decide +kernel, by decide +kernel⟩
def mfour_holds : FM := mFn 2 4 [0, 1]
  ((mSeq (mExpr (mCall mcheck_distances (maCons (gNameA 0) maNil)))
  (mSeq (mSet 2 (mOp ixA (maCons (gNameA 0) (maCons (mVal (mC (.int 0))) maNil))))
  (mSeq (mIf (tOrM (tNotM (tstM (mCall mis_tuple_of (maCons (mVal (mC (.int 4))) (maCons (gNameA 1) maNil))))) (tNotM (tstM (mOp allC (maCons (mVal (mLc [3] (miSeq (mName 1)) (gSet 3) tYesM (mAndV (mCall mis_word (maCons (gNameA 3) maNil)) (mOp inA (maCons (gNameA 3) (maCons (gNameA 2) maNil)))))) maNil)))))
    (mRet (mC (.bl false)))
    mSkip)
  (mRet (mAndV (mOp eqA (maCons (mVal (mOp listC (maCons (gNameA 1) maNil))) (maCons (mVal (mOp sortC (maCons (gNameA 1) maNil))) maNil))) (mCall mis_bad_four (maCons (mVal (mCall mtable_of (maCons (gNameA 0) maNil))) (maCons (gNameA 1) maNil)))))))))
abbrev s_law_near : Stmt := topS 39
theorem sc_law_near : FnScope ["pot", "distances", "names", "i", "j", "step"] ["pot", "distances"] (defScope s_law_near) := ⟨rfl, rfl, rfl, by decide +kernel, rfl, by decide +kernel, by decide +kernel⟩
def m_law_near : FM := mFn 2 6 [0, 1]
  ((mSeq (mSet 2 (mOp ixA (maCons (gNameA 1) (maCons (mVal (mC (.int 0))) maNil))))
  (mSeq (mIf (tstM (mOp eqA (maCons (mVal (mOp lenC (maCons (gNameA 2) maNil))) (maCons (mVal (mC (.int 1))) maNil))))
    (mRet (mMove 1))
    mSkip)
  (mSeq (mSet 3 (mOp addC (maCons (mVal (mC (.int 1))) (maCons (mVal (mCall m_law_draw (maCons (gNameA 0) (maCons (mVal (mOp subC (maCons (mVal (mOp lenC (maCons (gNameA 2) maNil))) (maCons (mVal (mC (.int 1))) maNil)))) maNil)))) maNil))))
  (mSeq (mPar 4 5 (maCons (mVal (mCall m_law_draw (maCons (gNameA 0) (maCons (gNameA 3) maNil)))) (maCons (mVal (mOp ixA (maCons (mVal (mOp dispL (maCons (mVal (mC (.int 1))) (maCons (mVal (mC (.int 2))) (maCons (mVal (mOp negC (maCons (mVal (mC (.int 1))) maNil))) (maCons (mVal (mOp negC (maCons (mVal (mC (.int 2))) maNil))) maNil)))))) (maCons (mVal (mCall m_law_draw (maCons (gNameA 0) (maCons (mVal (mC (.int 4))) maNil)))) maNil)))) maNil)))
  (mRet (mCall m_law_with (maCons (gNameA 1) (maCons (gNameA 3) (maCons (gNameA 4) (maCons (mVal (mOp min2C (maCons (mVal (mOp powC (maCons (mVal (mC (.int 10))) (maCons (mVal (mC (.int 9))) maNil)))) (maCons (mVal (mOp max2C (maCons (mVal (mC (.int 0))) (maCons (mVal (mOp addC (maCons (mVal (mOp ixA (maCons (mVal (mOp ixA (maCons (mVal (mOp ixA (maCons (gNameA 1) (maCons (mVal (mC (.int 1))) maNil)))) (maCons (gNameA 3) maNil)))) (maCons (gNameA 4) maNil)))) (maCons (gNameA 5) maNil)))) maNil)))) maNil)))) maNil)))))))))))
abbrev s_law_tree : Stmt := topS 27
theorem sc_law_tree : FnScope ["pot", "names", "most", "parts", "turn", "chosen", "pick", "name", "part"] ["pot", "names", "most"] (defScope s_law_tree) := ⟨rfl, rfl, rfl, by decide +kernel, rfl, by decide +kernel, by decide +kernel⟩
def b_law_tree_1 : MS :=
  (mExpr (mMeth isL appendM (gNameA 5) (maCons (mVal (mMeth isL popAtM (gNameA 3) (maCons (mVal (mCall m_law_draw (maCons (gNameA 0) (maCons (mVal (mOp lenC (maCons (gNameA 3) maNil))) maNil)))) maNil))) maNil)))
def b_law_tree_2 : MS :=
  (mIf (tstM (mOp gtC (maCons (mVal (mOp lenC (maCons (gNameA 3) maNil))) (maCons (mVal (mC (.int 1))) maNil))))
    (mSeq (mSet 5 (mOp dispL maNil))
    (mSeq (mFor (miR1 (maCons (mVal (mOp min2C (maCons (mVal (mOp lenC (maCons (gNameA 3) maNil))) (maCons (mVal (mOp addC (maCons (mVal (mC (.int 2))) (maCons (mVal (mCall m_law_draw (maCons (gNameA 0) (maCons (mVal (mOp subC (maCons (gNameA 2) (maCons (mVal (mC (.int 1))) maNil)))) maNil)))) maNil)))) maNil)))) maNil)) (gSet 6) b_law_tree_1)
    (mSeq (mSet 5 (mOp sortC (maCons (gNameA 5) maNil)))
    (mExpr (mMeth isL appendM (gNameA 3) (maCons (mVal (mOp dispT (maCons (mVal (mOp ixA (maCons (mVal (mOp ixA (maCons (gNameA 5) (maCons (mVal (mC (.int 0))) maNil)))) (maCons (mVal (mC (.int 0))) maNil)))) (maCons (mVal (mOp tupleC (maCons (mVal (mLc [8] (miSeq (mName 5)) (gSet 8) tYesM (mOp ixA (maCons (gNameA 8) (maCons (mVal (mC (.int 1))) maNil))))) maNil))) maNil)))) maNil))))))
    mSkip)
def m_law_tree : FM := mFn 3 9 [0, 1, 2]
  ((mSeq (mSet 3 (mLc [7] (miSeq (mName 1)) (gSet 7) tYesM (mOp dispT (maCons (mVal (mName 7)) (maCons (mVal (mName 7)) maNil)))))
  (mSeq (mFor (miR1 (maCons (mVal (mOp lenC (maCons (gNameA 1) maNil))) maNil)) (gSet 4) b_law_tree_2)
  (mRet (mOp ixA (maCons (mVal (mOp ixA (maCons (gNameA 3) (maCons (mVal (mC (.int 0))) maNil)))) (maCons (mVal (mC (.int 1))) maNil)))))))
abbrev s_law_hung : Stmt := topS 29
theorem sc_law_hung : FnScope ["pot", "names"] ["pot", "names"] (defScope s_law_hung) := ⟨rfl, rfl, rfl, by decide +kernel, rfl, by decide +kernel, by decide +kernel⟩
def m_law_hung : FM := mFn 2 2 [0, 1]
  ((mSeq (mIf (tstM (mOp eqA (maCons (mVal (mOp lenC (maCons (gNameA 1) maNil))) (maCons (mVal (mC (.int 1))) maNil))))
    (mRet (mOp ixA (maCons (gNameA 1) (maCons (mVal (mC (.int 0))) maNil))))
    mSkip)
  (mRet (mOp dispT (maCons (mVal (mOp ixA (maCons (gNameA 1) (maCons (mVal (mC (.int 0))) maNil)))) (maCons (mVal (mFrz (mCall m_law_tree (maCons (gNameA 0) (maCons (mVal (mSl (gNameA 1) (moSome (mC (.int 1))) moNone)) (maCons (mVal (mOp ixA (maCons (mVal (mOp dispL (maCons (mVal (mC (.int 2))) (maCons (mVal (mC (.int 2))) (maCons (mVal (mC (.int 4))) maNil))))) (maCons (mVal (mCall m_law_draw (maCons (gNameA 0) (maCons (mVal (mC (.int 3))) maNil)))) maNil)))) maNil)))))) maNil))))))
abbrev s_law_right : Stmt := topS 42
theorem sc_law_right : FnScope ["pot", "names", "distances", "table", "kept", "turn", "value", "shown", "due", "told"] ["pot"] (defScope s_law_right) := ⟨rfl, rfl, rfl, by decide +kernel, rfl, by decide +kernel, by decide +kernel⟩
def b_law_right_1 : MS :=
  (mSeq (mSet 6 (mCall m_law_thing (maCons (gNameA 0) (maCons (gNameA 1) (maCons (gNameA 3) maNil)))))
  (mSeq (mSet 7 (mOp reprC (maCons (gNameA 6) maNil)))
  (mSeq (mSet 8 (mCall m_law_due (maCons (gNameA 1) (maCons (gNameA 3) (maCons (gNameA 6) maNil)))))
  (mSeq (mSet 9 (mOp dispL (maCons (mVal (mFrz (mCall mfour_holds (maCons (gNameA 2) (maCons (gNameA 6) maNil))))) (maCons (mVal (mFrz (mCallD mfour_holds [1, 0] (maCons (mVal (mName 6)) (maCons (mVal (mName 2)) maNil))))) maNil))))
  (mSeq (mIf (tstM (mOp neA (maCons (mVal (mOp reprC (maCons (gNameA 9) maNil))) (maCons (mVal (mOp reprC (maCons (mVal (mOp dispL (maCons (mVal (mName 8)) (maCons (mVal (mName 8)) maNil)))) maNil))) maNil))))
    (mRet (mC (.bl false)))
    mSkip)
  (mIf (tstM (mOp neA (maCons (mVal (mOp reprC (maCons (gNameA 6) maNil))) (maCons (gNameA 7) maNil))))
    (mRet (mC (.bl false)))
    mSkip))))))
def m_law_right : FM := mFn 1 10 [0]
  ((mSeq (mSet 1 (mCall m_law_names (maCons (gNameA 0) (maCons (mVal (mOp addC (maCons (mVal (mC (.int 3))) (maCons (mVal (mCall m_law_draw (maCons (gNameA 0) (maCons (mVal (mC (.int 7))) maNil)))) maNil)))) maNil))))
  (mSeq (mSet 2 (mCall m_law_any (maCons (gNameA 0) (maCons (gNameA 1) maNil))))
  (mSeq (mIf (tstM (mOp gtC (maCons (mVal (mCall m_law_draw (maCons (gNameA 0) (maCons (mVal (mC (.int 3))) maNil)))) (maCons (mVal (mC (.int 0))) maNil))))
    (mSet 2 (mCall m_law_near (maCons (gNameA 0) (maCons (mVal (mCall m_law_distances (maCons (gNameA 1) (maCons (mVal (mCall m_law_doubled (maCons (gNameA 0) (maCons (mVal (mCall m_law_hung (maCons (gNameA 0) (maCons (gNameA 1) maNil)))) maNil)))) maNil)))) maNil))))
    mSkip)
  (mSeq (mPar 3 4 (maCons (mVal (mCall m_law_table (maCons (gNameA 2) maNil))) (maCons (mVal (mOp reprC (maCons (gNameA 2) maNil))) maNil)))
  (mSeq (mFor (miR1 (maCons (mVal (mC (.int 20))) maNil)) (gSet 5) b_law_right_1)
  (mRet (mOp eqA (maCons (mVal (mOp reprC (maCons (gNameA 2) maNil))) (maCons (gNameA 4) maNil))))))))))
abbrev slaw : Stmt := topS 43
theorem sclaw : FnScope ["script", "k"] ["script"] (defScope slaw) := ⟨rfl, rfl, rfl, by decide +kernel, rfl, by decide +kernel, by decide +kernel⟩
def blaw_1 : MS :=
  (mIf (tNotM (tstM (mCall m_law_right (maCons (mVal (mCall m_law_pot (maCons (gNameA 0) (maCons (gNameA 1) maNil)))) maNil))))
    (mRet (mC (.bl false)))
    mSkip)
def mlaw : FM := mFn 1 2 [0]
  ((mSeq (mFor (miR1 (maCons (mVal (mOp max2C (maCons (mVal (mC (.int 1))) (maCons (mVal (mOp min2C (maCons (mVal (mC (.int 2))) (maCons (mVal (mOp lenC (maCons (gNameA 0) maNil))) maNil)))) maNil)))) maNil)) (gSet 1) blaw_1)
  (mRet (mC (.bl true)))))
structure Tops (K : PySem.W.Frag) (mg : PySem.Str → Option Value) where
  f_law_pot : Addr
  d_law_pot : FuncData
  F_law_pot : Fun K "_law_pot" "_law_pot" s_law_pot f_law_pot d_law_pot
  g_law_pot : mg "_law_pot" = some (.ref f_law_pot)
  b_law_pot : Binds K d_law_pot ["script", "k"] []
  f_law_draw : Addr
  d_law_draw : FuncData
  F_law_draw : Fun K "_law_draw" "_law_draw" s_law_draw f_law_draw d_law_draw
  g_law_draw : mg "_law_draw" = some (.ref f_law_draw)
  b_law_draw : Binds K d_law_draw ["pot", "many"] []
  f_law_with : Addr
  d_law_with : FuncData
  F_law_with : Fun K "_law_with" "_law_with" s_law_with f_law_with d_law_with
  g_law_with : mg "_law_with" = some (.ref f_law_with)
  b_law_with : Binds K d_law_with ["distances", "i", "j", "number"] []
  f_law_any : Addr
  d_law_any : FuncData
  F_law_any : Fun K "_law_any" "_law_any" s_law_any f_law_any d_law_any
  g_law_any : mg "_law_any" = some (.ref f_law_any)
  b_law_any : Binds K d_law_any ["pot", "names"] []
  f_law_bad : Addr
  d_law_bad : FuncData
  F_law_bad : Fun K "_law_bad" "_law_bad" s_law_bad f_law_bad d_law_bad
  g_law_bad : mg "_law_bad" = some (.ref f_law_bad)
  b_law_bad : Binds K d_law_bad ["table", "four"] []
  f_law_first_four : Addr
  d_law_first_four : FuncData
  F_law_first_four : Fun K "_law_first_four" "_law_first_four" s_law_first_four f_law_first_four d_law_first_four
  g_law_first_four : mg "_law_first_four" = some (.ref f_law_first_four)
  b_law_first_four : Binds K d_law_first_four ["names", "table"] []
  f_law_thing : Addr
  d_law_thing : FuncData
  F_law_thing : Fun K "_law_thing" "_law_thing" s_law_thing f_law_thing d_law_thing
  g_law_thing : mg "_law_thing" = some (.ref f_law_thing)
  b_law_thing : Binds K d_law_thing ["pot", "names", "table"] []
  f_law_distances : Addr
  d_law_distances : FuncData
  F_law_distances : Fun K "_law_distances" "_law_distances" s_law_distances f_law_distances d_law_distances
  g_law_distances : mg "_law_distances" = some (.ref f_law_distances)
  b_law_distances : Binds K d_law_distances ["names", "doubled"] []
  f_law_lots : Addr
  d_law_lots : FuncData
  F_law_lots : Fun K "_law_lots" "_law_lots" s_law_lots f_law_lots d_law_lots
  g_law_lots : mg "_law_lots" = some (.ref f_law_lots)
  b_law_lots : Binds K d_law_lots ["tree"] []
  f_law_splits : Addr
  d_law_splits : FuncData
  F_law_splits : Fun K "_law_splits" "_law_splits" s_law_splits f_law_splits d_law_splits
  g_law_splits : mg "_law_splits" = some (.ref f_law_splits)
  b_law_splits : Binds K d_law_splits ["tree"] []
  f_law_doubled : Addr
  d_law_doubled : FuncData
  F_law_doubled : Fun K "_law_doubled" "_law_doubled" s_law_doubled f_law_doubled d_law_doubled
  g_law_doubled : mg "_law_doubled" = some (.ref f_law_doubled)
  b_law_doubled : Binds K d_law_doubled ["pot", "tree"] []
  f_law_due : Addr
  d_law_due : FuncData
  F_law_due : Fun K "_law_due" "_law_due" s_law_due f_law_due d_law_due
  g_law_due : mg "_law_due" = some (.ref f_law_due)
  b_law_due : Binds K d_law_due ["names", "table", "value"] []
  f_law_word : Addr
  d_law_word : FuncData
  F_law_word : Fun K "_law_word" "_law_word" s_law_word f_law_word d_law_word
  g_law_word : mg "_law_word" = some (.ref f_law_word)
  b_law_word : Binds K d_law_word ["number"] []
  f_law_names : Addr
  d_law_names : FuncData
  F_law_names : Fun K "_law_names" "_law_names" s_law_names f_law_names d_law_names
  g_law_names : mg "_law_names" = some (.ref f_law_names)
  b_law_names : Binds K d_law_names ["pot", "many"] []
  f_law_table : Addr
  d_law_table : FuncData
  F_law_table : Fun K "_law_table" "_law_table" s_law_table f_law_table d_law_table
  g_law_table : mg "_law_table" = some (.ref f_law_table)
  b_law_table : Binds K d_law_table ["distances"] []
  fone_is_greatest : Addr
  done_is_greatest : FuncData
  Fone_is_greatest : Fun K "one_is_greatest" "one_is_greatest" sone_is_greatest fone_is_greatest done_is_greatest
  gone_is_greatest : mg "one_is_greatest" = some (.ref fone_is_greatest)
  bone_is_greatest : Binds K done_is_greatest ["numbers"] []
  fis_bad_four : Addr
  dis_bad_four : FuncData
  Fis_bad_four : Fun K "is_bad_four" "is_bad_four" sis_bad_four fis_bad_four dis_bad_four
  gis_bad_four : mg "is_bad_four" = some (.ref fis_bad_four)
  bis_bad_four : Binds K dis_bad_four ["table", "four"] []
  fis_integer : Addr
  dis_integer : FuncData
  Fis_integer : Fun K "is_integer" "is_integer" sis_integer fis_integer dis_integer
  gis_integer : mg "is_integer" = some (.ref fis_integer)
  bis_integer : Binds K dis_integer ["value"] []
  fis_between : Addr
  dis_between : FuncData
  Fis_between : Fun K "is_between" "is_between" sis_between fis_between dis_between
  gis_between : mg "is_between" = some (.ref fis_between)
  bis_between : Binds K dis_between ["least", "value", "most"] []
  fis_tuple_of : Addr
  dis_tuple_of : FuncData
  Fis_tuple_of : Fun K "is_tuple_of" "is_tuple_of" sis_tuple_of fis_tuple_of dis_tuple_of
  gis_tuple_of : mg "is_tuple_of" = some (.ref fis_tuple_of)
  bis_tuple_of : Binds K dis_tuple_of ["length", "value"] []
  fare_rows : Addr
  dare_rows : FuncData
  Fare_rows : Fun K "are_rows" "are_rows" sare_rows fare_rows dare_rows
  gare_rows : mg "are_rows" = some (.ref fare_rows)
  bare_rows : Binds K dare_rows ["value", "many"] []
  fis_word : Addr
  dis_word : FuncData
  Fis_word : Fun K "is_word" "is_word" sis_word fis_word dis_word
  gis_word : mg "is_word" = some (.ref fis_word)
  bis_word : Binds K dis_word ["value"] []
  fis_lot : Addr
  dis_lot : FuncData
  Fis_lot : Fun K "is_lot" "is_lot" sis_lot fis_lot dis_lot
  gis_lot : mg "is_lot" = some (.ref fis_lot)
  bis_lot : Binds K dis_lot ["value"] []
  fare_distances : Addr
  dare_distances : FuncData
  Fare_distances : Fun K "are_distances" "are_distances" sare_distances fare_distances dare_distances
  gare_distances : mg "are_distances" = some (.ref fare_distances)
  bare_distances : Binds K dare_distances ["value"] []
  fcheck_distances : Addr
  dcheck_distances : FuncData
  Fcheck_distances : Fun K "check_distances" "check_distances" scheck_distances fcheck_distances dcheck_distances
  gcheck_distances : mg "check_distances" = some (.ref fcheck_distances)
  bcheck_distances : Binds K dcheck_distances ["distances"] []
  ftable_of : Addr
  dtable_of : FuncData
  Ftable_of : Fun K "table_of" "table_of" stable_of ftable_of dtable_of
  gtable_of : mg "table_of" = some (.ref ftable_of)
  btable_of : Binds K dtable_of ["distances"] []
  ffour_holds : Addr
  dfour_holds : FuncData
  Ffour_holds : Fun K "four_holds" "four_holds" sfour_holds ffour_holds dfour_holds
  gfour_holds : mg "four_holds" = some (.ref ffour_holds)
  bfour_holds : Binds K dfour_holds ["distances", "value"] []
  f_law_near : Addr
  d_law_near : FuncData
  F_law_near : Fun K "_law_near" "_law_near" s_law_near f_law_near d_law_near
  g_law_near : mg "_law_near" = some (.ref f_law_near)
  b_law_near : Binds K d_law_near ["pot", "distances"] []
  f_law_tree : Addr
  d_law_tree : FuncData
  F_law_tree : Fun K "_law_tree" "_law_tree" s_law_tree f_law_tree d_law_tree
  g_law_tree : mg "_law_tree" = some (.ref f_law_tree)
  b_law_tree : Binds K d_law_tree ["pot", "names", "most"] []
  f_law_hung : Addr
  d_law_hung : FuncData
  F_law_hung : Fun K "_law_hung" "_law_hung" s_law_hung f_law_hung d_law_hung
  g_law_hung : mg "_law_hung" = some (.ref f_law_hung)
  b_law_hung : Binds K d_law_hung ["pot", "names"] []
  f_law_right : Addr
  d_law_right : FuncData
  F_law_right : Fun K "_law_right" "_law_right" s_law_right f_law_right d_law_right
  g_law_right : mg "_law_right" = some (.ref f_law_right)
  b_law_right : Binds K d_law_right ["pot"] []
  flaw : Addr
  dlaw : FuncData
  Flaw : Fun K "law" "law" slaw flaw dlaw
  glaw : mg "law" = some (.ref flaw)
  blaw : Binds K dlaw ["script"] []
  kfour_holds_value_distances : KB0 K dfour_holds ["distances", "value"] ["value", "distances"] [1, 0]
  u_MOST_DISTANCE : Value
  c_MOST_DISTANCE : mg "MOST_DISTANCE" = some u_MOST_DISTANCE
  r_MOST_DISTANCE : RelV (.int 1000000000) u_MOST_DISTANCE
  u_MOST_HUNG : Value
  c_MOST_HUNG : mg "MOST_HUNG" = some u_MOST_HUNG
  r_MOST_HUNG : RelV (.int 12) u_MOST_HUNG
  z_all : mg "all" = none
  z_bool : mg "bool" = none
  z_int : mg "int" = none
  z_isinstance : mg "isinstance" = none
  z_len : mg "len" = none
  z_list : mg "list" = none
  z_max : mg "max" = none
  z_min : mg "min" = none
  z_range : mg "range" = none
  z_repr : mg "repr" = none
  z_sorted : mg "sorted" = none
  z_str : mg "str" = none
  z_sum : mg "sum" = none
  z_tuple : mg "tuple" = none
  z_zip : mg "zip" = none
section
variable {P : Program} {w : World} {K : PySem.W.Frag} {mg : PySem.Str → Option Value} {base : Heap}
theorem ok_law_pot (W : Tops K mg) : FnG P w K mg base 1 W.f_law_pot W.d_law_pot ["script", "k"] m_law_pot := by
  refine fnG_of W.F_law_pot sc_law_pot (ro := [0, 1]) fun X h1 h2 h3 h4 h5 h6 h7 h8 h9 hr hG hx => ?_
  obtain ⟨xp, xw, xK, xmg, xb, xA, xN, xs, xH, xe, xo, xst, xex, xfn, xc, xpn, xxe⟩ := X
  obtain ⟨es, el, eg, ec, eq, ef, ecd, efr, eb⟩ := xe
  dsimp only at h1 h2 h3 h4 h5 h6 h7 h8 h9 hr hG hx
  subst h1 h2 h3 h4 h5 h6 h7 h8 h9 hx
  have hN := sc_law_pot.nd
  have hc : true = true := rfl
  have hP := @PassesOwn.never
  exact ⟨_,
    (js_cons (js_set 2 hN (je_op op_addAny ops_add (jg_val (je_op op_mulAny ops_mul (jg_val je_int) (jg_name 1))) (jg_val je_int)))
    (js_cons (js_for hc hP (ji_seq (je_name 0)) (jt_set 3 hN)
      (js_one (js_set 2 hN (je_op op_mod ops_mod (jg_val (je_callTy call_int1 ops_int rfl W.z_int bo_int (ja_cons (jg_val (je_op op_addAny ops_add (jg_val (je_op op_addAny ops_add (jg_val (je_op op_mulAny ops_mul (jg_name 2) (jg_val je_int))) (jg_val (je_op op_mulAny ops_mul (jg_name 3) (jg_val je_int))))) (jg_val je_int))) ja_nil))) (jg_val (je_op op_addAny ops_add (jg_val (je_op op_powW ops_pow (jg_val je_int) (jg_val je_int))) (jg_val je_int)))))))
    (js_cons (js_set 4 hN (je_if (jt_cmp op_ltAny ops_cmp (jg_name 1) (jg_val (je_callB call_len ops_len rfl W.z_len bo_len (ja_cons (jg_name 0) ja_nil)))) (je_ix (ix_all (hu1 hr)) ops_ixA (jg_name 0) (jg_name 1)) (je_name 2)))
    (js_one (js_ret (je_lst (ja_cons (jg_val (je_callB (call_max2 hc) ops_max2 rfl W.z_max bo_max (ja_cons (jg_val je_int) (ja_cons (jg_val (je_op op_sub ops_sub (jg_name 4) (jg_val (je_op op_powW ops_pow (jg_val je_int) (jg_val je_int))))) ja_nil)))) (ja_cons (jg_val (je_op op_mod ops_mod (jg_val (je_callTy call_int1 ops_int rfl W.z_int bo_int (ja_cons (jg_val (je_op op_addAny ops_add (jg_val (je_op op_mulAny ops_mul (jg_name 2) (jg_val je_int))) (jg_val (je_op op_mulAny ops_mul (jg_name 4) (jg_val je_int))))) ja_nil))) (jg_val (je_op op_addAny ops_add (jg_val (je_op op_powW ops_pow (jg_val je_int) (jg_val je_int))) (jg_val je_int))))) (ja_cons (jg_val je_int) ja_nil)))))))))⟩
theorem ok_law_draw (W : Tops K mg) : FnG P w K mg base 1 W.f_law_draw W.d_law_draw ["pot", "many"] m_law_draw := by
  refine fnG_of W.F_law_draw sc_law_draw (ro := [0, 1]) fun X h1 h2 h3 h4 h5 h6 h7 h8 h9 hr hG hx => ?_
  obtain ⟨xp, xw, xK, xmg, xb, xA, xN, xs, xH, xe, xo, xst, xex, xfn, xc, xpn, xxe⟩ := X
  obtain ⟨es, el, eg, ec, eq, ef, ecd, efr, eb⟩ := xe
  dsimp only at h1 h2 h3 h4 h5 h6 h7 h8 h9 hr hG hx
  subst h1 h2 h3 h4 h5 h6 h7 h8 h9 hx
  have hN := sc_law_draw.nd
  have hc : true = true := rfl
  have hP := @PassesOwn.never
  exact ⟨_,
    (js_cons (js_if (jt_cmp op_gtAny ops_cmp (jg_val (je_ix (ix_all (hu1 hr)) ops_ixA (jg_name 0) (jg_val je_int))) (jg_val je_int))
      (js_cons (js_set 2 hN (je_op op_mod ops_mod (jg_val (je_callTy call_int1 ops_int rfl W.z_int bo_int (ja_cons (jg_val (je_ix (ix_all (hu1 hr)) ops_ixA (jg_name 0) (jg_val je_int))) ja_nil))) (jg_name 1)))
      (js_cons (js_setIx (hu1 hr) (jg_val (je_op op_fdivW ops_fdiv (jg_val (je_ix (ix_all (hu1 hr)) ops_ixA (jg_name 0) (jg_val je_int))) (jg_name 1))) (jg_name 0) (jg_val je_int))
      (js_one (js_ret (je_move 2)))))
      js_nil)
    (js_cons (js_setIx (hu1 hr) (jg_val (je_op op_addAny ops_add (jg_val (je_ix (ix_all (hu1 hr)) ops_ixA (jg_name 0) (jg_val je_int))) (jg_val je_int))) (jg_name 0) (jg_val je_int))
    (js_cons (js_set 3 hN (je_op op_mod ops_mod (jg_val (je_callTy call_int1 ops_int rfl W.z_int bo_int (ja_cons (jg_val (je_op op_addAny ops_add (jg_val (je_op op_powW ops_pow (jg_val (je_op op_addAny ops_add (jg_val (je_ix (ix_all (hu1 hr)) ops_ixA (jg_name 0) (jg_val je_int))) (jg_val (je_op op_mulAny ops_mul (jg_val je_int) (jg_val (je_ix (ix_all (hu1 hr)) ops_ixA (jg_name 0) (jg_val je_int))))))) (jg_val je_int))) (jg_val (je_ix (ix_all (hu1 hr)) ops_ixA (jg_name 0) (jg_val je_int))))) ja_nil))) (jg_val (je_op op_addAny ops_add (jg_val (je_op op_powW ops_pow (jg_val je_int) (jg_val je_int))) (jg_val je_int)))))
    (js_cons (js_set 3 hN (je_op op_mod ops_mod (jg_val (je_callTy call_int1 ops_int rfl W.z_int bo_int (ja_cons (jg_val (je_op op_addAny ops_add (jg_val (je_op op_addAny ops_add (jg_val (je_op op_mulAny ops_mul (jg_name 3) (jg_name 3))) (jg_val (je_ix (ix_all (hu1 hr)) ops_ixA (jg_name 0) (jg_val je_int))))) (jg_val (je_op op_mulAny ops_mul (jg_val je_int) (jg_val (je_ix (ix_all (hu1 hr)) ops_ixA (jg_name 0) (jg_val je_int))))))) ja_nil))) (jg_val (je_op op_addAny ops_add (jg_val (je_op op_powW ops_pow (jg_val je_int) (jg_val je_int))) (jg_val je_int)))))
    (js_one (js_ret (je_op op_mod ops_mod (jg_val (je_callTy call_int1 ops_int rfl W.z_int bo_int (ja_cons (jg_val (je_op op_fdivW ops_fdiv (jg_name 3) (jg_val je_int))) ja_nil))) (jg_name 1))))))))⟩
theorem ok_law_with (W : Tops K mg) : FnG P w K mg base 1 W.f_law_with W.d_law_with ["distances", "i", "j", "number"] m_law_with := by
  refine fnG_of W.F_law_with sc_law_with (ro := [0, 1, 2, 3]) fun X h1 h2 h3 h4 h5 h6 h7 h8 h9 hr hG hx => ?_
  obtain ⟨xp, xw, xK, xmg, xb, xA, xN, xs, xH, xe, xo, xst, xex, xfn, xc, xpn, xxe⟩ := X
  obtain ⟨es, el, eg, ec, eq, ef, ecd, efr, eb⟩ := xe
  dsimp only at h1 h2 h3 h4 h5 h6 h7 h8 h9 hr hG hx
  subst h1 h2 h3 h4 h5 h6 h7 h8 h9 hx
  have hN := sc_law_with.nd
  have hc : true = true := rfl
  have hP := @PassesOwn.never
  exact ⟨_,
    (js_cons (js_setRmB 4 [("row", 7)] (ok := blkOk_by (by dsimp only [Cx.blk, compEnvC]; decide +kernel)) hc hN (ji_seq (je_ix (ix_all (hu1 hr)) ops_ixA (jg_name 0) (jg_val je_int))) (fun _ _ _ _ _ => (jt_set 7 hN)) (fun _ _ _ _ _ => jts_yes) (fun _ _ _ _ _ => (je_callTy call_list_of ops_list rfl W.z_list bo_list (ja_cons (jg_name 7) ja_nil))))
    (js_al2 4 5 6 1 2 3 2 3 1 hc hN
    (js_one (js_ret (je_tup (ja_cons (jg_val (je_ix (ix_all (hu1 hr)) ops_ixA (jg_name 0) (jg_val je_int))) (ja_cons (jg_val (je_callTy call_tuple_of ops_tuple rfl W.z_tuple bo_tuple (ja_cons (jg_val (je_lcB [("row", 7)] (ok := blkOk_by (by dsimp only [Cx.blk, compEnvC]; decide +kernel)) hc hN (ji_seq (je_name 4)) (fun _ _ _ _ _ => (jt_set 7 hN)) (fun _ _ _ _ _ => jts_yes) (fun _ _ _ _ _ => (je_callTy call_tuple_of ops_tuple rfl W.z_tuple bo_tuple (ja_cons (jg_name 7) ja_nil))))) ja_nil))) ja_nil)))))))⟩
theorem ok_law_any (W : Tops K mg) : FnG P w K mg base 2 W.f_law_any W.d_law_any ["pot", "names"] m_law_any := by
  refine fnG_of W.F_law_any sc_law_any (ro := [0, 1]) fun X h1 h2 h3 h4 h5 h6 h7 h8 h9 hr hG hx => ?_
  obtain ⟨xp, xw, xK, xmg, xb, xA, xN, xs, xH, xe, xo, xst, xex, xfn, xc, xpn, xxe⟩ := X
  obtain ⟨es, el, eg, ec, eq, ef, ecd, efr, eb⟩ := xe
  dsimp only at h1 h2 h3 h4 h5 h6 h7 h8 h9 hr hG hx
  subst h1 h2 h3 h4 h5 h6 h7 h8 h9 hx
  have hN := sc_law_any.nd
  have hc : true = true := rfl
  have hP := @PassesOwn.never
  exact ⟨_,
    (js_cons (js_par 2 3 hc hN (ja_cons (jg_val (je_ix (ix_all (hu1 hr)) ops_ixA (jg_val (je_lst (ja_cons (jg_val je_int) (ja_cons (jg_val je_int) (ja_cons (jg_val je_int) (ja_cons (jg_val (je_op op_addAny ops_add (jg_val (je_op op_powW ops_pow (jg_val je_int) (jg_val je_int))) (jg_val je_int))) ja_nil)))))) (jg_val (je_call (ok_law_draw W) (hr.mono (by decide)) hG rfl W.g_law_draw W.F_law_draw.kp W.b_law_draw (ja_cons (jg_name 0) (ja_cons (jg_val je_int) ja_nil)) (maCons_len (maCons_len maNil_len)))))) (ja_cons (jg_val (je_tup (ja_cons (jg_val (je_name 1)) (ja_cons (jg_val (je_frz (je_op op_mulAny ops_mul (jg_val (je_tup (ja_cons (jg_val (je_frz (je_op op_mulAny ops_mul (jg_val (je_tup (ja_cons (jg_val je_int) ja_nil))) (jg_val (je_callB call_len ops_len rfl W.z_len bo_len (ja_cons (jg_name 1) ja_nil)))))) ja_nil))) (jg_val (je_callB call_len ops_len rfl W.z_len bo_len (ja_cons (jg_name 1) ja_nil)))))) ja_nil)))) ja_nil)))
    (js_cons (js_for hc hP (ji_r1 rfl W.z_range (ja_cons (jg_val (je_callB call_len ops_len rfl W.z_len bo_len (ja_cons (jg_name 1) ja_nil))) ja_nil)) (jt_set 4 hN)
      (js_one (js_for hc hP (ji_r1 rfl W.z_range (ja_cons (jg_name 4) ja_nil)) (jt_set 5 hN)
        (js_one (js_set 3 hN (je_call (ok_law_with W) (hr.mono (by decide)) hG rfl W.g_law_with W.F_law_with.kp W.b_law_with (ja_cons (jg_name 3) (ja_cons (jg_name 4) (ja_cons (jg_name 5) (ja_cons (jg_val (je_call (ok_law_draw W) (hr.mono (by decide)) hG rfl W.g_law_draw W.F_law_draw.kp W.b_law_draw (ja_cons (jg_name 0) (ja_cons (jg_name 2) ja_nil)) (maCons_len (maCons_len maNil_len)))) ja_nil)))) (maCons_len (maCons_len (maCons_len (maCons_len maNil_len))))))))))
    (js_one (js_ret (je_move 3)))))⟩
theorem ok_law_bad (W : Tops K mg) : FnG P w K mg base 1 W.f_law_bad W.d_law_bad ["table", "four"] m_law_bad := by
  refine fnG_of W.F_law_bad sc_law_bad (ro := [0, 1]) fun X h1 h2 h3 h4 h5 h6 h7 h8 h9 hr hG hx => ?_
  obtain ⟨xp, xw, xK, xmg, xb, xA, xN, xs, xH, xe, xo, xst, xex, xfn, xc, xpn, xxe⟩ := X
  obtain ⟨es, el, eg, ec, eq, ef, ecd, efr, eb⟩ := xe
  dsimp only at h1 h2 h3 h4 h5 h6 h7 h8 h9 hr hG hx
  subst h1 h2 h3 h4 h5 h6 h7 h8 h9 hx
  have hN := sc_law_bad.nd
  have hc : true = true := rfl
  have hP := @PassesOwn.never
  exact ⟨_,
    (js_cons (js_unp (je_name 1) (jt_unp hc (jts_cons (jt_set 2 hN) (jts_cons (jt_set 3 hN) (jts_cons (jt_set 4 hN) (jts_cons (jt_set 5 hN) jts_nil))))))
    (js_cons (js_set 6 hN (je_lst (ja_cons (jg_val (je_frz (je_op op_addAny ops_add (jg_val (je_ix (ix_all (hu1 hr)) ops_ixA (jg_name 0) (jg_val (je_tup (ja_cons (jg_val (je_name 2)) (ja_cons (jg_val (je_name 3)) ja_nil)))))) (jg_val (je_ix (ix_all (hu1 hr)) ops_ixA (jg_name 0) (jg_val (je_tup (ja_cons (jg_val (je_name 4)) (ja_cons (jg_val (je_name 5)) ja_nil))))))))) (ja_cons (jg_val (je_frz (je_op op_addAny ops_add (jg_val (je_ix (ix_all (hu1 hr)) ops_ixA (jg_name 0) (jg_val (je_tup (ja_cons (jg_val (je_name 2)) (ja_cons (jg_val (je_name 4)) ja_nil)))))) (jg_val (je_ix (ix_all (hu1 hr)) ops_ixA (jg_name 0) (jg_val (je_tup (ja_cons (jg_val (je_name 3)) (ja_cons (jg_val (je_name 5)) ja_nil))))))))) (ja_cons (jg_val (je_frz (je_op op_addAny ops_add (jg_val (je_ix (ix_all (hu1 hr)) ops_ixA (jg_name 0) (jg_val (je_tup (ja_cons (jg_val (je_name 2)) (ja_cons (jg_val (je_name 5)) ja_nil)))))) (jg_val (je_ix (ix_all (hu1 hr)) ops_ixA (jg_name 0) (jg_val (je_tup (ja_cons (jg_val (je_name 3)) (ja_cons (jg_val (je_name 4)) ja_nil))))))))) ja_nil)))))
    (js_one (js_ret (je_cmp (op_eqA hr.units) ops_eqA (jg_val (je_count (hu65 hr) (jg_name 6) (jg_val (je_callB (cr_max hc) ops_max rfl W.z_max bo_max (ja_cons (jg_name 6) ja_nil))))) (jg_val je_int))))))⟩
theorem ok_law_first_four (W : Tops K mg) : FnG P w K mg base 2 W.f_law_first_four W.d_law_first_four ["names", "table"] m_law_first_four := by
  refine fnG_of W.F_law_first_four sc_law_first_four (ro := [0, 1]) fun X h1 h2 h3 h4 h5 h6 h7 h8 h9 hr hG hx => ?_
  obtain ⟨xp, xw, xK, xmg, xb, xA, xN, xs, xH, xe, xo, xst, xex, xfn, xc, xpn, xxe⟩ := X
  obtain ⟨es, el, eg, ec, eq, ef, ecd, efr, eb⟩ := xe
  dsimp only at h1 h2 h3 h4 h5 h6 h7 h8 h9 hr hG hx
  subst h1 h2 h3 h4 h5 h6 h7 h8 h9 hx
  have hN := sc_law_first_four.nd
  have hc : true = true := rfl
  have hP := @PassesOwn.never
  exact ⟨_,
    (js_cons (js_for hc hP (ji_r1 rfl W.z_range (ja_cons (jg_val (je_callB call_len ops_len rfl W.z_len bo_len (ja_cons (jg_name 0) ja_nil))) ja_nil)) (jt_set 2 hN)
      (js_one (js_for hc hP (ji_r2 rfl W.z_range (ja_cons (jg_name 2) (ja_cons (jg_val (je_callB call_len ops_len rfl W.z_len bo_len (ja_cons (jg_name 0) ja_nil))) ja_nil))) (jt_set 3 hN)
        (js_one (js_for hc hP (ji_r2 rfl W.z_range (ja_cons (jg_name 3) (ja_cons (jg_val (je_callB call_len ops_len rfl W.z_len bo_len (ja_cons (jg_name 0) ja_nil))) ja_nil))) (jt_set 4 hN)
          (js_one (js_for hc hP (ji_r2 rfl W.z_range (ja_cons (jg_name 4) (ja_cons (jg_val (je_callB call_len ops_len rfl W.z_len bo_len (ja_cons (jg_name 0) ja_nil))) ja_nil))) (jt_set 5 hN)
            (js_cons (js_set 6 hN (je_tup (ja_cons (jg_val (je_ix (ix_all (hu1 hr)) ops_ixA (jg_name 0) (jg_name 2))) (ja_cons (jg_val (je_ix (ix_all (hu1 hr)) ops_ixA (jg_name 0) (jg_name 3))) (ja_cons (jg_val (je_ix (ix_all (hu1 hr)) ops_ixA (jg_name 0) (jg_name 4))) (ja_cons (jg_val (je_ix (ix_all (hu1 hr)) ops_ixA (jg_name 0) (jg_name 5))) ja_nil))))))
            (js_one (js_if (jt_val (je_call (ok_law_bad W) (hr.mono (by decide)) hG rfl W.g_law_bad W.F_law_bad.kp W.b_law_bad (ja_cons (jg_name 1) (ja_cons (jg_name 6) ja_nil)) (maCons_len (maCons_len maNil_len))))
              (js_one (js_ret (je_move 6)))
              js_nil))))))))))
    (js_one (js_ret je_non)))⟩
theorem ok_law_thing (W : Tops K mg) : FnG P w K mg base 3 W.f_law_thing W.d_law_thing ["pot", "names", "table"] m_law_thing := by
  refine fnG_of W.F_law_thing sc_law_thing (ro := [0, 1, 2]) fun X h1 h2 h3 h4 h5 h6 h7 h8 h9 hr hG hx => ?_
  obtain ⟨xp, xw, xK, xmg, xb, xA, xN, xs, xH, xe, xo, xst, xex, xfn, xc, xpn, xxe⟩ := X
  obtain ⟨es, el, eg, ec, eq, ef, ecd, efr, eb⟩ := xe
  dsimp only at h1 h2 h3 h4 h5 h6 h7 h8 h9 hr hG hx
  subst h1 h2 h3 h4 h5 h6 h7 h8 h9 hx
  have hN := sc_law_thing.nd
  have hc : true = true := rfl
  have hP := @PassesOwn.never
  exact ⟨_,
    (js_cons (js_set 3 hN (je_callTy call_tuple_of ops_tuple rfl W.z_tuple bo_tuple (ja_cons (jg_val (je_lcB [("turn", 7)] (ok := blkOk_by (by dsimp only [Cx.blk, compEnvC]; decide +kernel)) hc hN (ji_r1 rfl W.z_range (ja_cons (jg_val je_int) ja_nil)) (fun _ _ _ _ _ => (jt_set 7 hN)) (fun _ _ _ _ _ => jts_yes) (fun _ _ _ _ _ => (je_ix (ix_all (hu1 hr)) ops_ixA (jg_name 1) (jg_val (je_call (ok_law_draw W) (hr.mono (by decide)) hG rfl W.g_law_draw W.F_law_draw.kp W.b_law_draw (ja_cons (jg_name 0) (ja_cons (jg_val (je_callB call_len ops_len rfl W.z_len bo_len (ja_cons (jg_name 1) ja_nil))) ja_nil)) (maCons_len (maCons_len maNil_len)))))))) ja_nil)))
    (js_cons (js_set 4 hN (je_call (ok_law_draw W) (hr.mono (by decide)) hG rfl W.g_law_draw W.F_law_draw.kp W.b_law_draw (ja_cons (jg_name 0) (ja_cons (jg_val je_int) ja_nil)) (maCons_len (maCons_len maNil_len))))
    (js_cons (js_if (jt_cmp op_ltAny ops_cmp (jg_name 4) (jg_val je_int))
      (js_one (js_ret (je_callTy call_tuple_of ops_tuple rfl W.z_tuple bo_tuple (ja_cons (jg_val (je_callB (cr_sort (hu66 hr)) ops_sort rfl W.z_sorted bo_sorted (ja_cons (jg_name 3) ja_nil))) ja_nil))))
      js_nil)
    (js_cons (js_if (jt_cmp (op_eqA hr.units) ops_eqA (jg_name 4) (jg_val je_int))
      (js_cons (js_set 5 hN (je_call (ok_law_first_four W) (hr.mono (by decide)) hG rfl W.g_law_first_four W.F_law_first_four.kp W.b_law_first_four (ja_cons (jg_name 1) (ja_cons (jg_name 2) ja_nil)) (maCons_len (maCons_len maNil_len))))
      (js_one (js_ret (je_if (jt_cmp op_isN ops_isN (jg_name 5) (jg_val je_non)) (je_rev (jg_val (je_callTy call_tuple_of ops_tuple rfl W.z_tuple bo_tuple (ja_cons (jg_val (je_callB (cr_sort (hu66 hr)) ops_sort rfl W.z_sorted bo_sorted (ja_cons (jg_name 3) ja_nil))) ja_nil)))) (je_ix (ix_all (hu1 hr)) ops_ixA (jg_val (je_lst (ja_cons (jg_val (je_name 5)) (ja_cons (jg_val (je_frz (je_rev (jg_name 5)))) (ja_cons (jg_val (je_frz (je_callTy call_list_of ops_list rfl W.z_list bo_list (ja_cons (jg_name 5) ja_nil)))) (ja_cons (jg_val (je_frz (je_sl (jg_name 5) jo_none (jo_some je_int)))) ja_nil)))))) (jg_val (je_call (ok_law_draw W) (hr.mono (by decide)) hG rfl W.g_law_draw W.F_law_draw.kp W.b_law_draw (ja_cons (jg_name 0) (ja_cons (jg_val je_int) ja_nil)) (maCons_len (maCons_len maNil_len)))))))))
      js_nil)
    (js_cons (js_if (jt_cmp (op_eqA hr.units) ops_eqA (jg_name 4) (jg_val je_int))
      (js_one (js_ret (je_move 3)))
      js_nil)
    (js_cons (js_set 6 hN (je_lst (ja_cons (jg_val (je_frz (je_sl (jg_name 3) jo_none (jo_some je_int)))) (ja_cons (jg_val (je_callTy call_tuple_of ops_tuple rfl W.z_tuple bo_tuple (ja_cons (jg_val (je_callB (cr_sort (hu66 hr)) ops_sort rfl W.z_sorted bo_sorted (ja_cons (jg_val (je_op op_addAny ops_add (jg_name 3) (jg_val (je_sl (jg_name 3) jo_none (jo_some je_int))))) ja_nil))) ja_nil))) (ja_cons (jg_val je_non) (ja_cons (jg_val je_int) (ja_cons (jg_val (je_join (jg_val je_str) (jg_name 3))) (ja_cons (jg_val (je_tup ja_nil)) (ja_cons (jg_val (je_frz (je_lst (ja_cons (jg_val (je_name 3)) ja_nil)))) (ja_cons (jg_val (je_frz (je_op op_addAny ops_add (jg_val (je_sl (jg_name 3) jo_none (jo_some je_int))) (jg_val (je_tup (ja_cons (jg_val je_str) ja_nil)))))) (ja_cons (jg_val (je_frz je_newK)) ja_nil)))))))))))
    (js_cons (js_set 6 hN (je_op op_addAny ops_add (jg_name 6) (jg_val (je_lst (ja_cons (jg_val (je_frz (je_op op_addAny ops_add (jg_val (je_sl (jg_val (je_callTy call_tuple_of ops_tuple rfl W.z_tuple bo_tuple (ja_cons (jg_val (je_callB (cr_sort (hu66 hr)) ops_sort rfl W.z_sorted bo_sorted (ja_cons (jg_name 3) ja_nil))) ja_nil))) jo_none (jo_some je_int))) (jg_val (je_tup (ja_cons (jg_val je_str) ja_nil)))))) (ja_cons (jg_val (je_tup (ja_cons (jg_val (je_name 3)) (ja_cons (jg_val (je_name 3)) ja_nil)))) (ja_cons (jg_val (je_frz (je_op op_addAny ops_add (jg_val (je_sl (jg_val (je_callTy call_tuple_of ops_tuple rfl W.z_tuple bo_tuple (ja_cons (jg_val (je_callB (cr_sort (hu66 hr)) ops_sort rfl W.z_sorted bo_sorted (ja_cons (jg_name 3) ja_nil))) ja_nil))) jo_none (jo_some je_int))) (jg_val (je_tup (ja_cons (jg_val je_non) ja_nil)))))) ja_nil)))))))
    (js_one (js_ret (je_ix (ix_all (hu1 hr)) ops_ixA (jg_name 6) (jg_val (je_call (ok_law_draw W) (hr.mono (by decide)) hG rfl W.g_law_draw W.F_law_draw.kp W.b_law_draw (ja_cons (jg_name 0) (ja_cons (jg_val (je_callB call_len ops_len rfl W.z_len bo_len (ja_cons (jg_name 6) ja_nil))) ja_nil)) (maCons_len (maCons_len maNil_len))))))))))))))⟩
theorem ok_law_distances (W : Tops K mg) : FnG P w K mg base 1 W.f_law_distances W.d_law_distances ["names", "doubled"] m_law_distances := by
  refine fnG_of W.F_law_distances sc_law_distances (ro := [0, 1]) fun X h1 h2 h3 h4 h5 h6 h7 h8 h9 hr hG hx => ?_
  obtain ⟨xp, xw, xK, xmg, xb, xA, xN, xs, xH, xe, xo, xst, xex, xfn, xc, xpn, xxe⟩ := X
  obtain ⟨es, el, eg, ec, eq, ef, ecd, efr, eb⟩ := xe
  dsimp only at h1 h2 h3 h4 h5 h6 h7 h8 h9 hr hG hx
  subst h1 h2 h3 h4 h5 h6 h7 h8 h9 hx
  have hN := sc_law_distances.nd
  have hc : true = true := rfl
  have hP := @PassesOwn.never
  exact ⟨_,
    (js_cons (js_set 2 hN (je_lst ja_nil))
    (js_cons (js_for hc hP (ji_seq (je_name 0)) (jt_set 3 hN)
      (js_cons (js_set 4 hN (je_lst ja_nil))
      (js_cons (js_for hc hP (ji_seq (je_name 0)) (jt_set 5 hN)
        (js_one (js_expr (je_append (jg_name 4) (jg_val (je_op op_fdivW ops_fdiv (jg_val (je_callB (cr_sum hc) ops_sum rfl W.z_sum bo_sum (ja_cons (jg_val (je_lcKB 1 [("lot", 6)] (ok := blkOk_by (by dsimp only [Cx.blk, compEnvC]; decide +kernel)) hc hN (fun _ _ _ _ _ => (jt_set 6 hN)) (fun _ _ _ _ _ => (jts_if (jt_cmp (op_neA hr.units) ops_neA (jg_val (je_cmp (op_inAll (hu65 hr)) ops_inA (jg_name 3) (jg_name 6))) (jg_val (je_cmp (op_inAll (hu65 hr)) ops_inA (jg_name 5) (jg_name 6)))))) (fun _ _ _ _ _ => (je_ix (ix_all (hu1 hr)) ops_ixA (jg_name 1) (jg_name 6))))) ja_nil))) (jg_val je_int)))))))
      (js_one (js_expr (je_append (jg_name 2) (jg_val (je_callTy call_tuple_of ops_tuple rfl W.z_tuple bo_tuple (ja_cons (jg_name 4) ja_nil)))))))))
    (js_one (js_ret (je_tup (ja_cons (jg_val (je_name 0)) (ja_cons (jg_val (je_callTy call_tuple_of ops_tuple rfl W.z_tuple bo_tuple (ja_cons (jg_name 2) ja_nil))) ja_nil)))))))⟩
theorem ok_law_lots (W : Tops K mg) : ∀ n : Nat, FnG P w K mg base (1 + n) W.f_law_lots W.d_law_lots ["tree"] (m_law_lots n)
  | 0 => .none
  | n + 1 => by
    have IH := ok_law_lots W n
    refine fnG_of (k := 1 + n) W.F_law_lots sc_law_lots (ro := [0]) fun X h1 h2 h3 h4 h5 h6 h7 h8 h9 hr hG hx => ?_
    obtain ⟨xp, xw, xK, xmg, xb, xA, xN, xs, xH, xe, xo, xst, xex, xfn, xc, xpn, xxe⟩ := X
    obtain ⟨es, el, eg, ec, eq, ef, ecd, efr, eb⟩ := xe
    dsimp only at h1 h2 h3 h4 h5 h6 h7 h8 h9 hr hG hx
    subst h1 h2 h3 h4 h5 h6 h7 h8 h9 hx
    have hN := sc_law_lots.nd
    have hc : true = true := rfl
    have hP := @PassesOwn.never
    exact ⟨_,
      (js_cons (js_if (jt_val (je_callB call_isi ops_isi rfl W.z_isinstance bo_isinstance (ja_cons (jg_name 0) (ja_cons (jg_val (je_ty rfl W.z_str bo_str)) ja_nil))))
        (js_one (js_ret (je_lst (ja_cons (jg_val (je_tup (ja_cons (jg_val (je_name 0)) ja_nil))) ja_nil))))
        js_nil)
      (js_cons (js_par 1 2 hc hN (ja_cons (jg_val (je_lst ja_nil)) (ja_cons (jg_val (je_lst ja_nil)) ja_nil)))
      (js_cons (js_for hc hP (ji_seq (je_name 0)) (jt_set 3 hN)
        (js_cons (js_set 4 hN (je_call IH (hr.mono (by omega)) hG rfl W.g_law_lots W.F_law_lots.kp W.b_law_lots (ja_cons (jg_name 3) ja_nil) (maCons_len maNil_len)))
        (js_cons (js_set 1 hN (je_op op_addAny ops_add (jg_name 1) (jg_name 4)))
        (js_one (js_set 2 hN (je_op op_addAny ops_add (jg_name 2) (jg_val (je_callTy call_list_of ops_list rfl W.z_list bo_list (ja_cons (jg_val (je_ix (ix_all (hu1 hr)) ops_ixA (jg_name 4) (jg_val (je_un un_neg ops_neg (jg_val je_int))))) ja_nil)))))))))
      (js_one (js_ret (je_op op_addAny ops_add (jg_name 1) (jg_val (je_lst (ja_cons (jg_val (je_callTy call_tuple_of ops_tuple rfl W.z_tuple bo_tuple (ja_cons (jg_val (je_callB (cr_sort (hu66 hr)) ops_sort rfl W.z_sorted bo_sorted (ja_cons (jg_name 2) ja_nil))) ja_nil))) ja_nil)))))))))⟩
theorem ok_law_splits (W : Tops K mg) : FnG P w K mg base 14 W.f_law_splits W.d_law_splits ["tree"] m_law_splits := by
  refine fnG_of W.F_law_splits sc_law_splits (ro := [0]) fun X h1 h2 h3 h4 h5 h6 h7 h8 h9 hr hG hx => ?_
  obtain ⟨xp, xw, xK, xmg, xb, xA, xN, xs, xH, xe, xo, xst, xex, xfn, xc, xpn, xxe⟩ := X
  obtain ⟨es, el, eg, ec, eq, ef, ecd, efr, eb⟩ := xe
  dsimp only at h1 h2 h3 h4 h5 h6 h7 h8 h9 hr hG hx
  subst h1 h2 h3 h4 h5 h6 h7 h8 h9 hx
  have hN := sc_law_splits.nd
  have hc : true = true := rfl
  have hP := @PassesOwn.never
  exact ⟨_,
    (js_cons (js_set 1 hN (je_call (ok_law_lots W 12) (hr.mono (by decide)) hG rfl W.g_law_lots W.F_law_lots.kp W.b_law_lots (ja_cons (jg_name 0) ja_nil) (maCons_len maNil_len)))
    (js_one (js_ret (je_callB (cr_sort (hu66 hr)) ops_sort rfl W.z_sorted bo_sorted (ja_cons (jg_val (je_lcB [("lot", 2)] (ok := blkOk_by (by dsimp only [Cx.blk, compEnvC]; decide +kernel)) hc hN (ji_seq (je_sl (jg_name 1) jo_none (jo_some (je_un un_neg ops_neg (jg_val je_int))))) (fun _ _ _ _ _ => (jt_set 2 hN)) (fun _ _ _ _ _ => (jts_if (jt_cmp (op_neA hr.units) ops_neA (jg_val (je_ix (ix_all (hu1 hr)) ops_ixA (jg_name 2) (jg_val je_int))) (jg_val (je_ix (ix_all (hu1 hr)) ops_ixA (jg_val (je_ix (ix_all (hu1 hr)) ops_ixA (jg_name 1) (jg_val (je_un un_neg ops_neg (jg_val je_int))))) (jg_val je_int)))))) (fun _ _ _ _ _ => (je_name 2)))) ja_nil)))))⟩
theorem ok_law_doubled (W : Tops K mg) : FnG P w K mg base 15 W.f_law_doubled W.d_law_doubled ["pot", "tree"] m_law_doubled := by
  refine fnG_of W.F_law_doubled sc_law_doubled (ro := [0, 1]) fun X h1 h2 h3 h4 h5 h6 h7 h8 h9 hr hG hx => ?_
  obtain ⟨xp, xw, xK, xmg, xb, xA, xN, xs, xH, xe, xo, xst, xex, xfn, xc, xpn, xxe⟩ := X
  obtain ⟨es, el, eg, ec, eq, ef, ecd, efr, eb⟩ := xe
  dsimp only at h1 h2 h3 h4 h5 h6 h7 h8 h9 hr hG hx
  subst h1 h2 h3 h4 h5 h6 h7 h8 h9 hx
  have hN := sc_law_doubled.nd
  have hc : true = true := rfl
  have hP := @PassesOwn.never
  exact ⟨_,
    (js_cons (js_par 2 3 hc hN (ja_cons (jg_val (je_call (ok_law_lots W 12) (hr.mono (by decide)) hG rfl W.g_law_lots W.F_law_lots.kp W.b_law_lots (ja_cons (jg_name 1) ja_nil) (maCons_len maNil_len))) (ja_cons (jg_val (je_ix (ix_all (hu1 hr)) ops_ixA (jg_val (je_lst (ja_cons (jg_val je_int) (ja_cons (jg_val je_int) (ja_cons (jg_val je_int) (ja_cons (jg_val (je_op op_mulAny ops_mul (jg_val je_int) (jg_val (je_op op_powW ops_pow (jg_val je_int) (jg_val je_int))))) ja_nil)))))) (jg_val (je_call (ok_law_draw W) (hr.mono (by decide)) hG rfl W.g_law_draw W.F_law_draw.kp W.b_law_draw (ja_cons (jg_name 0) (ja_cons (jg_val je_int) ja_nil)) (maCons_len (maCons_len maNil_len)))))) ja_nil)))
    (js_cons (js_par 4 5 hc hN (ja_cons (jg_val je_newT) (ja_cons (jg_val je_newT) ja_nil)))
    (js_cons (js_for hc hP (ji_seq (je_name 2)) (jt_set 6 hN)
      (js_one (js_setIx (hu1 hr) (jg_val (je_frz (je_if (jt_cmp (op_eqA hr.units) ops_eqA (jg_val (je_callB call_len ops_len rfl W.z_len bo_len (ja_cons (jg_name 6) ja_nil))) (jg_val je_int)) je_int (je_call (ok_law_draw W) (hr.mono (by decide)) hG rfl W.g_law_draw W.F_law_draw.kp W.b_law_draw (ja_cons (jg_name 0) (ja_cons (jg_val je_int) ja_nil)) (maCons_len (maCons_len maNil_len)))))) (jg_name 4) (jg_name 6))))
    (js_cons (js_for hc hP (ji_seq (je_call (ok_law_splits W) (hr.mono (by decide)) hG rfl W.g_law_splits W.F_law_splits.kp W.b_law_splits (ja_cons (jg_name 1) ja_nil) (maCons_len maNil_len))) (jt_set 6 hN)
      (js_cons (js_set 7 hN (je_callB (cr_sort (hu66 hr)) ops_sort rfl W.z_sorted bo_sorted (ja_cons (jg_val (je_lcB [("other", 10)] (ok := blkOk_by (by dsimp only [Cx.blk, compEnvC]; decide +kernel)) hc hN (ji_seq (je_sl (jg_name 2) jo_none (jo_some (je_un un_neg ops_neg (jg_val je_int))))) (fun _ _ _ _ _ => (jt_set 10 hN)) (fun _ _ _ _ _ => (jts_if (jt_pw (jw_and (jt_cmp op_gtAny ops_cmp (jg_val (je_callB call_len ops_len rfl W.z_len bo_len (ja_cons (jg_name 10) ja_nil))) (jg_val (je_callB call_len ops_len rfl W.z_len bo_len (ja_cons (jg_name 6) ja_nil)))) (jw_and1 (jt_cmp (op_inAll (hu65 hr)) ops_inA (jg_val (je_ix (ix_all (hu1 hr)) ops_ixA (jg_name 6) (jg_val je_int))) (jg_name 10))))))) (fun _ _ _ _ _ => (je_tup (ja_cons (jg_val (je_callB call_len ops_len rfl W.z_len bo_len (ja_cons (jg_name 10) ja_nil))) (ja_cons (jg_val (je_name 10)) ja_nil)))))) ja_nil)))
      (js_cons (js_set 8 hN (je_op op_mod ops_mod (jg_val (je_callTy call_int1 ops_int rfl W.z_int bo_int (ja_cons (jg_val (je_op op_addAny ops_add (jg_val (je_ix (ix_all (hu1 hr)) ops_ixA (jg_name 4) (jg_name 6))) (jg_val (je_if (jt_cmp (op_neA hr.units) ops_neA (jg_name 7) (jg_val (je_lst ja_nil))) (je_ix (ix_all (hu1 hr)) ops_ixA (jg_name 4) (jg_val (je_ix (ix_all (hu1 hr)) ops_ixA (jg_val (je_ix (ix_all (hu1 hr)) ops_ixA (jg_name 7) (jg_val je_int))) (jg_val je_int)))) je_int)))) ja_nil))) (jg_val je_int)))
      (js_cons (js_set 9 hN (je_if (jt_pw (jw_and (jt_chain op_ltAny ops_cmp op_ltAny ops_cmp (jg_val je_int) (jg_val (je_callB call_len ops_len rfl W.z_len bo_len (ja_cons (jg_name 6) ja_nil))) (jg_val (je_op op_sub ops_sub (jg_val (je_callB call_len ops_len rfl W.z_len bo_len (ja_cons (jg_val (je_ix (ix_all (hu1 hr)) ops_ixA (jg_name 2) (jg_val (je_un un_neg ops_neg (jg_val je_int))))) ja_nil))) (jg_val je_int)))) (jw_and1 (jt_cmp (op_eqA hr.units) ops_eqA (jg_name 8) (jg_val je_int))))) je_int je_int))
      (js_one (js_setIx (hu1 hr) (jg_val (je_frz (je_op op_addAny ops_add (jg_name 8) (jg_val (je_op op_mulAny ops_mul (jg_val je_int) (jg_val (je_op op_addAny ops_add (jg_name 9) (jg_val (je_call (ok_law_draw W) (hr.mono (by decide)) hG rfl W.g_law_draw W.F_law_draw.kp W.b_law_draw (ja_cons (jg_name 0) (ja_cons (jg_name 3) ja_nil)) (maCons_len (maCons_len maNil_len))))))))))) (jg_name 5) (jg_name 6)))))))
    (js_one (js_ret (je_move 5)))))))⟩
theorem ok_law_due (W : Tops K mg) : FnG P w K mg base 2 W.f_law_due W.d_law_due ["names", "table", "value"] m_law_due := by
  refine fnG_of W.F_law_due sc_law_due (ro := [0, 1, 2]) fun X h1 h2 h3 h4 h5 h6 h7 h8 h9 hr hG hx => ?_
  obtain ⟨xp, xw, xK, xmg, xb, xA, xN, xs, xH, xe, xo, xst, xex, xfn, xc, xpn, xxe⟩ := X
  obtain ⟨es, el, eg, ec, eq, ef, ecd, efr, eb⟩ := xe
  dsimp only at h1 h2 h3 h4 h5 h6 h7 h8 h9 hr hG hx
  subst h1 h2 h3 h4 h5 h6 h7 h8 h9 hx
  have hN := sc_law_due.nd
  have hc : true = true := rfl
  have hP := @PassesOwn.never
  exact ⟨_,
    (js_cons (js_if (jt_pw (jw_or (jt_not (jt_val (je_callB call_isi ops_isi rfl W.z_isinstance bo_isinstance (ja_cons (jg_name 2) (ja_cons (jg_val (je_ty rfl W.z_tuple bo_tuple)) ja_nil))))) (jw_or (jt_cmp (op_neA hr.units) ops_neA (jg_val (je_callB call_len ops_len rfl W.z_len bo_len (ja_cons (jg_name 2) ja_nil))) (jg_val je_int)) (jw_or1 (jt_not (jt_val (je_callB (cr_all hc) ops_all rfl W.z_all bo_all (ja_cons (jg_val (je_lcB [("name", 3)] (ok := blkOk_by (by dsimp only [Cx.blk, compEnvC]; decide +kernel)) hc hN (ji_seq (je_name 2)) (fun _ _ _ _ _ => (jt_set 3 hN)) (fun _ _ _ _ _ => jts_yes) (fun _ _ _ _ _ => (je_callB call_isi ops_isi rfl W.z_isinstance bo_isinstance (ja_cons (jg_name 3) (ja_cons (jg_val (je_ty rfl W.z_str bo_str)) ja_nil)))))) ja_nil))))))))
      (js_one (js_ret je_bl))
      js_nil)
    (js_cons (js_if (jt_pw (jw_or (jt_not (jt_val (je_callB (cr_all hc) ops_all rfl W.z_all bo_all (ja_cons (jg_val (je_lcB [("name", 3)] (ok := blkOk_by (by dsimp only [Cx.blk, compEnvC]; decide +kernel)) hc hN (ji_seq (je_name 2)) (fun _ _ _ _ _ => (jt_set 3 hN)) (fun _ _ _ _ _ => jts_yes) (fun _ _ _ _ _ => (je_cmp (op_inAll (hu65 hr)) ops_inA (jg_name 3) (jg_name 0))))) ja_nil)))) (jw_or1 (jt_cmp (op_neA hr.units) ops_neA (jg_val (je_callTy call_list_of ops_list rfl W.z_list bo_list (ja_cons (jg_name 2) ja_nil))) (jg_val (je_callB (cr_sort (hu66 hr)) ops_sort rfl W.z_sorted bo_sorted (ja_cons (jg_name 2) ja_nil)))))))
      (js_one (js_ret je_bl))
      js_nil)
    (js_one (js_ret (je_call (ok_law_bad W) (hr.mono (by decide)) hG rfl W.g_law_bad W.F_law_bad.kp W.b_law_bad (ja_cons (jg_name 1) (ja_cons (jg_name 2) ja_nil)) (maCons_len (maCons_len maNil_len)))))))⟩
theorem ok_law_word (W : Tops K mg) : FnG P w K mg base 1 W.f_law_word W.d_law_word ["number"] m_law_word := by
  refine fnG_of W.F_law_word sc_law_word (ro := []) fun X h1 h2 h3 h4 h5 h6 h7 h8 h9 hr hG hx => ?_
  obtain ⟨xp, xw, xK, xmg, xb, xA, xN, xs, xH, xe, xo, xst, xex, xfn, xc, xpn, xxe⟩ := X
  obtain ⟨es, el, eg, ec, eq, ef, ecd, efr, eb⟩ := xe
  dsimp only at h1 h2 h3 h4 h5 h6 h7 h8 h9 hr hG hx
  subst h1 h2 h3 h4 h5 h6 h7 h8 h9 hx
  have hN := sc_law_word.nd
  have hc : true = true := rfl
  have hP := @PassesOwn.never
  exact ⟨_,
    (js_cons (js_unp (je_tup (ja_cons (jg_val je_str) (ja_cons (jg_val je_str) ja_nil))) (jt_unp hc (jts_cons (jt_set 1 hN) (jts_cons (jt_set 2 hN) jts_nil))))
    (js_cons (js_for hc hP (ji_r1 rfl W.z_range (ja_cons (jg_val je_int) ja_nil)) (jt_set 3 hN)
      (js_one (js_if (jt_pw (jw_or (jt_cmp op_gtAny ops_cmp (jg_name 0) (jg_val je_int)) (jw_or1 (jt_cmp (op_eqA hr.units) ops_eqA (jg_name 2) (jg_val je_str)))))
        (js_cons (js_set 2 hN (je_op op_addAny ops_add (jg_val (je_ix (ix_all (hu1 hr)) ops_ixA (jg_name 1) (jg_val (je_op op_mod ops_mod (jg_val (je_callTy call_int1 ops_int rfl W.z_int bo_int (ja_cons (jg_name 0) ja_nil))) (jg_val je_int))))) (jg_name 2)))
        (js_one (js_set 0 hN (je_op op_fdivW ops_fdiv (jg_name 0) (jg_val je_int)))))
        js_nil)))
    (js_one (js_ret (je_move 2)))))⟩
theorem ok_law_names (W : Tops K mg) : FnG P w K mg base 2 W.f_law_names W.d_law_names ["pot", "many"] m_law_names := by
  refine fnG_of W.F_law_names sc_law_names (ro := [0, 1]) fun X h1 h2 h3 h4 h5 h6 h7 h8 h9 hr hG hx => ?_
  obtain ⟨xp, xw, xK, xmg, xb, xA, xN, xs, xH, xe, xo, xst, xex, xfn, xc, xpn, xxe⟩ := X
  obtain ⟨es, el, eg, ec, eq, ef, ecd, efr, eb⟩ := xe
  dsimp only at h1 h2 h3 h4 h5 h6 h7 h8 h9 hr hG hx
  subst h1 h2 h3 h4 h5 h6 h7 h8 h9 hx
  have hN := sc_law_names.nd
  have hc : true = true := rfl
  have hP := @PassesOwn.never
  exact ⟨_,
    (js_cons (js_par 2 3 hc hN (ja_cons (jg_val (je_ix (ix_all (hu1 hr)) ops_ixA (jg_val (je_lst (ja_cons (jg_val je_int) (ja_cons (jg_val je_int) (ja_cons (jg_val (je_op op_powW ops_pow (jg_val je_int) (jg_val je_int))) ja_nil))))) (jg_val (je_call (ok_law_draw W) (hr.mono (by decide)) hG rfl W.g_law_draw W.F_law_draw.kp W.b_law_draw (ja_cons (jg_name 0) (ja_cons (jg_val je_int) ja_nil)) (maCons_len (maCons_len maNil_len)))))) (ja_cons (jg_val (je_lst ja_nil)) ja_nil)))
    (js_cons (js_for hc hP (ji_r1 rfl W.z_range (ja_cons (jg_name 1) ja_nil)) (jt_set 4 hN)
      (js_cons (js_set 5 hN (je_call (ok_law_draw W) (hr.mono (by decide)) hG rfl W.g_law_draw W.F_law_draw.kp W.b_law_draw (ja_cons (jg_name 0) (ja_cons (jg_name 2) ja_nil)) (maCons_len (maCons_len maNil_len))))
      (js_cons (js_for hc hP (ji_r1 rfl W.z_range (ja_cons (jg_name 1) ja_nil)) (jt_set 6 hN)
        (js_one (js_if (jt_cmp (op_inAll (hu65 hr)) ops_inA (jg_name 5) (jg_name 3))
          (js_one (js_set 5 hN (je_op op_mod ops_mod (jg_val (je_callTy call_int1 ops_int rfl W.z_int bo_int (ja_cons (jg_val (je_op op_addAny ops_add (jg_name 5) (jg_val je_int))) ja_nil))) (jg_name 2))))
          js_nil)))
      (js_one (js_expr (je_append (jg_name 3) (jg_val (je_name 5))))))))
    (js_one (js_ret (je_callTy call_tuple_of ops_tuple rfl W.z_tuple bo_tuple (ja_cons (jg_val (je_callB (cr_sort (hu66 hr)) ops_sort rfl W.z_sorted bo_sorted (ja_cons (jg_val (je_lcB [("number", 5)] (ok := blkOk_by (by dsimp only [Cx.blk, compEnvC]; decide +kernel)) hc hN (ji_seq (je_name 3)) (fun _ _ _ _ _ => (jt_set 5 hN)) (fun _ _ _ _ _ => jts_yes) (fun _ _ _ _ _ => (je_call (ok_law_word W) (hr.mono (by decide)) hG rfl W.g_law_word W.F_law_word.kp W.b_law_word (ja_cons (jg_name 5) ja_nil) (maCons_len maNil_len))))) ja_nil))) ja_nil))))))⟩
theorem ok_law_table (W : Tops K mg) : FnG P w K mg base 1 W.f_law_table W.d_law_table ["distances"] m_law_table := by
  refine fnG_of W.F_law_table sc_law_table (ro := [0]) fun X h1 h2 h3 h4 h5 h6 h7 h8 h9 hr hG hx => ?_
  obtain ⟨xp, xw, xK, xmg, xb, xA, xN, xs, xH, xe, xo, xst, xex, xfn, xc, xpn, xxe⟩ := X
  obtain ⟨es, el, eg, ec, eq, ef, ecd, efr, eb⟩ := xe
  dsimp only at h1 h2 h3 h4 h5 h6 h7 h8 h9 hr hG hx
  subst h1 h2 h3 h4 h5 h6 h7 h8 h9 hx
  have hN := sc_law_table.nd
  have hc : true = true := rfl
  have hP := @PassesOwn.never
  exact ⟨_,
    (js_cons (js_set 1 hN je_newT)
    (js_cons (js_for hc hP (ji_zip rfl W.z_zip (ja_cons (jg_val (je_ix (ix_all (hu1 hr)) ops_ixA (jg_name 0) (jg_val je_int))) (ja_cons (jg_val (je_ix (ix_all (hu1 hr)) ops_ixA (jg_name 0) (jg_val je_int))) ja_nil))) (jt_unp hc (jts_cons (jt_set 2 hN) (jts_cons (jt_set 3 hN) jts_nil)))
      (js_one (js_for hc hP (ji_zip rfl W.z_zip (ja_cons (jg_val (je_ix (ix_all (hu1 hr)) ops_ixA (jg_name 0) (jg_val je_int))) (ja_cons (jg_val (je_name 3)) ja_nil))) (jt_unp hc (jts_cons (jt_set 4 hN) (jts_cons (jt_set 5 hN) jts_nil)))
        (js_one (js_setIx (hu1 hr) (jg_val (je_name 5)) (jg_name 1) (jg_val (je_tup (ja_cons (jg_val (je_name 2)) (ja_cons (jg_val (je_name 4)) ja_nil)))))))))
    (js_one (js_ret (je_move 1)))))⟩
theorem okone_is_greatest (W : Tops K mg) : FnG P w K mg base 1 W.fone_is_greatest W.done_is_greatest ["numbers"] mone_is_greatest := by
  refine fnG_of W.Fone_is_greatest scone_is_greatest (ro := [0]) fun X h1 h2 h3 h4 h5 h6 h7 h8 h9 hr hG hx => ?_
  obtain ⟨xp, xw, xK, xmg, xb, xA, xN, xs, xH, xe, xo, xst, xex, xfn, xc, xpn, xxe⟩ := X
  obtain ⟨es, el, eg, ec, eq, ef, ecd, efr, eb⟩ := xe
  dsimp only at h1 h2 h3 h4 h5 h6 h7 h8 h9 hr hG hx
  subst h1 h2 h3 h4 h5 h6 h7 h8 h9 hx
  have hN := scone_is_greatest.nd
  have hc : true = true := rfl
  have hP := @PassesOwn.never
  exact ⟨_,
    (js_one (js_ret (je_cmp (op_eqA hr.units) ops_eqA (jg_val (je_count (hu65 hr) (jg_name 0) (jg_val (je_callB (cr_max hc) ops_max rfl W.z_max bo_max (ja_cons (jg_name 0) ja_nil))))) (jg_val je_int))))⟩
theorem okis_bad_four (W : Tops K mg) : FnG P w K mg base 2 W.fis_bad_four W.dis_bad_four ["table", "four"] mis_bad_four := by
  refine fnG_of W.Fis_bad_four scis_bad_four (ro := [0, 1]) fun X h1 h2 h3 h4 h5 h6 h7 h8 h9 hr hG hx => ?_
  obtain ⟨xp, xw, xK, xmg, xb, xA, xN, xs, xH, xe, xo, xst, xex, xfn, xc, xpn, xxe⟩ := X
  obtain ⟨es, el, eg, ec, eq, ef, ecd, efr, eb⟩ := xe
  dsimp only at h1 h2 h3 h4 h5 h6 h7 h8 h9 hr hG hx
  subst h1 h2 h3 h4 h5 h6 h7 h8 h9 hx
  have hN := scis_bad_four.nd
  have hc : true = true := rfl
  have hP := @PassesOwn.never
  exact ⟨_,
    (js_cons (js_unp (je_name 1) (jt_unp hc (jts_cons (jt_set 2 hN) (jts_cons (jt_set 3 hN) (jts_cons (jt_set 4 hN) (jts_cons (jt_set 5 hN) jts_nil))))))
    (js_cons (js_set 6 hN (je_lst (ja_cons (jg_val (je_frz (je_op op_addAny ops_add (jg_val (je_ix (ix_all (hu1 hr)) ops_ixA (jg_name 0) (jg_val (je_tup (ja_cons (jg_val (je_name 2)) (ja_cons (jg_val (je_name 3)) ja_nil)))))) (jg_val (je_ix (ix_all (hu1 hr)) ops_ixA (jg_name 0) (jg_val (je_tup (ja_cons (jg_val (je_name 4)) (ja_cons (jg_val (je_name 5)) ja_nil))))))))) (ja_cons (jg_val (je_frz (je_op op_addAny ops_add (jg_val (je_ix (ix_all (hu1 hr)) ops_ixA (jg_name 0) (jg_val (je_tup (ja_cons (jg_val (je_name 2)) (ja_cons (jg_val (je_name 4)) ja_nil)))))) (jg_val (je_ix (ix_all (hu1 hr)) ops_ixA (jg_name 0) (jg_val (je_tup (ja_cons (jg_val (je_name 3)) (ja_cons (jg_val (je_name 5)) ja_nil))))))))) (ja_cons (jg_val (je_frz (je_op op_addAny ops_add (jg_val (je_ix (ix_all (hu1 hr)) ops_ixA (jg_name 0) (jg_val (je_tup (ja_cons (jg_val (je_name 2)) (ja_cons (jg_val (je_name 5)) ja_nil)))))) (jg_val (je_ix (ix_all (hu1 hr)) ops_ixA (jg_name 0) (jg_val (je_tup (ja_cons (jg_val (je_name 3)) (ja_cons (jg_val (je_name 4)) ja_nil))))))))) ja_nil)))))
    (js_one (js_ret (je_call (okone_is_greatest W) (hr.mono (by decide)) hG rfl W.gone_is_greatest W.Fone_is_greatest.kp W.bone_is_greatest (ja_cons (jg_name 6) ja_nil) (maCons_len maNil_len))))))⟩
theorem okis_integer (W : Tops K mg) : FnG P w K mg base 1 W.fis_integer W.dis_integer ["value"] mis_integer := by
  refine fnG_of W.Fis_integer scis_integer (ro := [0]) fun X h1 h2 h3 h4 h5 h6 h7 h8 h9 hr hG hx => ?_
  obtain ⟨xp, xw, xK, xmg, xb, xA, xN, xs, xH, xe, xo, xst, xex, xfn, xc, xpn, xxe⟩ := X
  obtain ⟨es, el, eg, ec, eq, ef, ecd, efr, eb⟩ := xe
  dsimp only at h1 h2 h3 h4 h5 h6 h7 h8 h9 hr hG hx
  subst h1 h2 h3 h4 h5 h6 h7 h8 h9 hx
  have hN := scis_integer.nd
  have hc : true = true := rfl
  have hP := @PassesOwn.never
  exact ⟨_,
    (js_one (js_ret (je_and (je_callB call_isi ops_isi rfl W.z_isinstance bo_isinstance (ja_cons (jg_name 0) (ja_cons (jg_val (je_ty rfl W.z_int bo_int)) ja_nil))) (je_one (je_not (je_callB call_isi ops_isi rfl W.z_isinstance bo_isinstance (ja_cons (jg_name 0) (ja_cons (jg_val (je_ty rfl W.z_bool bo_bool)) ja_nil))))))))⟩
theorem okis_between (W : Tops K mg) : FnG P w K mg base 2 W.fis_between W.dis_between ["least", "value", "most"] mis_between := by
  refine fnG_of W.Fis_between scis_between (ro := [0, 1, 2]) fun X h1 h2 h3 h4 h5 h6 h7 h8 h9 hr hG hx => ?_
  obtain ⟨xp, xw, xK, xmg, xb, xA, xN, xs, xH, xe, xo, xst, xex, xfn, xc, xpn, xxe⟩ := X
  obtain ⟨es, el, eg, ec, eq, ef, ecd, efr, eb⟩ := xe
  dsimp only at h1 h2 h3 h4 h5 h6 h7 h8 h9 hr hG hx
  subst h1 h2 h3 h4 h5 h6 h7 h8 h9 hx
  have hN := scis_between.nd
  have hc : true = true := rfl
  have hP := @PassesOwn.never
  exact ⟨_,
    (js_one (js_ret (je_and (je_call (okis_integer W) (hr.mono (by decide)) hG rfl W.gis_integer W.Fis_integer.kp W.bis_integer (ja_cons (jg_name 1) ja_nil) (maCons_len maNil_len)) (je_one (je_chain op_leAny ops_cmp op_leAny ops_cmp (jg_name 0) (jg_name 1) (jg_name 2))))))⟩
theorem okis_tuple_of (W : Tops K mg) : FnG P w K mg base 1 W.fis_tuple_of W.dis_tuple_of ["length", "value"] mis_tuple_of := by
  refine fnG_of W.Fis_tuple_of scis_tuple_of (ro := [0, 1]) fun X h1 h2 h3 h4 h5 h6 h7 h8 h9 hr hG hx => ?_
  obtain ⟨xp, xw, xK, xmg, xb, xA, xN, xs, xH, xe, xo, xst, xex, xfn, xc, xpn, xxe⟩ := X
  obtain ⟨es, el, eg, ec, eq, ef, ecd, efr, eb⟩ := xe
  dsimp only at h1 h2 h3 h4 h5 h6 h7 h8 h9 hr hG hx
  subst h1 h2 h3 h4 h5 h6 h7 h8 h9 hx
  have hN := scis_tuple_of.nd
  have hc : true = true := rfl
  have hP := @PassesOwn.never
  exact ⟨_,
    (js_one (js_ret (je_and (je_callB call_isi ops_isi rfl W.z_isinstance bo_isinstance (ja_cons (jg_name 1) (ja_cons (jg_val (je_ty rfl W.z_tuple bo_tuple)) ja_nil))) (je_one (je_cmp (op_eqA hr.units) ops_eqA (jg_val (je_callB call_len ops_len rfl W.z_len bo_len (ja_cons (jg_name 1) ja_nil))) (jg_name 0))))))⟩
theorem okare_rows (W : Tops K mg) : FnG P w K mg base 3 W.fare_rows W.dare_rows ["value", "many"] mare_rows := by
  refine fnG_of W.Fare_rows scare_rows (ro := [0, 1]) fun X h1 h2 h3 h4 h5 h6 h7 h8 h9 hr hG hx => ?_
  obtain ⟨xp, xw, xK, xmg, xb, xA, xN, xs, xH, xe, xo, xst, xex, xfn, xc, xpn, xxe⟩ := X
  obtain ⟨es, el, eg, ec, eq, ef, ecd, efr, eb⟩ := xe
  dsimp only at h1 h2 h3 h4 h5 h6 h7 h8 h9 hr hG hx
  subst h1 h2 h3 h4 h5 h6 h7 h8 h9 hx
  have hN := scare_rows.nd
  have hc : true = true := rfl
  have hP := @PassesOwn.never
  exact ⟨_,
    (js_cons (js_if (jt_pw (jw_or (jt_not (jt_val (je_call (okis_tuple_of W) (hr.mono (by decide)) hG rfl W.gis_tuple_of W.Fis_tuple_of.kp W.bis_tuple_of (ja_cons (jg_name 1) (ja_cons (jg_name 0) ja_nil)) (maCons_len (maCons_len maNil_len))))) (jw_or1 (jt_not (jt_val (je_callB (cr_all hc) ops_all rfl W.z_all bo_all (ja_cons (jg_val (je_lcB [("row", 2)] (ok := blkOk_by (by dsimp only [Cx.blk, compEnvC]; decide +kernel)) hc hN (ji_seq (je_name 0)) (fun _ _ _ _ _ => (jt_set 2 hN)) (fun _ _ _ _ _ => jts_yes) (fun _ _ _ _ _ => (je_call (okis_tuple_of W) (hr.mono (by decide)) hG rfl W.gis_tuple_of W.Fis_tuple_of.kp W.bis_tuple_of (ja_cons (jg_name 1) (ja_cons (jg_name 2) ja_nil)) (maCons_len (maCons_len maNil_len)))))) ja_nil)))))))
      (js_one (js_ret je_bl))
      js_nil)
    (js_cons (js_if (jt_not (jt_val (je_callB (cr_all hc) ops_all rfl W.z_all bo_all (ja_cons (jg_val (je_lc2B [("row", 2), ("number", 3)] [3] (ok := blkOk_by (by dsimp only [Cx.blk, compEnvC]; decide +kernel)) hc hN (ji_seq (je_name 0)) (fun _ _ _ _ _ => (jt_set 2 hN)) (fun _ _ _ _ _ => jts_yes) (fun _ _ _ _ _ => (ji_seq (je_name 2))) (fun _ _ _ _ _ => (jt_set 3 hN)) (fun _ _ _ _ _ => jts_yes) (fun _ _ _ _ _ => (je_call (okis_between W) (hr.mono (by decide)) hG rfl W.gis_between W.Fis_between.kp W.bis_between (ja_cons (jg_val je_int) (ja_cons (jg_name 3) (ja_cons (jg_val (je_glob rfl W.c_MOST_DISTANCE W.r_MOST_DISTANCE fun _ => .int _)) ja_nil))) (maCons_len (maCons_len (maCons_len maNil_len))))))) ja_nil))))
      (js_one (js_ret je_bl))
      js_nil)
    (js_one (js_ret (je_callB (cr_all hc) ops_all rfl W.z_all bo_all (ja_cons (jg_val (je_lc2B [("i", 4), ("j", 5)] [5] (ok := blkOk_by (by dsimp only [Cx.blk, compEnvC]; decide +kernel)) hc hN (ji_r1 rfl W.z_range (ja_cons (jg_name 1) ja_nil)) (fun _ _ _ _ _ => (jt_set 4 hN)) (fun _ _ _ _ _ => jts_yes) (fun _ _ _ _ _ => (ji_r1 rfl W.z_range (ja_cons (jg_name 1) ja_nil))) (fun _ _ _ _ _ => (jt_set 5 hN)) (fun _ _ _ _ _ => jts_yes) (fun _ _ _ _ _ => (je_cmp (op_eqA hr.units) ops_eqA (jg_val (je_ix (ix_all (hu1 hr)) ops_ixA (jg_val (je_ix (ix_all (hu1 hr)) ops_ixA (jg_name 0) (jg_name 4))) (jg_name 5))) (jg_val (je_if (jt_cmp (op_neA hr.units) ops_neA (jg_name 4) (jg_name 5)) (je_ix (ix_all (hu1 hr)) ops_ixA (jg_val (je_ix (ix_all (hu1 hr)) ops_ixA (jg_name 0) (jg_name 5))) (jg_name 4)) je_int)))))) ja_nil))))))⟩
theorem okis_word (W : Tops K mg) : FnG P w K mg base 1 W.fis_word W.dis_word ["value"] mis_word := by
  refine fnG_of W.Fis_word scis_word (ro := [0]) fun X h1 h2 h3 h4 h5 h6 h7 h8 h9 hr hG hx => ?_
  obtain ⟨xp, xw, xK, xmg, xb, xA, xN, xs, xH, xe, xo, xst, xex, xfn, xc, xpn, xxe⟩ := X
  obtain ⟨es, el, eg, ec, eq, ef, ecd, efr, eb⟩ := xe
  dsimp only at h1 h2 h3 h4 h5 h6 h7 h8 h9 hr hG hx
  subst h1 h2 h3 h4 h5 h6 h7 h8 h9 hx
  have hN := scis_word.nd
  have hc : true = true := rfl
  have hP := @PassesOwn.never
  exact ⟨_,
    (js_one (js_ret (je_and (je_callB call_isi ops_isi rfl W.z_isinstance bo_isinstance (ja_cons (jg_name 0) (ja_cons (jg_val (je_ty rfl W.z_str bo_str)) ja_nil))) (je_and (je_chain op_leAny ops_cmp op_leAny ops_cmp (jg_val je_int) (jg_val (je_callB call_len ops_len rfl W.z_len bo_len (ja_cons (jg_name 0) ja_nil))) (jg_val je_int)) (je_one (je_callB (cr_all hc) ops_all rfl W.z_all bo_all (ja_cons (jg_val (je_lcB [("sign", 1)] (ok := blkOk_by (by dsimp only [Cx.blk, compEnvC]; decide +kernel)) hc hN (ji_str (je_name 0)) (fun _ _ _ _ _ => (jt_set 1 hN)) (fun _ _ _ _ _ => jts_yes) (fun _ _ _ _ _ => (je_chain op_leAny ops_cmp op_leAny ops_cmp (jg_val je_str) (jg_name 1) (jg_val je_str))))) ja_nil)))))))⟩
theorem okis_lot (W : Tops K mg) : FnG P w K mg base 2 W.fis_lot W.dis_lot ["value"] mis_lot := by
  refine fnG_of W.Fis_lot scis_lot (ro := [0]) fun X h1 h2 h3 h4 h5 h6 h7 h8 h9 hr hG hx => ?_
  obtain ⟨xp, xw, xK, xmg, xb, xA, xN, xs, xH, xe, xo, xst, xex, xfn, xc, xpn, xxe⟩ := X
  obtain ⟨es, el, eg, ec, eq, ef, ecd, efr, eb⟩ := xe
  dsimp only at h1 h2 h3 h4 h5 h6 h7 h8 h9 hr hG hx
  subst h1 h2 h3 h4 h5 h6 h7 h8 h9 hx
  have hN := scis_lot.nd
  have hc : true = true := rfl
  have hP := @PassesOwn.never
  exact ⟨_,
    (js_cons (js_if (jt_pw (jw_or (jt_not (jt_val (je_callB call_isi ops_isi rfl W.z_isinstance bo_isinstance (ja_cons (jg_name 0) (ja_cons (jg_val (je_ty rfl W.z_tuple bo_tuple)) ja_nil))))) (jw_or (jt_cmp (op_eqA hr.units) ops_eqA (jg_name 0) (jg_val (je_tup ja_nil))) (jw_or1 (jt_not (jt_val (je_callB (cr_all hc) ops_all rfl W.z_all bo_all (ja_cons (jg_val (je_lcB [("name", 1)] (ok := blkOk_by (by dsimp only [Cx.blk, compEnvC]; decide +kernel)) hc hN (ji_seq (je_name 0)) (fun _ _ _ _ _ => (jt_set 1 hN)) (fun _ _ _ _ _ => jts_yes) (fun _ _ _ _ _ => (je_call (okis_word W) (hr.mono (by decide)) hG rfl W.gis_word W.Fis_word.kp W.bis_word (ja_cons (jg_name 1) ja_nil) (maCons_len maNil_len))))) ja_nil))))))))
      (js_one (js_ret je_bl))
      js_nil)
    (js_one (js_ret (je_callB (cr_all hc) ops_all rfl W.z_all bo_all (ja_cons (jg_val (je_lcB [("one", 2), ("other", 3)] (ok := blkOk_by (by dsimp only [Cx.blk, compEnvC]; decide +kernel)) hc hN (ji_zip rfl W.z_zip (ja_cons (jg_val (je_name 0)) (ja_cons (jg_val (je_frz (je_sl (jg_name 0) (jo_some je_int) jo_none))) ja_nil))) (fun _ _ _ _ _ => (jt_unp hc (jts_cons (jt_set 2 hN) (jts_cons (jt_set 3 hN) jts_nil)))) (fun _ _ _ _ _ => jts_yes) (fun _ _ _ _ _ => (je_cmp op_ltAny ops_cmp (jg_name 2) (jg_name 3))))) ja_nil)))))⟩
theorem okare_distances (W : Tops K mg) : FnG P w K mg base 4 W.fare_distances W.dare_distances ["value"] mare_distances := by
  refine fnG_of W.Fare_distances scare_distances (ro := [0]) fun X h1 h2 h3 h4 h5 h6 h7 h8 h9 hr hG hx => ?_
  obtain ⟨xp, xw, xK, xmg, xb, xA, xN, xs, xH, xe, xo, xst, xex, xfn, xc, xpn, xxe⟩ := X
  obtain ⟨es, el, eg, ec, eq, ef, ecd, efr, eb⟩ := xe
  dsimp only at h1 h2 h3 h4 h5 h6 h7 h8 h9 hr hG hx
  subst h1 h2 h3 h4 h5 h6 h7 h8 h9 hx
  have hN := scare_distances.nd
  have hc : true = true := rfl
  have hP := @PassesOwn.never
  exact ⟨_,
    (js_cons (js_if (jt_pw (jw_or (jt_not (jt_val (je_call (okis_tuple_of W) (hr.mono (by decide)) hG rfl W.gis_tuple_of W.Fis_tuple_of.kp W.bis_tuple_of (ja_cons (jg_val je_int) (ja_cons (jg_name 0) ja_nil)) (maCons_len (maCons_len maNil_len))))) (jw_or (jt_not (jt_val (je_call (okis_lot W) (hr.mono (by decide)) hG rfl W.gis_lot W.Fis_lot.kp W.bis_lot (ja_cons (jg_val (je_ix (ix_all (hu1 hr)) ops_ixA (jg_name 0) (jg_val je_int))) ja_nil) (maCons_len maNil_len)))) (jw_or1 (jt_cmp op_gtAny ops_cmp (jg_val (je_callB call_len ops_len rfl W.z_len bo_len (ja_cons (jg_val (je_ix (ix_all (hu1 hr)) ops_ixA (jg_name 0) (jg_val je_int))) ja_nil))) (jg_val (je_glob rfl W.c_MOST_HUNG W.r_MOST_HUNG fun _ => .int _)))))))
      (js_one (js_ret je_bl))
      js_nil)
    (js_one (js_ret (je_call (okare_rows W) (hr.mono (by decide)) hG rfl W.gare_rows W.Fare_rows.kp W.bare_rows (ja_cons (jg_val (je_ix (ix_all (hu1 hr)) ops_ixA (jg_name 0) (jg_val je_int))) (ja_cons (jg_val (je_callB call_len ops_len rfl W.z_len bo_len (ja_cons (jg_val (je_ix (ix_all (hu1 hr)) ops_ixA (jg_name 0) (jg_val je_int))) ja_nil))) ja_nil)) (maCons_len (maCons_len maNil_len))))))⟩
theorem okcheck_distances (W : Tops K mg) : FnG P w K mg base 5 W.fcheck_distances W.dcheck_distances ["distances"] mcheck_distances := by
  refine fnG_of W.Fcheck_distances sccheck_distances (ro := [0]) fun X h1 h2 h3 h4 h5 h6 h7 h8 h9 hr hG hx => ?_
  obtain ⟨xp, xw, xK, xmg, xb, xA, xN, xs, xH, xe, xo, xst, xex, xfn, xc, xpn, xxe⟩ := X
  obtain ⟨es, el, eg, ec, eq, ef, ecd, efr, eb⟩ := xe
  dsimp only at h1 h2 h3 h4 h5 h6 h7 h8 h9 hr hG hx
  subst h1 h2 h3 h4 h5 h6 h7 h8 h9 hx
  have hN := sccheck_distances.nd
  have hc : true = true := rfl
  have hP := @PassesOwn.never
  exact ⟨_,
    (js_one (js_if (jt_not (jt_val (je_call (okare_distances W) (hr.mono (by decide)) hG rfl W.gare_distances W.Fare_distances.kp W.bare_distances (ja_cons (jg_name 0) ja_nil) (maCons_len maNil_len))))
      (js_one js_never)
      js_nil))⟩
theorem oktable_of (W : Tops K mg) : FnG P w K mg base 1 W.ftable_of W.dtable_of ["distances"] mtable_of := by
  refine fnG_of W.Ftable_of sctable_of (ro := [0]) fun X h1 h2 h3 h4 h5 h6 h7 h8 h9 hr hG hx => ?_
  obtain ⟨xp, xw, xK, xmg, xb, xA, xN, xs, xH, xe, xo, xst, xex, xfn, xc, xpn, xxe⟩ := X
  obtain ⟨es, el, eg, ec, eq, ef, ecd, efr, eb⟩ := xe
  dsimp only at h1 h2 h3 h4 h5 h6 h7 h8 h9 hr hG hx
  subst h1 h2 h3 h4 h5 h6 h7 h8 h9 hx
  have hN := sctable_of.nd
  have hc : true = true := rfl
  have hP := @PassesOwn.never
  exact ⟨_,
    (js_cons (js_unp (je_name 0) (jt_unp hc (jts_cons (jt_set 1 hN) (jts_cons (jt_set 2 hN) jts_nil))))
    (js_cons (js_set 3 hN je_newT)
    (js_cons (js_for hc hP (ji_zip rfl W.z_zip (ja_cons (jg_val (je_name 1)) (ja_cons (jg_val (je_name 2)) ja_nil))) (jt_unp hc (jts_cons (jt_set 4 hN) (jts_cons (jt_set 5 hN) jts_nil)))
      (js_one (js_for hc hP (ji_zip rfl W.z_zip (ja_cons (jg_val (je_name 1)) (ja_cons (jg_val (je_name 5)) ja_nil))) (jt_unp hc (jts_cons (jt_set 6 hN) (jts_cons (jt_set 7 hN) jts_nil)))
        (js_one (js_setIx (hu1 hr) (jg_val (je_name 7)) (jg_name 3) (jg_val (je_tup (ja_cons (jg_val (je_name 4)) (ja_cons (jg_val (je_name 6)) ja_nil)))))))))
    (js_one (js_ret (je_move 3))))))⟩
theorem okfour_holds (W : Tops K mg) : FnG P w K mg base 6 W.ffour_holds W.dfour_holds ["distances", "value"] mfour_holds := by
  refine fnG_of W.Ffour_holds scfour_holds (ro := [0, 1]) fun X h1 h2 h3 h4 h5 h6 h7 h8 h9 hr hG hx => ?_
  obtain ⟨xp, xw, xK, xmg, xb, xA, xN, xs, xH, xe, xo, xst, xex, xfn, xc, xpn, xxe⟩ := X
  obtain ⟨es, el, eg, ec, eq, ef, ecd, efr, eb⟩ := xe
  dsimp only at h1 h2 h3 h4 h5 h6 h7 h8 h9 hr hG hx
  subst h1 h2 h3 h4 h5 h6 h7 h8 h9 hx
  have hN := scfour_holds.nd
  have hc : true = true := rfl
  have hP := @PassesOwn.never
  exact ⟨_,
    (js_cons (js_expr (je_call (okcheck_distances W) (hr.mono (by decide)) hG rfl W.gcheck_distances W.Fcheck_distances.kp W.bcheck_distances (ja_cons (jg_name 0) ja_nil) (maCons_len maNil_len)))
    (js_cons (js_set 2 hN (je_ix (ix_all (hu1 hr)) ops_ixA (jg_name 0) (jg_val je_int)))
    (js_cons (js_if (jt_pw (jw_or (jt_not (jt_val (je_call (okis_tuple_of W) (hr.mono (by decide)) hG rfl W.gis_tuple_of W.Fis_tuple_of.kp W.bis_tuple_of (ja_cons (jg_val je_int) (ja_cons (jg_name 1) ja_nil)) (maCons_len (maCons_len maNil_len))))) (jw_or1 (jt_not (jt_val (je_callB (cr_all hc) ops_all rfl W.z_all bo_all (ja_cons (jg_val (je_lcB [("name", 3)] (ok := blkOk_by (by dsimp only [Cx.blk, compEnvC]; decide +kernel)) hc hN (ji_seq (je_name 1)) (fun _ _ _ _ _ => (jt_set 3 hN)) (fun _ _ _ _ _ => jts_yes) (fun _ _ _ _ _ => (je_and (je_call (okis_word W) (hr.mono (by decide)) hG rfl W.gis_word W.Fis_word.kp W.bis_word (ja_cons (jg_name 3) ja_nil) (maCons_len maNil_len)) (je_one (je_cmp (op_inAll (hu65 hr)) ops_inA (jg_name 3) (jg_name 2))))))) ja_nil)))))))
      (js_one (js_ret je_bl))
      js_nil)
    (js_one (js_ret (je_and (je_cmp (op_eqA hr.units) ops_eqA (jg_val (je_callTy call_list_of ops_list rfl W.z_list bo_list (ja_cons (jg_name 1) ja_nil))) (jg_val (je_callB (cr_sort (hu66 hr)) ops_sort rfl W.z_sorted bo_sorted (ja_cons (jg_name 1) ja_nil)))) (je_one (je_call (okis_bad_four W) (hr.mono (by decide)) hG rfl W.gis_bad_four W.Fis_bad_four.kp W.bis_bad_four (ja_cons (jg_val (je_call (oktable_of W) (hr.mono (by decide)) hG rfl W.gtable_of W.Ftable_of.kp W.btable_of (ja_cons (jg_name 0) ja_nil) (maCons_len maNil_len))) (ja_cons (jg_name 1) ja_nil)) (maCons_len (maCons_len maNil_len))))))))))⟩
theorem ok_law_near (W : Tops K mg) : FnG P w K mg base 2 W.f_law_near W.d_law_near ["pot", "distances"] m_law_near := by
  refine fnG_of W.F_law_near sc_law_near (ro := [0, 1]) fun X h1 h2 h3 h4 h5 h6 h7 h8 h9 hr hG hx => ?_
  obtain ⟨xp, xw, xK, xmg, xb, xA, xN, xs, xH, xe, xo, xst, xex, xfn, xc, xpn, xxe⟩ := X
  obtain ⟨es, el, eg, ec, eq, ef, ecd, efr, eb⟩ := xe
  dsimp only at h1 h2 h3 h4 h5 h6 h7 h8 h9 hr hG hx
  subst h1 h2 h3 h4 h5 h6 h7 h8 h9 hx
  have hN := sc_law_near.nd
  have hc : true = true := rfl
  have hP := @PassesOwn.never
  exact ⟨_,
    (js_cons (js_set 2 hN (je_ix (ix_all (hu1 hr)) ops_ixA (jg_name 1) (jg_val je_int)))
    (js_cons (js_if (jt_cmp (op_eqA hr.units) ops_eqA (jg_val (je_callB call_len ops_len rfl W.z_len bo_len (ja_cons (jg_name 2) ja_nil))) (jg_val je_int))
      (js_one (js_ret (je_move 1)))
      js_nil)
    (js_cons (js_set 3 hN (je_op op_addAny ops_add (jg_val je_int) (jg_val (je_call (ok_law_draw W) (hr.mono (by decide)) hG rfl W.g_law_draw W.F_law_draw.kp W.b_law_draw (ja_cons (jg_name 0) (ja_cons (jg_val (je_op op_sub ops_sub (jg_val (je_callB call_len ops_len rfl W.z_len bo_len (ja_cons (jg_name 2) ja_nil))) (jg_val je_int))) ja_nil)) (maCons_len (maCons_len maNil_len))))))
    (js_cons (js_par 4 5 hc hN (ja_cons (jg_val (je_call (ok_law_draw W) (hr.mono (by decide)) hG rfl W.g_law_draw W.F_law_draw.kp W.b_law_draw (ja_cons (jg_name 0) (ja_cons (jg_name 3) ja_nil)) (maCons_len (maCons_len maNil_len)))) (ja_cons (jg_val (je_ix (ix_all (hu1 hr)) ops_ixA (jg_val (je_lst (ja_cons (jg_val je_int) (ja_cons (jg_val je_int) (ja_cons (jg_val (je_un un_neg ops_neg (jg_val je_int))) (ja_cons (jg_val (je_un un_neg ops_neg (jg_val je_int))) ja_nil)))))) (jg_val (je_call (ok_law_draw W) (hr.mono (by decide)) hG rfl W.g_law_draw W.F_law_draw.kp W.b_law_draw (ja_cons (jg_name 0) (ja_cons (jg_val je_int) ja_nil)) (maCons_len (maCons_len maNil_len)))))) ja_nil)))
    (js_one (js_ret (je_call (ok_law_with W) (hr.mono (by decide)) hG rfl W.g_law_with W.F_law_with.kp W.b_law_with (ja_cons (jg_name 1) (ja_cons (jg_name 3) (ja_cons (jg_name 4) (ja_cons (jg_val (je_callB (call_min2 hc) ops_min2 rfl W.z_min bo_min (ja_cons (jg_val (je_op op_powW ops_pow (jg_val je_int) (jg_val je_int))) (ja_cons (jg_val (je_callB (call_max2 hc) ops_max2 rfl W.z_max bo_max (ja_cons (jg_val je_int) (ja_cons (jg_val (je_op op_addAny ops_add (jg_val (je_ix (ix_all (hu1 hr)) ops_ixA (jg_val (je_ix (ix_all (hu1 hr)) ops_ixA (jg_val (je_ix (ix_all (hu1 hr)) ops_ixA (jg_name 1) (jg_val je_int))) (jg_name 3))) (jg_name 4))) (jg_name 5))) ja_nil)))) ja_nil)))) ja_nil)))) (maCons_len (maCons_len (maCons_len (maCons_len maNil_len)))))))))))⟩
theorem ok_law_tree (W : Tops K mg) : FnG P w K mg base 2 W.f_law_tree W.d_law_tree ["pot", "names", "most"] m_law_tree := by
  refine fnG_of W.F_law_tree sc_law_tree (ro := [0, 1, 2]) fun X h1 h2 h3 h4 h5 h6 h7 h8 h9 hr hG hx => ?_
  obtain ⟨xp, xw, xK, xmg, xb, xA, xN, xs, xH, xe, xo, xst, xex, xfn, xc, xpn, xxe⟩ := X
  obtain ⟨es, el, eg, ec, eq, ef, ecd, efr, eb⟩ := xe
  dsimp only at h1 h2 h3 h4 h5 h6 h7 h8 h9 hr hG hx
  subst h1 h2 h3 h4 h5 h6 h7 h8 h9 hx
  have hN := sc_law_tree.nd
  have hc : true = true := rfl
  have hP := @PassesOwn.never
  exact ⟨_,
    (js_cons (js_setLcB 3 [("name", 7)] (ok := blkOk_by (by dsimp only [Cx.blk, compEnvC]; decide +kernel)) hc hN (ji_seq (je_name 1)) (fun _ _ _ _ _ => (jt_set 7 hN)) (fun _ _ _ _ _ => jts_yes) (fun _ _ _ _ _ => (je_tup (ja_cons (jg_val (je_name 7)) (ja_cons (jg_val (je_name 7)) ja_nil)))))
    (js_cons (js_for hc hP (ji_r1 rfl W.z_range (ja_cons (jg_val (je_callB call_len ops_len rfl W.z_len bo_len (ja_cons (jg_name 1) ja_nil))) ja_nil)) (jt_set 4 hN)
      (js_one (js_if (jt_cmp op_gtAny ops_cmp (jg_val (je_callB call_len ops_len rfl W.z_len bo_len (ja_cons (jg_name 3) ja_nil))) (jg_val je_int))
        (js_cons (js_set 5 hN (je_lst ja_nil))
        (js_cons (js_for hc hP (ji_r1 rfl W.z_range (ja_cons (jg_val (je_callB (call_min2 hc) ops_min2 rfl W.z_min bo_min (ja_cons (jg_val (je_callB call_len ops_len rfl W.z_len bo_len (ja_cons (jg_name 3) ja_nil))) (ja_cons (jg_val (je_op op_addAny ops_add (jg_val je_int) (jg_val (je_call (ok_law_draw W) (hr.mono (by decide)) hG rfl W.g_law_draw W.F_law_draw.kp W.b_law_draw (ja_cons (jg_name 0) (ja_cons (jg_val (je_op op_sub ops_sub (jg_name 2) (jg_val je_int))) ja_nil)) (maCons_len (maCons_len maNil_len)))))) ja_nil)))) ja_nil)) (jt_set 6 hN)
          (js_one (js_expr (je_append (jg_name 5) (jg_val (je_popAt (jg_name 3) (jg_val (je_call (ok_law_draw W) (hr.mono (by decide)) hG rfl W.g_law_draw W.F_law_draw.kp W.b_law_draw (ja_cons (jg_name 0) (ja_cons (jg_val (je_callB call_len ops_len rfl W.z_len bo_len (ja_cons (jg_name 3) ja_nil))) ja_nil)) (maCons_len (maCons_len maNil_len))))))))))
        (js_cons (js_set 5 hN (je_callB (cr_sort (hu66 hr)) ops_sort rfl W.z_sorted bo_sorted (ja_cons (jg_name 5) ja_nil)))
        (js_one (js_expr (je_append (jg_name 3) (jg_val (je_tup (ja_cons (jg_val (je_ix (ix_all (hu1 hr)) ops_ixA (jg_val (je_ix (ix_all (hu1 hr)) ops_ixA (jg_name 5) (jg_val je_int))) (jg_val je_int))) (ja_cons (jg_val (je_callTy call_tuple_of ops_tuple rfl W.z_tuple bo_tuple (ja_cons (jg_val (je_lcB [("part", 8)] (ok := blkOk_by (by dsimp only [Cx.blk, compEnvC]; decide +kernel)) hc hN (ji_seq (je_name 5)) (fun _ _ _ _ _ => (jt_set 8 hN)) (fun _ _ _ _ _ => jts_yes) (fun _ _ _ _ _ => (je_ix (ix_all (hu1 hr)) ops_ixA (jg_name 8) (jg_val je_int))))) ja_nil))) ja_nil))))))))))
        js_nil)))
    (js_one (js_ret (je_ix (ix_all (hu1 hr)) ops_ixA (jg_val (je_ix (ix_all (hu1 hr)) ops_ixA (jg_name 3) (jg_val je_int))) (jg_val je_int))))))⟩
theorem ok_law_hung (W : Tops K mg) : FnG P w K mg base 3 W.f_law_hung W.d_law_hung ["pot", "names"] m_law_hung := by
  refine fnG_of W.F_law_hung sc_law_hung (ro := [0, 1]) fun X h1 h2 h3 h4 h5 h6 h7 h8 h9 hr hG hx => ?_
  obtain ⟨xp, xw, xK, xmg, xb, xA, xN, xs, xH, xe, xo, xst, xex, xfn, xc, xpn, xxe⟩ := X
  obtain ⟨es, el, eg, ec, eq, ef, ecd, efr, eb⟩ := xe
  dsimp only at h1 h2 h3 h4 h5 h6 h7 h8 h9 hr hG hx
  subst h1 h2 h3 h4 h5 h6 h7 h8 h9 hx
  have hN := sc_law_hung.nd
  have hc : true = true := rfl
  have hP := @PassesOwn.never
  exact ⟨_,
    (js_cons (js_if (jt_cmp (op_eqA hr.units) ops_eqA (jg_val (je_callB call_len ops_len rfl W.z_len bo_len (ja_cons (jg_name 1) ja_nil))) (jg_val je_int))
      (js_one (js_ret (je_ix (ix_all (hu1 hr)) ops_ixA (jg_name 1) (jg_val je_int))))
      js_nil)
    (js_one (js_ret (je_tup (ja_cons (jg_val (je_ix (ix_all (hu1 hr)) ops_ixA (jg_name 1) (jg_val je_int))) (ja_cons (jg_val (je_frz (je_call (ok_law_tree W) (hr.mono (by decide)) hG rfl W.g_law_tree W.F_law_tree.kp W.b_law_tree (ja_cons (jg_name 0) (ja_cons (jg_val (je_sl (jg_name 1) (jo_some je_int) jo_none)) (ja_cons (jg_val (je_ix (ix_all (hu1 hr)) ops_ixA (jg_val (je_lst (ja_cons (jg_val je_int) (ja_cons (jg_val je_int) (ja_cons (jg_val je_int) ja_nil))))) (jg_val (je_call (ok_law_draw W) (hr.mono (by decide)) hG rfl W.g_law_draw W.F_law_draw.kp W.b_law_draw (ja_cons (jg_name 0) (ja_cons (jg_val je_int) ja_nil)) (maCons_len (maCons_len maNil_len)))))) ja_nil))) (maCons_len (maCons_len (maCons_len maNil_len)))))) ja_nil))))))⟩
theorem ok_law_right (W : Tops K mg) : FnG P w K mg base 16 W.f_law_right W.d_law_right ["pot"] m_law_right := by
  refine fnG_of W.F_law_right sc_law_right (ro := [0]) fun X h1 h2 h3 h4 h5 h6 h7 h8 h9 hr hG hx => ?_
  obtain ⟨xp, xw, xK, xmg, xb, xA, xN, xs, xH, xe, xo, xst, xex, xfn, xc, xpn, xxe⟩ := X
  obtain ⟨es, el, eg, ec, eq, ef, ecd, efr, eb⟩ := xe
  dsimp only at h1 h2 h3 h4 h5 h6 h7 h8 h9 hr hG hx
  subst h1 h2 h3 h4 h5 h6 h7 h8 h9 hx
  have hN := sc_law_right.nd
  have hc : true = true := rfl
  have hP := @PassesOwn.never
  exact ⟨_,
    (js_cons (js_set 1 hN (je_call (ok_law_names W) (hr.mono (by decide)) hG rfl W.g_law_names W.F_law_names.kp W.b_law_names (ja_cons (jg_name 0) (ja_cons (jg_val (je_op op_addAny ops_add (jg_val je_int) (jg_val (je_call (ok_law_draw W) (hr.mono (by decide)) hG rfl W.g_law_draw W.F_law_draw.kp W.b_law_draw (ja_cons (jg_name 0) (ja_cons (jg_val je_int) ja_nil)) (maCons_len (maCons_len maNil_len)))))) ja_nil)) (maCons_len (maCons_len maNil_len))))
    (js_cons (js_set 2 hN (je_call (ok_law_any W) (hr.mono (by decide)) hG rfl W.g_law_any W.F_law_any.kp W.b_law_any (ja_cons (jg_name 0) (ja_cons (jg_name 1) ja_nil)) (maCons_len (maCons_len maNil_len))))
    (js_cons (js_if (jt_cmp op_gtAny ops_cmp (jg_val (je_call (ok_law_draw W) (hr.mono (by decide)) hG rfl W.g_law_draw W.F_law_draw.kp W.b_law_draw (ja_cons (jg_name 0) (ja_cons (jg_val je_int) ja_nil)) (maCons_len (maCons_len maNil_len)))) (jg_val je_int))
      (js_one (js_set 2 hN (je_call (ok_law_near W) (hr.mono (by decide)) hG rfl W.g_law_near W.F_law_near.kp W.b_law_near (ja_cons (jg_name 0) (ja_cons (jg_val (je_call (ok_law_distances W) (hr.mono (by decide)) hG rfl W.g_law_distances W.F_law_distances.kp W.b_law_distances (ja_cons (jg_name 1) (ja_cons (jg_val (je_call (ok_law_doubled W) (hr.mono (by decide)) hG rfl W.g_law_doubled W.F_law_doubled.kp W.b_law_doubled (ja_cons (jg_name 0) (ja_cons (jg_val (je_call (ok_law_hung W) (hr.mono (by decide)) hG rfl W.g_law_hung W.F_law_hung.kp W.b_law_hung (ja_cons (jg_name 0) (ja_cons (jg_name 1) ja_nil)) (maCons_len (maCons_len maNil_len)))) ja_nil)) (maCons_len (maCons_len maNil_len)))) ja_nil)) (maCons_len (maCons_len maNil_len)))) ja_nil)) (maCons_len (maCons_len maNil_len)))))
      js_nil)
    (js_cons (js_par 3 4 hc hN (ja_cons (jg_val (je_call (ok_law_table W) (hr.mono (by decide)) hG rfl W.g_law_table W.F_law_table.kp W.b_law_table (ja_cons (jg_name 2) ja_nil) (maCons_len maNil_len))) (ja_cons (jg_val (je_callB (call_reprD hG (hu66 hr)) ops_repr rfl W.z_repr bo_repr (ja_cons (jg_name 2) ja_nil))) ja_nil)))
    (js_cons (js_for hc hP (ji_r1 rfl W.z_range (ja_cons (jg_val je_int) ja_nil)) (jt_set 5 hN)
      (js_cons (js_set 6 hN (je_call (ok_law_thing W) (hr.mono (by decide)) hG rfl W.g_law_thing W.F_law_thing.kp W.b_law_thing (ja_cons (jg_name 0) (ja_cons (jg_name 1) (ja_cons (jg_name 3) ja_nil))) (maCons_len (maCons_len (maCons_len maNil_len)))))
      (js_cons (js_set 7 hN (je_callB (call_reprD hG (hu66 hr)) ops_repr rfl W.z_repr bo_repr (ja_cons (jg_name 6) ja_nil)))
      (js_cons (js_set 8 hN (je_call (ok_law_due W) (hr.mono (by decide)) hG rfl W.g_law_due W.F_law_due.kp W.b_law_due (ja_cons (jg_name 1) (ja_cons (jg_name 3) (ja_cons (jg_name 6) ja_nil))) (maCons_len (maCons_len (maCons_len maNil_len)))))
      (js_cons (js_set 9 hN (je_lst (ja_cons (jg_val (je_frz (je_call (okfour_holds W) (hr.mono (by decide)) hG rfl W.gfour_holds W.Ffour_holds.kp W.bfour_holds (ja_cons (jg_name 2) (ja_cons (jg_name 6) ja_nil)) (maCons_len (maCons_len maNil_len))))) (ja_cons (jg_val (je_frz (je_callK0 (ks := ["value", "distances"]) [1, 0] (okfour_holds W) (hr.mono (by decide)) hG rfl W.gfour_holds W.Ffour_holds.kp W.kfour_holds_value_distances (jk_cons (jg_val (je_name 6)) (jk_cons (jg_val (je_name 2)) jk_nil)) (maCons_len (maCons_len maNil_len))))) ja_nil))))
      (js_cons (js_if (jt_cmp (op_neA hr.units) ops_neA (jg_val (je_callB (call_reprD hG (hu66 hr)) ops_repr rfl W.z_repr bo_repr (ja_cons (jg_name 9) ja_nil))) (jg_val (je_callB (call_reprD hG (hu66 hr)) ops_repr rfl W.z_repr bo_repr (ja_cons (jg_val (je_lst (ja_cons (jg_val (je_name 8)) (ja_cons (jg_val (je_name 8)) ja_nil)))) ja_nil))))
        (js_one (js_ret je_bl))
        js_nil)
      (js_one (js_if (jt_cmp (op_neA hr.units) ops_neA (jg_val (je_callB (call_reprD hG (hu66 hr)) ops_repr rfl W.z_repr bo_repr (ja_cons (jg_name 6) ja_nil))) (jg_name 7))
        (js_one (js_ret je_bl))
        js_nil))))))))
    (js_one (js_ret (je_cmp (op_eqA hr.units) ops_eqA (jg_val (je_callB (call_reprD hG (hu66 hr)) ops_repr rfl W.z_repr bo_repr (ja_cons (jg_name 2) ja_nil))) (jg_name 4)))))))))⟩
theorem oklaw (W : Tops K mg) : FnG P w K mg base 17 W.flaw W.dlaw ["script"] mlaw := by
  refine fnG_of W.Flaw sclaw (ro := [0]) fun X h1 h2 h3 h4 h5 h6 h7 h8 h9 hr hG hx => ?_
  obtain ⟨xp, xw, xK, xmg, xb, xA, xN, xs, xH, xe, xo, xst, xex, xfn, xc, xpn, xxe⟩ := X
  obtain ⟨es, el, eg, ec, eq, ef, ecd, efr, eb⟩ := xe
  dsimp only at h1 h2 h3 h4 h5 h6 h7 h8 h9 hr hG hx
  subst h1 h2 h3 h4 h5 h6 h7 h8 h9 hx
  have hN := sclaw.nd
  have hc : true = true := rfl
  have hP := @PassesOwn.never
  exact ⟨_,
    (js_cons (js_for hc hP (ji_r1 rfl W.z_range (ja_cons (jg_val (je_callB (call_max2 hc) ops_max2 rfl W.z_max bo_max (ja_cons (jg_val je_int) (ja_cons (jg_val (je_callB (call_min2 hc) ops_min2 rfl W.z_min bo_min (ja_cons (jg_val je_int) (ja_cons (jg_val (je_callB call_len ops_len rfl W.z_len bo_len (ja_cons (jg_name 0) ja_nil))) ja_nil)))) ja_nil)))) ja_nil)) (jt_set 1 hN)
      (js_one (js_if (jt_not (jt_val (je_call (ok_law_right W) (hr.mono (by decide)) hG rfl W.g_law_right W.F_law_right.kp W.b_law_right (ja_cons (jg_val (je_call (ok_law_pot W) (hr.mono (by decide)) hG rfl W.g_law_pot W.F_law_pot.kp W.b_law_pot (ja_cons (jg_name 0) (ja_cons (jg_name 1) ja_nil)) (maCons_len (maCons_len maNil_len)))) ja_nil) (maCons_len maNil_len))))
        (js_one (js_ret je_bl))
        js_nil)))
    (js_one (js_ret je_bl)))⟩
end
end VS.L44

namespace VS.L44
open PySem PySem.Spec L2 VS
theorem lg {x : Int} {n : Nat} (hn : 0 < n) (h0 : 0 ≤ x) (h : x < 2 ^ n) : x.natAbs.log2 < n := by
  by_cases e : x.natAbs = 0
  · rw [e]; simpa using hn
  · refine (Nat.log2_lt e).mpr ?_
    have : (x.natAbs : Int) < ((2 ^ n : Nat) : Int) := by
      rw [Int.natAbs_of_nonneg h0]
      simpa using h
    exact_mod_cast this
theorem bits {x : Int} {n : Nat} (hn : 0 < n) (h0 : 0 ≤ x) (h : x < 2 ^ n) : Builtin.Int.intBits x ≤ n := by
  have := lg hn h0 h
  unfold Builtin.Int.intBits
  split <;> omega
def PotL (n : Nat) (xs : List D) : Prop := ∃ a b t : Int, xs = [.int a, .int b, .int t] ∧ 0 ≤ b ∧ b < 10 ^ 30 ∧ 0 ≤ t ∧ t ≤ n
theorem PotL.mono {n m : Nat} {xs : List D} (p : PotL n xs) (h : n ≤ m) : PotL m xs := by
  obtain ⟨a, b, t, rfl, h1, h2, h3, h4⟩ := p
  exact ⟨a, b, t, rfl, h1, h2, h3, by omega⟩
theorem draw1 (a b t many : Int) (h : 0 < a) (h2 : 0 < many) (h3 : many.natAbs.log2 < 9000) : m_law_draw [.l [.int a, .int b, .int t], .d (.int many)] = some (.d (.int (a % many)), [.l [.int (a / many), .int b, .int t], .d (.int many)]) := by
  simp -implicitDefEqProofs [m_law_draw, e_seq, bS_nx, bS_rt, bS_bk, bS_ct, bS_no, e_skip, e_if, e_set, e_ret, e_retN, e_expr, e_setIx, e_op, e_nil, e_cons, e_val, e_frz, e_arg, gA_d, gA_l, gA_k, gA_t, gA_m, e_name, nA_d, nA_l, nA_k, nA_t, nA_m, e_move, vA_s, e_c, e_conts0, e_conts1, e_contV, e_contR, e_tst, e_tnot, e_tand, e_tor, e_ifE, e_call, e_refs0, e_refsV, e_refsR, e_sr0, e_srV, e_srR, e_ixA, e_ixL, e_ixT, e_at0, e_at1, e_at2, e_at3, e_addI, e_subI, e_gtI, e_ltI, e_leI, e_intI, e_intB, e_setM, e_putL, e_ix30, e_ix31, e_ix32, e_for, e_seqI, e_asl, e_ast, e_gset, e_yes, wipeL, unwipe, e_frzd, e_frzl, e_frzm, e_frzk, e_frzt, e_max2, e_min2, e_datas0, e_datas1, e_dispL, e_dispT, e_outs0, e_outsD, e_outsL, e_outsT, e_outsK, e_slotC, e_fn, fin_rt, fin_nx, e_eqAS, e_neAS, e_eqAI, e_neAI, e_eqAB, e_neAB, e_meth, e_methO, e_isLl, e_isLd, e_tuL, e_tuD, e_tuT, e_liL, e_liD, e_liT, e_lenT, e_lenD, e_lenO, h, e_modI h2, e_fdivI h2 h3]
theorem draw2 (a b t many : Int) (h : ¬ 0 < a) (h2 : 0 < many) (hb : 0 ≤ b) (hb2 : b < 10 ^ 30) (ht : 0 ≤ t) (ht2 : t < 2 ^ 62) : ∃ d : Int, m_law_draw [.l [.int a, .int b, .int t], .d (.int many)] = some (.d (.int (d % many)), [.l [.int a, .int b, .int (t + 1)], .d (.int many)]) := by
  have f1 : ∀ j, mulC [.d (.int 32452843), .d (.int j)] = some (.d (.int (32452843 * j))) := fun j => e_mulI (.inl (by decide))
  have f2 : ∀ j, mulC [.d (.int 7), .d (.int j)] = some (.d (.int (7 * j))) := fun j => e_mulI (.inl (by decide))
  have p1 : powC [.d (.int 10), .d (.int 30)] = some (.d (.int (10 ^ 30))) := e_powI (by decide)
  have p2 : powC [.d (.int 10), .d (.int 28)] = some (.d (.int (10 ^ 28))) := e_powI (by decide)
  have p3 : powC [.d (.int (b + 32452843 * (t + 1))), .d (.int 3)] = some (.d (.int ((b + 32452843 * (t + 1)) ^ 3))) := by
    refine e_powI ⟨by decide, ?_⟩
    have := bits (x := b + 32452843 * (t + 1)) (n := 200) (by decide) (by omega) (by
      have : (2 : Int) ^ 200 = 1606938044258990275541962092341162602522202993782792835301376 := by decide
      rw [this]
      have h30 : (10 : Int) ^ 30 = 1000000000000000000000000000000 := by decide
      have h62 : (2 : Int) ^ 62 = 4611686018427387904 := by decide
      omega)
    have h27 : (2 : Int) ^ 27 = 134217728 := by decide
    omega
  have m1 : ∀ i : Int, modC [.d (.int i), .d (.int (10 ^ 30 + 57))] = some (.d (.int (i % (10 ^ 30 + 57)))) := fun i => e_modI (by decide)
  have m2 : ∀ i : Int, modC [.d (.int i), .d (.int (10 ^ 28 + 331))] = some (.d (.int (i % (10 ^ 28 + 331)))) := fun i => e_modI (by decide)
  have d1 : ∀ i : Int, fdivC [.d (.int i), .d (.int 15485863)] = some (.d (.int (i / 15485863))) := fun i => e_fdivI (by decide) (by decide)
  have q1 : ∀ x : Int, mulC [.d (.int (x % (10 ^ 30 + 57))), .d (.int (x % (10 ^ 30 + 57)))] = some (.d (.int (x % (10 ^ 30 + 57) * (x % (10 ^ 30 + 57))))) := fun x => e_mulI (.inr (.inr (by
    have h1 := Int.emod_nonneg x (show (10 : Int) ^ 30 + 57 ≠ 0 by decide)
    have h2 := Int.emod_lt_of_pos x (show (0 : Int) < 10 ^ 30 + 57 by decide)
    have := lg (n := 120) (by decide) h1 (Int.lt_trans h2 (by decide))
    omega)))
  simp -implicitDefEqProofs [m_law_draw, e_seq, bS_nx, bS_rt, bS_bk, bS_ct, bS_no, e_skip, e_if, e_set, e_ret, e_retN, e_expr, e_setIx, e_op, e_nil, e_cons, e_val, e_frz, e_arg, gA_d, gA_l, gA_k, gA_t, gA_m, e_name, nA_d, nA_l, nA_k, nA_t, nA_m, e_move, vA_s, e_c, e_conts0, e_conts1, e_contV, e_contR, e_tst, e_tnot, e_tand, e_tor, e_ifE, e_call, e_refs0, e_refsV, e_refsR, e_sr0, e_srV, e_srR, e_ixA, e_ixL, e_ixT, e_at0, e_at1, e_at2, e_at3, e_addI, e_subI, e_gtI, e_ltI, e_leI, e_intI, e_intB, e_setM, e_putL, e_ix30, e_ix31, e_ix32, e_for, e_seqI, e_asl, e_ast, e_gset, e_yes, wipeL, unwipe, e_frzd, e_frzl, e_frzm, e_frzk, e_frzt, e_max2, e_min2, e_datas0, e_datas1, e_dispL, e_dispT, e_outs0, e_outsD, e_outsL, e_outsT, e_outsK, e_slotC, e_fn, fin_rt, fin_nx, e_eqAS, e_neAS, e_eqAI, e_neAI, e_eqAB, e_neAB, e_meth, e_methO, e_isLl, e_isLd, e_tuL, e_tuD, e_tuT, e_liL, e_liD, e_liT, e_lenT, e_lenD, e_lenO, h, f1, p3, -Int.reducePow, -Int.reduceAdd, p1, p2, m1, m2, q1, f2, d1, e_modI h2]
  exact ⟨_, rfl⟩
theorem draw {n : Nat} {xs : List D} {many : Int} (p : PotL n xs) (hn : n < 2 ^ 60) (h0 : 0 < many) (h1 : many < 2 ^ 64) : ∃ d xs', m_law_draw [.l xs, .d (.int many)] = some (.d (.int d), [.l xs', .d (.int many)]) ∧ 0 ≤ d ∧ d < many ∧ PotL (n + 1) xs' := by
  obtain ⟨a, b, t, rfl, hb, hb2, ht, ht2⟩ := p
  by_cases h : 0 < a
  · refine ⟨_, _, draw1 a b t many h h0 (Nat.lt_trans (lg (n := 64) (by decide) (by omega) h1) (by decide)), Int.emod_nonneg _ (by omega), Int.emod_lt_of_pos _ h0, _, b, t, rfl, hb, hb2, ht, by omega⟩
  · obtain ⟨d, e⟩ := draw2 a b t many h h0 hb hb2 ht (by
      have h62 : (2 : Int) ^ 62 = 4611686018427387904 := by decide
      have : (2 : Nat) ^ 60 = 1152921504606846976 := by decide
      omega)
    exact ⟨_, _, e, Int.emod_nonneg _ (by omega), Int.emod_lt_of_pos _ h0, a, b, t + 1, rfl, hb, hb2, by omega, by push_cast; omega⟩
theorem pw27 : powC [.d (.int 10), .d (.int 27)] = some (.d (.int (10 ^ 27))) := e_powI (by decide)
theorem pw29 : powC [.d (.int 10), .d (.int 29)] = some (.d (.int (10 ^ 29))) := e_powI (by decide)
theorem pw18 : powC [.d (.int 10), .d (.int 18)] = some (.d (.int (10 ^ 18))) := e_powI (by decide)
theorem mulL {i j : Int} (h : j.natAbs.log2 < 64) : mulC [.d (.int i), .d (.int j)] = some (.d (.int (i * j))) := e_mulI (.inr (.inl h))
theorem mul31 (j : Int) : mulC [.d (.int 31), .d (.int j)] = some (.d (.int (31 * j))) := e_mulI (.inl (by decide))
theorem mul7919 (j : Int) : mulC [.d (.int j), .d (.int 7919)] = some (.d (.int (j * 7919))) := mulL (by decide)
theorem mul611 (j : Int) : mulC [.d (.int j), .d (.int 611953)] = some (.d (.int (j * 611953))) := mulL (by decide)
theorem mul5 (j : Int) : mulC [.d (.int j), .d (.int 5)] = some (.d (.int (j * 5))) := mulL (by decide)
theorem mul9 (j : Int) : mulC [.d (.int j), .d (.int 9)] = some (.d (.int (j * 9))) := mulL (by decide)
theorem mod27 (i : Int) : modC [.d (.int i), .d (.int (10 ^ 27 + 103))] = some (.d (.int (i % (10 ^ 27 + 103)))) := e_modI (by decide)
theorem mod29 (i : Int) : modC [.d (.int i), .d (.int (10 ^ 29 + 319))] = some (.d (.int (i % (10 ^ 29 + 319)))) := e_modI (by decide)
theorem lenL (xs : List D) : lenC [.d (.lst xs)] = some (.d (.int xs.length)) := rfl
theorem pot_ok (ns : List Int) (k : Nat) (hk : k < 2 ^ 60) : ∃ xs, m_law_pot [.d (.lst (ns.map .int)), .d (.int k)] = some (.l xs, [.d (.lst (ns.map .int)), .d (.int k)]) ∧ PotL 0 xs := by
  have loop : ∀ t0 : Int, ∃ L', forM (gSet 3) b_law_pot_1 (ns.map .int) [some (.d (.lst (ns.map .int))), some (.d (.int k)), some (.d (.int t0)), none, none] = some (.nx L') ∧ ∃ (t : Int) (y : Option C), L' = [some (.d (.lst (ns.map .int))), some (.d (.int k)), some (.d (.int t)), y, none] := fun t0 =>
    for_inv (fun _ L => ∃ (t : Int) (y : Option C), L = [some (.d (.lst (ns.map .int))), some (.d (.int k)), some (.d (.int t)), y, none]) (ns.map .int) ⟨t0, none, rfl⟩ fun i x L hx ⟨t, y, hL⟩ => by
      rw [List.getElem?_map] at hx
      obtain ⟨z, _, rfl⟩ := Option.map_eq_some_iff.mp hx
      subst hL
      refine ⟨_, _, rfl, ?_, (t * 7919 + z * 611953 + 3) % (10 ^ 27 + 103), some (.d (.int z)), rfl⟩
      simp -implicitDefEqProofs [b_law_pot_1, e_seq, bS_nx, bS_rt, bS_bk, bS_ct, bS_no, e_skip, e_if, e_set, e_ret, e_retN, e_expr, e_setIx, e_op, e_nil, e_cons, e_val, e_frz, e_arg, gA_d, gA_l, gA_k, gA_t, gA_m, e_name, nA_d, nA_l, nA_k, nA_t, nA_m, e_move, vA_s, e_c, e_conts0, e_conts1, e_contV, e_contR, e_tst, e_tnot, e_tand, e_tor, e_ifE, e_call, e_refs0, e_refsV, e_refsR, e_sr0, e_srV, e_srR, e_ixA, e_ixL, e_ixT, e_at0, e_at1, e_at2, e_at3, e_addI, e_subI, e_gtI, e_ltI, e_leI, e_intI, e_intB, e_setM, e_putL, e_ix30, e_ix31, e_ix32, e_for, e_seqI, e_asl, e_ast, e_gset, e_yes, wipeL, unwipe, e_frzd, e_frzl, e_frzm, e_frzk, e_frzt, e_max2, e_min2, e_datas0, e_datas1, e_dispL, e_dispT, e_outs0, e_outsD, e_outsL, e_outsT, e_outsK, e_slotC, e_fn, fin_rt, fin_nx, e_eqAS, e_neAS, e_eqAI, e_neAI, e_eqAB, e_neAB, e_meth, e_methO, e_isLl, e_isLd, e_tuL, e_tuD, e_tuT, e_liL, e_liD, e_liT, e_lenT, e_lenD, e_lenO, mul7919, mul611, pw27, mod27, -Int.reducePow, -Int.reduceAdd]
  obtain ⟨L', e1, t, y, rfl⟩ := loop (31 * k + 11)
  -- the cell
  have cell : ∃ c : Int, mIfE (tstM (mOp ltC (maCons (gNameA 1) (maCons (mVal (mOp lenC (maCons (gNameA 0) maNil))) maNil)))) (mOp ixA (maCons (gNameA 0) (maCons (gNameA 1) maNil))) (mName 2) [some (.d (.lst (ns.map .int))), some (.d (.int k)), some (.d (.int t)), y, none] = some (.d (.int c), [some (.d (.lst (ns.map .int))), some (.d (.int k)), some (.d (.int t)), y, none]) := by
    by_cases hk2 : k < ns.length
    · refine ⟨ns[k], ?_⟩
      have : atI (ns.map D.int) (k : Int) = some (.int ns[k]) := by
        rw [atI_ge (k := k) rfl (by simpa using hk2), List.getElem?_map, List.getElem?_eq_getElem hk2]
        rfl
      simp -implicitDefEqProofs [e_seq, bS_nx, bS_rt, bS_bk, bS_ct, bS_no, e_skip, e_if, e_set, e_ret, e_retN, e_expr, e_setIx, e_op, e_nil, e_cons, e_val, e_frz, e_arg, gA_d, gA_l, gA_k, gA_t, gA_m, e_name, nA_d, nA_l, nA_k, nA_t, nA_m, e_move, vA_s, e_c, e_conts0, e_conts1, e_contV, e_contR, e_tst, e_tnot, e_tand, e_tor, e_ifE, e_call, e_refs0, e_refsV, e_refsR, e_sr0, e_srV, e_srR, e_ixA, e_ixL, e_ixT, e_at0, e_at1, e_at2, e_at3, e_addI, e_subI, e_gtI, e_ltI, e_leI, e_intI, e_intB, e_setM, e_putL, e_ix30, e_ix31, e_ix32, e_for, e_seqI, e_asl, e_ast, e_gset, e_yes, wipeL, unwipe, e_frzd, e_frzl, e_frzm, e_frzk, e_frzt, e_max2, e_min2, e_datas0, e_datas1, e_dispL, e_dispT, e_outs0, e_outsD, e_outsL, e_outsT, e_outsK, e_slotC, e_fn, fin_rt, fin_nx, e_eqAS, e_neAS, e_eqAI, e_neAI, e_eqAB, e_neAB, e_meth, e_methO, e_isLl, e_isLd, e_tuL, e_tuD, e_tuT, e_liL, e_liD, e_liT, e_lenT, e_lenD, e_lenO, lenL, this, hk2]
    · refine ⟨t, ?_⟩
      simp -implicitDefEqProofs [e_seq, bS_nx, bS_rt, bS_bk, bS_ct, bS_no, e_skip, e_if, e_set, e_ret, e_retN, e_expr, e_setIx, e_op, e_nil, e_cons, e_val, e_frz, e_arg, gA_d, gA_l, gA_k, gA_t, gA_m, e_name, nA_d, nA_l, nA_k, nA_t, nA_m, e_move, vA_s, e_c, e_conts0, e_conts1, e_contV, e_contR, e_tst, e_tnot, e_tand, e_tor, e_ifE, e_call, e_refs0, e_refsV, e_refsR, e_sr0, e_srV, e_srR, e_ixA, e_ixL, e_ixT, e_at0, e_at1, e_at2, e_at3, e_addI, e_subI, e_gtI, e_ltI, e_leI, e_intI, e_intB, e_setM, e_putL, e_ix30, e_ix31, e_ix32, e_for, e_seqI, e_asl, e_ast, e_gset, e_yes, wipeL, unwipe, e_frzd, e_frzl, e_frzm, e_frzk, e_frzt, e_max2, e_min2, e_datas0, e_datas1, e_dispL, e_dispT, e_outs0, e_outsD, e_outsL, e_outsT, e_outsK, e_slotC, e_fn, fin_rt, fin_nx, e_eqAS, e_neAS, e_eqAI, e_neAI, e_eqAB, e_neAB, e_meth, e_methO, e_isLl, e_isLd, e_tuL, e_tuD, e_tuT, e_liL, e_liD, e_liT, e_lenT, e_lenD, e_lenO, lenL, hk2]
  obtain ⟨c, e2⟩ := cell
  refine ⟨[.int (if c - 10 ^ 18 > 0 then c - 10 ^ 18 else 0), .int ((t * 5 + c * 9) % (10 ^ 29 + 319)), .int 0], ?_, _, _, _, rfl, Int.emod_nonneg _ (by decide), Int.lt_trans (Int.emod_lt_of_pos _ (by decide)) (by decide), by decide, by decide⟩
  simp -implicitDefEqProofs [m_law_pot, e_seq, bS_nx, bS_rt, bS_bk, bS_ct, bS_no, e_skip, e_if, e_set, e_ret, e_retN, e_expr, e_setIx, e_op, e_nil, e_cons, e_val, e_frz, e_arg, gA_d, gA_l, gA_k, gA_t, gA_m, e_name, nA_d, nA_l, nA_k, nA_t, nA_m, e_move, vA_s, e_c, e_conts0, e_conts1, e_contV, e_contR, e_tst, e_tnot, e_tand, e_tor, e_call, e_refs0, e_refsV, e_refsR, e_sr0, e_srV, e_srR, e_ixA, e_ixL, e_ixT, e_at0, e_at1, e_at2, e_at3, e_addI, e_subI, e_gtI, e_ltI, e_leI, e_intI, e_intB, e_setM, e_putL, e_ix30, e_ix31, e_ix32, e_for, e_seqI, e_asl, e_ast, e_gset, e_yes, wipeL, unwipe, e_frzd, e_frzl, e_frzm, e_frzk, e_frzt, e_max2, e_min2, e_datas0, e_datas1, e_dispL, e_dispT, e_outs0, e_outsD, e_outsL, e_outsT, e_outsK, e_slotC, e_fn, fin_rt, fin_nx, e_eqAS, e_neAS, e_eqAI, e_neAI, e_eqAB, e_neAB, e_meth, e_methO, e_isLl, e_isLd, e_tuL, e_tuD, e_tuT, e_liL, e_liD, e_liT, e_lenT, e_lenD, e_lenO, mul31, e1, e2, mul5, mul9, pw29, pw18, mod29, -Int.reducePow, -Int.reduceAdd]
/-! ### words -/
/-- signs that are small letters -/
def LetL (l : List Nat) : Prop := ∀ c ∈ l, 97 ≤ c ∧ c ≤ 122
def mkS (l : List Nat) : PySem.Str := ⟨l.toArray⟩
theorem mkS_cps (l : List Nat) : (mkS l).cps.toList = l := rfl
theorem mkS_len (l : List Nat) : (mkS l).length = l.length := by simp [mkS, PySem.Str.length]
theorem mkS_inj {l m : List Nat} (h : mkS l = mkS m) : l = m := by
  have := congrArg (fun s : PySem.Str => s.cps.toList) h
  simpa [mkS] using this
theorem mkS_app (l m : List Nat) : mkS l ++ mkS m = mkS (l ++ m) := by
  show PySem.Str.append (mkS l) (mkS m) = mkS (l ++ m)
  simp [PySem.Str.append, mkS]
def dec : List Nat → Nat
  | [] => 0
  | c :: r => (c - 97) * 26 ^ r.length + dec r
def lettersL : List Nat := (List.range 26).map (97 + ·)
theorem letters_eq : ("abcdefghijklmnopqrstuvwxyz" : PySem.Str) = mkS lettersL := by decide +kernel
theorem empty_eq : ("" : PySem.Str) = mkS [] := by decide +kernel
theorem strOk_let {l : List Nat} (h : LetL l) : okD (.str (mkS l)) = true := by
  have : PySem.PyData.strOk (mkS l) = true := by
    unfold PySem.PyData.strOk
    simp only [mkS, List.all_toArray, List.all_eq_true]
    intro c hc
    have := h c hc
    simp
    omega
  simp [okD, SeqAt.shaped, toPy, PyData.canLay0, this, PyData.depth]
theorem e_eqS {a b : PySem.Str} (ha : okD (.str a) = true) (hb : okD (.str b) = true) : eqC [.d (.str a), .d (.str b)] = some (.d (.bl (a == b))) := by
  unfold eqC eqB
  simp only [frz, ha, hb, Bool.and_self, if_true, Option.map_some, toPy, PyData.eqv]
theorem word_at (i : Nat) (h : i < 26) : ixA [.d (.str (mkS lettersL)), .d (.int i)] = some (.d (.str (mkS [97 + i]))) := by
  have e : ixC [.d (.str (mkS lettersL)), .d (.int i)] = some (.d (.str (mkS [97 + i]))) := by
    unfold ixC
    have h1 : (mkS lettersL).length ≤ sizeLine := by decide +kernel
    have h2 : atI (mkS lettersL).cps.toList (i : Int) = some (97 + i) := by
      have : (mkS lettersL).cps.toList = lettersL := rfl
      rw [this]
      unfold atI
      rw [ixN_lt (k := i) rfl (by simpa [lettersL] using h)]
      show lettersL[i]? = _
      simp [lettersL, h]
    show (if (mkS lettersL).length ≤ sizeLine then _ else none) = _
    rw [if_pos h1, h2]
    rfl
  unfold ixA orC
  rw [e]
theorem add_str {l m : List Nat} (h : l.length + m.length ≤ 1000) : addC [.d (.str (mkS l)), .d (.str (mkS m))] = some (.d (.str (mkS (l ++ m)))) := by
  have : addSC [.d (.str (mkS l)), .d (.str (mkS m))] = some (.d (.str (mkS (l ++ m)))) := by
    unfold addSC
    simp only [mkS_len]
    rw [if_pos (Nat.le_trans h (by decide)), mkS_app]
  unfold addC orC add1C i2
  simp only [this]
/-- the state of a word's making: what is left of the number, the signs so far -/
def WInv (n0 : Nat) (i : Nat) (n : Nat) (acc : List Nat) : Prop := LetL acc ∧ acc.length ≤ i ∧ (0 < i → acc ≠ []) ∧ n * 26 ^ acc.length + dec acc = n0 ∧ (n = 0 ∨ acc.length = i)
theorem word_step {n0 i n : Nat} {acc : List Nat} (w : WInv n0 i n acc) (h : 0 < n ∨ acc = []) : WInv n0 (i + 1) (n / 26) ((97 + n % 26) :: acc) := by
  obtain ⟨h1, h2, h3, h4, h5⟩ := w
  have hm : n % 26 < 26 := Nat.mod_lt _ (by decide)
  refine ⟨fun c hc => ?_, by rw [List.length_cons]; omega, fun _ => by simp, ?_, ?_⟩
  · rcases List.mem_cons.mp hc with rfl | hc
    · omega
    · exact h1 c hc
  · rw [List.length_cons, dec, Nat.add_sub_cancel_left, Nat.pow_succ]
    have e : 26 * (n / 26) + n % 26 = n := Nat.div_add_mod n 26
    have : n / 26 * (26 ^ acc.length * 26) + n % 26 * 26 ^ acc.length = n * 26 ^ acc.length := by
      rw [show n / 26 * (26 ^ acc.length * 26) = (26 * (n / 26)) * 26 ^ acc.length by rw [Nat.mul_comm (26 ^ acc.length) 26, ← Nat.mul_assoc, Nat.mul_comm (n / 26) 26], ← Nat.add_mul, e]
    omega
  · rcases h5 with h5 | h5
    · left; subst h5; rfl
    · right; rw [List.length_cons, h5]
theorem word_stay {n0 i n : Nat} {acc : List Nat} (w : WInv n0 i n acc) (h : ¬ (0 < n ∨ acc = [])) : WInv n0 (i + 1) n acc := by
  obtain ⟨h1, h2, h3, h4, h5⟩ := w
  rw [not_or] at h
  exact ⟨h1, by omega, fun _ => h.2, h4, .inl (by omega)⟩
theorem word_ok (n0 : Nat) (h : n0 < 26 ^ 8) : ∃ l, m_law_word [.d (.int n0)] = some (.d (.str (mkS l)), [.d (.int n0)]) ∧ LetL l ∧ l ≠ [] ∧ l.length ≤ 8 ∧ dec l = n0 := by
  obtain ⟨L', e1, n, acc, y, rfl, w⟩ := for_inv (mt := gSet 3) (body := b_law_word_1) (fun i L => ∃ (n : Nat) (acc : List Nat) (y : Option C), L = [some (.d (.int n)), some (.d (.str (mkS lettersL))), some (.d (.str (mkS acc))), y] ∧ WInv n0 i n acc) (rngD 0 8)
    (L := [some (.d (.int n0)), some (.d (.str (mkS lettersL))), some (.d (.str (mkS []))), none]) ⟨n0, [], none, rfl, fun c hc => absurd hc (by simp), by decide, fun z => absurd z (by decide), by simp [dec], .inr rfl⟩ fun i x L hx ⟨n, acc, y, hL, w⟩ => by
      obtain ⟨rfl, hi⟩ := rngD_get0 _ _ _ hx
      subst hL
      have hal : acc.length ≤ 8 := by have := w.2.1; omega
      have ok1 := strOk_let w.1
      have ok2 := strOk_let (l := []) fun c hc => absurd hc (by simp)
      have eqe : decide (mkS acc = mkS []) = decide (acc = []) := by
        by_cases z : acc = []
        · subst z; simp
        · rw [decide_eq_false z, decide_eq_false fun q => z (mkS_inj q)]
      have m26 : modC [.d (.int n), .d (.int 26)] = some (.d (.int ((n : Int) % 26))) := e_modI (by decide)
      have d26 : fdivC [.d (.int n), .d (.int 26)] = some (.d (.int ((n : Int) / 26))) := e_fdivI (by decide) (by decide)
      have at26 : ixA [.d (.str (mkS lettersL)), .d (.int ((n : Int) % 26))] = some (.d (.str (mkS [97 + n % 26]))) := word_at (n % 26) (Nat.mod_lt _ (by decide))
      have ad : addC [.d (.str (mkS [97 + n % 26])), .d (.str (mkS acc))] = some (.d (.str (mkS ((97 + n % 26) :: acc)))) := add_str (by simp; omega)
      by_cases hc : 0 < n ∨ acc = []
      · refine ⟨_, _, rfl, ?_, n / 26, (97 + n % 26) :: acc, some (.d (.int i)), rfl, word_step w hc⟩
        rcases hc with hc | hc
        · simp -implicitDefEqProofs [b_law_word_1, e_seq, bS_nx, bS_rt, bS_bk, bS_ct, bS_no, e_skip, e_if, e_set, e_ret, e_retN, e_expr, e_setIx, e_op, e_nil, e_cons, e_val, e_frz, e_arg, gA_d, gA_l, gA_k, gA_t, gA_m, e_name, nA_d, nA_l, nA_k, nA_t, nA_m, e_move, vA_s, e_c, e_conts0, e_conts1, e_contV, e_contR, e_tst, e_tnot, e_tand, e_tor, e_ifE, e_call, e_refs0, e_refsV, e_refsR, e_sr0, e_srV, e_srR, e_ixA, e_ixL, e_ixT, e_at0, e_at1, e_at2, e_at3, e_addI, e_subI, e_gtI, e_ltI, e_leI, e_intI, e_intB, e_setM, e_putL, e_ix30, e_ix31, e_ix32, e_for, e_seqI, e_asl, e_ast, e_gset, e_yes, wipeL, unwipe, e_frzd, e_frzl, e_frzm, e_frzk, e_frzt, e_max2, e_min2, e_datas0, e_datas1, e_dispL, e_dispT, e_outs0, e_outsD, e_outsL, e_outsT, e_outsK, e_slotC, e_fn, fin_rt, fin_nx, e_eqAS, e_neAS, e_eqAI, e_neAI, e_eqAB, e_neAB, e_meth, e_methO, e_isLl, e_isLd, e_tuL, e_tuD, e_tuT, e_liL, e_liD, e_liT, e_lenT, e_lenD, e_lenO, empty_eq, e_eqAS, eqe, hc, m26, d26, at26, ad]
        · subst hc
          by_cases hn : 0 < n
          · simp -implicitDefEqProofs [b_law_word_1, e_seq, bS_nx, bS_rt, bS_bk, bS_ct, bS_no, e_skip, e_if, e_set, e_ret, e_retN, e_expr, e_setIx, e_op, e_nil, e_cons, e_val, e_frz, e_arg, gA_d, gA_l, gA_k, gA_t, gA_m, e_name, nA_d, nA_l, nA_k, nA_t, nA_m, e_move, vA_s, e_c, e_conts0, e_conts1, e_contV, e_contR, e_tst, e_tnot, e_tand, e_tor, e_ifE, e_call, e_refs0, e_refsV, e_refsR, e_sr0, e_srV, e_srR, e_ixA, e_ixL, e_ixT, e_at0, e_at1, e_at2, e_at3, e_addI, e_subI, e_gtI, e_ltI, e_leI, e_intI, e_intB, e_setM, e_putL, e_ix30, e_ix31, e_ix32, e_for, e_seqI, e_asl, e_ast, e_gset, e_yes, wipeL, unwipe, e_frzd, e_frzl, e_frzm, e_frzk, e_frzt, e_max2, e_min2, e_datas0, e_datas1, e_dispL, e_dispT, e_outs0, e_outsD, e_outsL, e_outsT, e_outsK, e_slotC, e_fn, fin_rt, fin_nx, e_eqAS, e_neAS, e_eqAI, e_neAI, e_eqAB, e_neAB, e_meth, e_methO, e_isLl, e_isLd, e_tuL, e_tuD, e_tuT, e_liL, e_liD, e_liT, e_lenT, e_lenD, e_lenO, empty_eq, e_eqAS, eqe, hn, m26, d26, at26, ad]
          · simp -implicitDefEqProofs [b_law_word_1, e_seq, bS_nx, bS_rt, bS_bk, bS_ct, bS_no, e_skip, e_if, e_set, e_ret, e_retN, e_expr, e_setIx, e_op, e_nil, e_cons, e_val, e_frz, e_arg, gA_d, gA_l, gA_k, gA_t, gA_m, e_name, nA_d, nA_l, nA_k, nA_t, nA_m, e_move, vA_s, e_c, e_conts0, e_conts1, e_contV, e_contR, e_tst, e_tnot, e_tand, e_tor, e_ifE, e_call, e_refs0, e_refsV, e_refsR, e_sr0, e_srV, e_srR, e_ixA, e_ixL, e_ixT, e_at0, e_at1, e_at2, e_at3, e_addI, e_subI, e_gtI, e_ltI, e_leI, e_intI, e_intB, e_setM, e_putL, e_ix30, e_ix31, e_ix32, e_for, e_seqI, e_asl, e_ast, e_gset, e_yes, wipeL, unwipe, e_frzd, e_frzl, e_frzm, e_frzk, e_frzt, e_max2, e_min2, e_datas0, e_datas1, e_dispL, e_dispT, e_outs0, e_outsD, e_outsL, e_outsT, e_outsK, e_slotC, e_fn, fin_rt, fin_nx, e_eqAS, e_neAS, e_eqAI, e_neAI, e_eqAB, e_neAB, e_meth, e_methO, e_isLl, e_isLd, e_tuL, e_tuD, e_tuT, e_liL, e_liD, e_liT, e_lenT, e_lenD, e_lenO, empty_eq, e_eqAS, eqe, hn, m26, d26, at26, ad]
      · have hc' := not_or.mp hc
        refine ⟨_, _, rfl, ?_, n, acc, some (.d (.int i)), rfl, word_stay w hc⟩
        simp -implicitDefEqProofs [b_law_word_1, e_seq, bS_nx, bS_rt, bS_bk, bS_ct, bS_no, e_skip, e_if, e_set, e_ret, e_retN, e_expr, e_setIx, e_op, e_nil, e_cons, e_val, e_frz, e_arg, gA_d, gA_l, gA_k, gA_t, gA_m, e_name, nA_d, nA_l, nA_k, nA_t, nA_m, e_move, vA_s, e_c, e_conts0, e_conts1, e_contV, e_contR, e_tst, e_tnot, e_tand, e_tor, e_ifE, e_call, e_refs0, e_refsV, e_refsR, e_sr0, e_srV, e_srR, e_ixA, e_ixL, e_ixT, e_at0, e_at1, e_at2, e_at3, e_addI, e_subI, e_gtI, e_ltI, e_leI, e_intI, e_intB, e_setM, e_putL, e_ix30, e_ix31, e_ix32, e_for, e_seqI, e_asl, e_ast, e_gset, e_yes, wipeL, unwipe, e_frzd, e_frzl, e_frzm, e_frzk, e_frzt, e_max2, e_min2, e_datas0, e_datas1, e_dispL, e_dispT, e_outs0, e_outsD, e_outsL, e_outsT, e_outsK, e_slotC, e_fn, fin_rt, fin_nx, e_eqAS, e_neAS, e_eqAI, e_neAI, e_eqAB, e_neAB, e_meth, e_methO, e_isLl, e_isLd, e_tuL, e_tuD, e_tuT, e_liL, e_liD, e_liT, e_lenT, e_lenD, e_lenO, empty_eq, e_eqAS, eqe, hc'.1, hc'.2]
  rw [rngD_len] at w
  obtain ⟨h1, h2, h3, h4, h5⟩ := w
  have hn : n = 0 := by
    rcases h5 with h5 | h5
    · exact h5
    · rw [h5] at h4
      cases n with
      | zero => rfl
      | succ m =>
        exfalso
        have : 26 ^ 8 ≤ (m + 1) * 26 ^ 8 := Nat.le_mul_of_pos_left _ (by omega)
        omega
  subst hn
  refine ⟨acc, ?_, h1, h3 (by decide), h2, by simpa using h4⟩
  have r8 : miR1 (maCons (mVal (mC (.int 8))) maNil) [some (.d (.int n0)), some (.d (.str (mkS lettersL))), some (.d (.str (mkS []))), none] = some (rngD 0 8, _) := e_r1 _ _ 8 _ _ rfl rfl (by decide)
  simp -implicitDefEqProofs [m_law_word, e_seq, bS_nx, bS_rt, bS_bk, bS_ct, bS_no, e_skip, e_if, e_set, e_ret, e_retN, e_expr, e_setIx, e_op, e_nil, e_cons, e_val, e_frz, e_arg, gA_d, gA_l, gA_k, gA_t, gA_m, e_name, nA_d, nA_l, nA_k, nA_t, nA_m, e_move, vA_s, e_c, e_conts0, e_conts1, e_contV, e_contR, e_tst, e_tnot, e_tand, e_tor, e_ifE, e_call, e_refs0, e_refsV, e_refsR, e_sr0, e_srV, e_srR, e_ixA, e_ixL, e_ixT, e_at0, e_at1, e_at2, e_at3, e_addI, e_subI, e_gtI, e_ltI, e_leI, e_intI, e_intB, e_setM, e_putL, e_ix30, e_ix31, e_ix32, e_for, e_seqI, e_asl, e_ast, e_gset, e_yes, wipeL, unwipe, e_frzd, e_frzl, e_frzm, e_frzk, e_frzt, e_max2, e_min2, e_datas0, e_datas1, e_dispL, e_dispT, e_outs0, e_outsD, e_outsL, e_outsT, e_outsK, e_slotC, e_fn, fin_rt, fin_nx, e_eqAS, e_neAS, e_eqAI, e_neAI, e_eqAB, e_neAB, e_meth, e_methO, e_isLl, e_isLd, e_tuL, e_tuD, e_tuT, e_liL, e_liD, e_liT, e_lenT, e_lenD, e_lenO, letters_eq, empty_eq, mUnp, gUnp, gsCons, gsNil, r8, e1]
/-! ### names -/
theorem drawB {n : Nat} {xs : List D} {many : Int} (p : PotL n xs) (hn : n < 1000000000000000000) (h0 : 0 < many) (h1 : many < 1000000000000) : ∃ d xs', m_law_draw [.l xs, .d (.int many)] = some (.d (.int d), [.l xs', .d (.int many)]) ∧ 0 ≤ d ∧ d < many ∧ PotL (n + 1) xs' :=
  draw p (Nat.lt_trans hn (by decide)) h0 (Int.lt_trans h1 (by decide))
theorem e_r1B (m : MA) (L : Ls) (n : Nat) (avs : List AV) (L' : Ls) (h : m L = some (avs, L')) (h2 : conts L' avs = some [.d (.int n)]) (hn : n < 1000000) : miR1 m L = some (rngD 0 n, L') := e_r1 m L n avs L' h h2 (Nat.lt_trans hn (by decide))
theorem pow268 : powC [.d (.int 26), .d (.int 8)] = some (.d (.int 208827064576)) := (e_powI (by decide)).trans rfl
theorem pow109 : powC [.d (.int 10), .d (.int 9)] = some (.d (.int 1000000000)) := (e_powI (by decide)).trans rfl
theorem pow107 : powC [.d (.int 10), .d (.int 7)] = some (.d (.int 10000000)) := (e_powI (by decide)).trans rfl
theorem ix_mem {xs : List D} {d : Int} (h0 : 0 ≤ d) (h1 : d < xs.length) : ∃ x ∈ xs, ixA [.l xs, .d (.int d)] = some (.d x) := by
  have hk : d.toNat < xs.length := by omega
  refine ⟨xs[d.toNat], List.getElem_mem _, ?_⟩
  rw [e_ixA, atI_ge (k := d.toNat) (by omega) hk, List.getElem?_eq_getElem hk]
  rfl
theorem ix_memT {xs : List D} {d : Int} (h0 : 0 ≤ d) (h1 : d < xs.length) : ∃ x ∈ xs, ixA [.d (.tup xs), .d (.int d)] = some (.d x) := by
  have hk : d.toNat < xs.length := by omega
  refine ⟨xs[d.toNat], List.getElem_mem _, ?_⟩
  rw [e_ixT, atI_ge (k := d.toNat) (by omega) hk, List.getElem?_eq_getElem hk]
  rfl
def WOk (w : PySem.Str) : Prop := ∃ l, w = mkS l ∧ LetL l ∧ l ≠ [] ∧ l.length ≤ 8
theorem WOk.okD {w : PySem.Str} (h : WOk w) : okD (.str w) = true := by
  obtain ⟨l, rfl, h, _⟩ := h
  exact strOk_let h
structure NamesOk (many : Nat) (ws : List PySem.Str) : Prop where
  len : ws.length = many
  ok : ∀ w ∈ ws, WOk w
  nd : ws.Nodup
  asc : ws.Pairwise leS
/-- the word of a number -/
def wd (x : Int) : PySem.Str := match m_law_word [.d (.int x)] with
  | some (.d (.str s), _) => s
  | _ => mkS []
theorem wd_ok (x : Int) (h0 : 0 ≤ x) (h1 : x < 208827064576) : m_law_word [.d (.int x)] = some (.d (.str (wd x)), [.d (.int x)]) ∧ ∃ l, wd x = mkS l ∧ LetL l ∧ l ≠ [] ∧ l.length ≤ 8 ∧ (dec l : Int) = x := by
  have e0 : ((x.toNat : Nat) : Int) = x := Int.toNat_of_nonneg h0
  obtain ⟨l, e, h2, h3, h4, h5⟩ := word_ok x.toNat (Nat.lt_of_lt_of_eq (m := 208827064576) (by omega) (by decide))
  rw [e0] at e
  have e2 : wd x = mkS l := by unfold wd; rw [e]
  exact ⟨by rw [e, e2], l, e2, h2, h3, h4, by omega⟩
theorem wd_inj {x y : Int} (hx : 0 ≤ x ∧ x < 208827064576) (hy : 0 ≤ y ∧ y < 208827064576) (h : wd x = wd y) : x = y := by
  obtain ⟨_, l, e1, _, _, _, d1⟩ := wd_ok x hx.1 hx.2
  obtain ⟨_, m, e2, _, _, _, d2⟩ := wd_ok y hy.1 hy.2
  rw [e1, e2] at h
  rw [← d1, ← d2, mkS_inj h]
theorem nodup_map_on {α β : Type} {f : α → β} : ∀ {l : List α}, (∀ x ∈ l, ∀ y ∈ l, f x = f y → x = y) → l.Nodup → (l.map f).Nodup
  | [], _, _ => List.nodup_nil
  | x :: l, h, nd => by
    rw [List.nodup_cons] at nd
    rw [List.map_cons, List.nodup_cons]
    refine ⟨fun hm => ?_, nodup_map_on (fun a ha b hb => h a (List.mem_cons_of_mem _ ha) b (List.mem_cons_of_mem _ hb)) nd.2⟩
    obtain ⟨y, hy, e⟩ := List.mem_map.mp hm
    have := h y (List.mem_cons_of_mem _ hy) x (List.mem_cons_self ..) e
    exact nd.1 (this ▸ hy)
theorem steps_nodup (y0 size : Int) (many : Nat) (h : (many : Int) ≤ size) : ((List.range many).map fun t : Nat => (y0 + t) % size).Nodup := by
  refine nodup_map_on (fun s hs t ht e => ?_) List.nodup_range
  have hs := List.mem_range.mp hs
  have ht := List.mem_range.mp ht
  have key : ∀ a b : Nat, a ≤ b → b < many → (y0 + a) % size = (y0 + b) % size → a = b := fun a b h1 h2 e => by
    have := Int.emod_eq_emod_iff_emod_sub_eq_zero.mp e.symm
    have e2 : y0 + (b : Int) - (y0 + a) = ((b - a : Nat) : Int) := by omega
    rw [e2, Int.emod_eq_of_lt (by omega) (by omega)] at this
    omega
  rcases Nat.le_total s t with q | q
  · exact key s t q ht e
  · exact (key t s q hs e.symm).symm
theorem look_ok (xs : List D) (ns : List Int) (many : Nat) (size y0 : Int) (y4 y6 : Option C) (hs : ns.length < many) (hm : (many : Int) ≤ size) (h0 : 0 ≤ y0) (h1 : y0 < size) :
    ∃ y y6', forM (gSet 6) b_law_names_1 (rngD 0 many) [some (.l xs), some (.d (.int many)), some (.d (.int size)), some (.l (ns.map .int)), y4, some (.d (.int y0)), y6] = some (.nx [some (.l xs), some (.d (.int many)), some (.d (.int size)), some (.l (ns.map .int)), y4, some (.d (.int y)), y6']) ∧ 0 ≤ y ∧ y < size ∧ y ∉ ns := by
  obtain ⟨L', e1, y, y6', rfl, h2, h3, h4⟩ := for_inv (mt := gSet 6) (body := b_law_names_1) (fun j L => ∃ y y6, L = [some (.l xs), some (.d (.int many)), some (.d (.int size)), some (.l (ns.map .int)), y4, some (.d (.int y)), y6] ∧ 0 ≤ y ∧ y < size ∧ (y ∉ ns ∨ (y = (y0 + j) % size ∧ ∀ t : Nat, t < j → (y0 + t) % size ∈ ns))) (rngD 0 many)
    (L := [some (.l xs), some (.d (.int many)), some (.d (.int size)), some (.l (ns.map .int)), y4, some (.d (.int y0)), y6]) ⟨y0, y6, rfl, h0, h1, .inr ⟨by rw [Int.emod_eq_of_lt (by omega) (by omega)]; simp, fun t ht => absurd ht (by omega)⟩⟩ fun i x L hx ⟨y, y6, hL, h2, h3, h4⟩ => by
      obtain ⟨rfl, hi⟩ := rngD_get0 _ _ _ hx
      subst hL
      have m1 : modC [.d (.int (y + 1)), .d (.int size)] = some (.d (.int ((y + 1) % size))) := e_modI (by omega)
      by_cases hy : y ∈ ns
      · refine ⟨_, _, rfl, ?_, (y + 1) % size, some (.d (.int i)), rfl, Int.emod_nonneg _ (by omega), Int.emod_lt_of_pos _ (by omega), ?_⟩
        · simp -implicitDefEqProofs [b_law_names_1, e_seq, bS_nx, bS_rt, bS_bk, bS_ct, bS_no, e_skip, e_if, e_set, e_ret, e_retN, e_expr, e_setIx, e_op, e_nil, e_cons, e_val, e_frz, e_arg, gA_d, gA_l, gA_k, gA_t, gA_m, e_name, nA_d, nA_l, nA_k, nA_t, nA_m, e_move, vA_s, e_c, e_conts0, e_conts1, e_contV, e_contR, e_tst, e_tnot, e_tand, e_tor, e_ifE, e_call, e_refs0, e_refsV, e_refsR, e_sr0, e_srV, e_srR, e_ixA, e_ixL, e_ixT, e_at0, e_at1, e_at2, e_at3, e_addI, e_subI, e_gtI, e_ltI, e_leI, e_intI, e_intB, e_setM, e_putL, e_ix30, e_ix31, e_ix32, e_for, e_seqI, e_asl, e_ast, e_gset, e_yes, wipeL, unwipe, e_frzd, e_frzl, e_frzm, e_frzk, e_frzt, e_max2, e_min2, e_datas0, e_datas1, e_dispL, e_dispT, e_outs0, e_outsD, e_outsL, e_outsT, e_outsK, e_slotC, e_fn, fin_rt, fin_nx, e_eqAS, e_neAS, e_eqAI, e_neAI, e_eqAB, e_neAB, e_meth, e_methO, e_isLl, e_isLd, e_tuL, e_tuD, e_tuT, e_liL, e_liD, e_liT, e_lenT, e_lenD, e_lenO, e_inInts, hy, m1]
        · rcases h4 with h4 | ⟨h4, h5⟩
          · exact absurd hy h4
          · refine .inr ⟨?_, fun t ht => ?_⟩
            · rw [h4, Int.emod_add_emod]
              congr 1
              push_cast
              omega
            · by_cases ht2 : t < i
              · exact h5 t ht2
              · have : t = i := by omega
                subst this
                exact h4 ▸ hy
      · refine ⟨_, _, rfl, ?_, y, some (.d (.int i)), rfl, h2, h3, .inl hy⟩
        simp -implicitDefEqProofs [b_law_names_1, e_seq, bS_nx, bS_rt, bS_bk, bS_ct, bS_no, e_skip, e_if, e_set, e_ret, e_retN, e_expr, e_setIx, e_op, e_nil, e_cons, e_val, e_frz, e_arg, gA_d, gA_l, gA_k, gA_t, gA_m, e_name, nA_d, nA_l, nA_k, nA_t, nA_m, e_move, vA_s, e_c, e_conts0, e_conts1, e_contV, e_contR, e_tst, e_tnot, e_tand, e_tor, e_ifE, e_call, e_refs0, e_refsV, e_refsR, e_sr0, e_srV, e_srR, e_ixA, e_ixL, e_ixT, e_at0, e_at1, e_at2, e_at3, e_addI, e_subI, e_gtI, e_ltI, e_leI, e_intI, e_intB, e_setM, e_putL, e_ix30, e_ix31, e_ix32, e_for, e_seqI, e_asl, e_ast, e_gset, e_yes, wipeL, unwipe, e_frzd, e_frzl, e_frzm, e_frzk, e_frzt, e_max2, e_min2, e_datas0, e_datas1, e_dispL, e_dispT, e_outs0, e_outsD, e_outsL, e_outsT, e_outsK, e_slotC, e_fn, fin_rt, fin_nx, e_eqAS, e_neAS, e_eqAI, e_neAI, e_eqAB, e_neAB, e_meth, e_methO, e_isLl, e_isLd, e_tuL, e_tuD, e_tuT, e_liL, e_liD, e_liT, e_lenT, e_lenD, e_lenO, e_inInts, hy]
  refine ⟨y, y6', e1, h2, h3, ?_⟩
  rcases h4 with h4 | ⟨_, h5⟩
  · exact h4
  · exfalso
    rw [rngD_len] at h5
    have := nodup_sub_len (steps_nodup y0 size many hm) (m := ns) fun x hx => by
      obtain ⟨t, ht, rfl⟩ := List.mem_map.mp hx
      exact h5 t (List.mem_range.mp ht)
    simp at this
    omega
theorem lc_map {j : Nat} {elt : ME} {L : Ls} {f : D → D} (xs : List D) (hj : L[j]? = some none)
    (h : ∀ x ∈ xs, ∃ c, elt (L.set j (some (.d x))) = some (c, L.set j (some (.d x))) ∧ frz c = f x) :
    lcM [j] (gSet j) tYesM elt xs [] L = some (xs.map f, L) := by
  have hl : j < L.length := (List.getElem?_eq_some_iff.mp hj).1
  have e := lc_pure (vs := [j]) (mt := gSet j) (tst := tYesM) (elt := elt) (L := L) (f := f) (p := fun _ => true) xs fun x hx => by
    obtain ⟨c, e1, e2⟩ := h x hx
    refine ⟨L.set j (some (.d x)), L.set j (some (.d x)), by rw [e_gset, if_pos hl], rfl, fun _ => ⟨c, _, e1, e2, ?_⟩, fun z => absurd z (by simp)⟩
    show (L.set j (some (.d x))).set j none = L
    rw [List.set_set]
    apply List.ext_getElem?
    intro i
    by_cases q : j = i
    · subst q
      rw [List.getElem?_set_self hl, hj]
    · rw [List.getElem?_set_ne q]
  have : xs.filter (fun _ => true) = xs := List.filter_eq_self.mpr fun _ _ => rfl
  rw [this] at e
  exact e
theorem names_ok {n many : Nat} {xs : List D} (p : PotL n xs) (hn : n < 1000000000000) (h3 : 1 ≤ many) (h12 : many ≤ 26) :
    ∃ ws xs', m_law_names [.l xs, .d (.int many)] = some (.d (.tup (ws.map .str)), [.l xs', .d (.int many)]) ∧ NamesOk many ws ∧ PotL (n + 1 + many) xs' := by
  obtain ⟨d, xs1, e1, d1, d2, p1⟩ := drawB (many := 3) p (by omega) (by decide) (by decide)
  have hsz : ∃ size : Int, ixA [.l [.int 26, .int 700, .int (208827064576)], .d (.int d)] = some (.d (.int size)) ∧ 26 ≤ size ∧ size ≤ 208827064576 := by
    obtain ⟨x, hx, e⟩ := ix_mem (xs := [.int 26, .int 700, .int (208827064576)]) d1 (by simpa using d2)
    simp only [List.mem_cons, List.not_mem_nil, or_false] at hx
    rcases hx with rfl | rfl | rfl <;> exact ⟨_, e, by decide, by decide⟩
  obtain ⟨size, e2, s1, s2⟩ := hsz
  have pw := pow268
  obtain ⟨L', e3, xs2, ns, y4, y5, y6, rfl, p2, nl, nnd, nr⟩ := for_inv (mt := gSet 4) (body := b_law_names_2) (fun i L => ∃ xs2 ns y4 y5 y6, L = [some (.l xs2), some (.d (.int many)), some (.d (.int size)), some (.l (ns.map .int)), y4, y5, y6] ∧ PotL (n + 1 + i) xs2 ∧ ns.length = i ∧ ns.Nodup ∧ ∀ x ∈ ns, 0 ≤ x ∧ x < size) (rngD 0 many)
    (L := [some (.l xs1), some (.d (.int many)), some (.d (.int size)), some (.l ([].map .int)), none, none, none]) ⟨xs1, [], none, none, none, rfl, p1, rfl, List.nodup_nil, fun x hx => absurd hx (by simp)⟩ fun i x L hx ⟨xs2, ns, y4, y5, y6, hL, p2, nl, nnd, nr⟩ => by
      obtain ⟨rfl, hi⟩ := rngD_get0 _ _ _ hx
      subst hL
      obtain ⟨y0, xs3, e4, h0, h1, p3⟩ := drawB (many := size) p2 (by omega) (by omega) (by omega)
      obtain ⟨y, y6', e5, g0, g1, g2⟩ := look_ok xs3 ns many size y0 (some (.d (.int i))) y6 (by omega) (by omega) h0 h1
      refine ⟨_, _, rfl, ?_, xs3, ns ++ [y], some (.d (.int i)), some (.d (.int y)), y6', rfl, p3, by simp [nl], ?_, ?_⟩
      · have r1 := e_r1B (maCons (gNameA 1) maNil) [some (.l xs3), some (.d (.int many)), some (.d (.int size)), some (.l (ns.map .int)), some (.d (.int i)), some (.d (.int y0)), y6] many _ _ rfl rfl (by omega)
        have ap : appendM [.l (ns.map .int), .d (.int y)] = some (.d .non, [.l (ns.map .int ++ [.int y]), .d (.int y)]) := e_append (by simp; omega)
        simp -implicitDefEqProofs [b_law_names_2, e_seq, bS_nx, bS_rt, bS_bk, bS_ct, bS_no, e_skip, e_if, e_set, e_ret, e_retN, e_expr, e_setIx, e_op, e_nil, e_cons, e_val, e_frz, e_arg, gA_d, gA_l, gA_k, gA_t, gA_m, e_name, nA_d, nA_l, nA_k, nA_t, nA_m, e_move, vA_s, e_c, e_conts0, e_conts1, e_contV, e_contR, e_tst, e_tnot, e_tand, e_tor, e_ifE, e_call, e_refs0, e_refsV, e_refsR, e_sr0, e_srV, e_srR, e_ixA, e_ixL, e_ixT, e_at0, e_at1, e_at2, e_at3, e_addI, e_subI, e_gtI, e_ltI, e_leI, e_intI, e_intB, e_setM, e_putL, e_ix30, e_ix31, e_ix32, e_for, e_seqI, e_asl, e_ast, e_gset, e_yes, wipeL, unwipe, e_frzd, e_frzl, e_frzm, e_frzk, e_frzt, e_max2, e_min2, e_datas0, e_datas1, e_dispL, e_dispT, e_outs0, e_outsD, e_outsL, e_outsT, e_outsK, e_slotC, e_fn, fin_rt, fin_nx, e_eqAS, e_neAS, e_eqAI, e_neAI, e_eqAB, e_neAB, e_meth, e_methO, e_isLl, e_isLd, e_tuL, e_tuD, e_tuT, e_liL, e_liD, e_liT, e_lenT, e_lenD, e_lenO, e4, r1, e5, e_meth, e_isLl, ap]
      · rw [List.nodup_append]
        exact ⟨nnd, by simp, fun a ha b hb => by rw [List.mem_singleton.mp hb]; exact fun z => g2 (z ▸ ha)⟩
      · intro x hx
        rcases List.mem_append.mp hx with hx | hx
        · exact nr x hx
        · rw [List.mem_singleton.mp hx]; exact ⟨g0, g1⟩
  rw [rngD_len] at p2 nl
  rw [List.map_nil] at e3
  have rg : ∀ x ∈ ns, 0 ≤ x ∧ x < 208827064576 := fun x hx => ⟨(nr x hx).1, by have := (nr x hx).2; omega⟩
  have wok : ∀ w ∈ ns.map wd, WOk w := fun w hw => by
    obtain ⟨x, hx, rfl⟩ := List.mem_map.mp hw
    obtain ⟨_, l, e, h1, h2, h3, _⟩ := wd_ok x (rg x hx).1 (rg x hx).2
    exact ⟨l, e, h1, h2, h3⟩
  obtain ⟨us, e6, pm, asc⟩ := sort_strs (ns.map wd) fun w hw => (wok w hw).okD
  refine ⟨us, xs2, ?_, ⟨by rw [pm.length_eq, List.length_map, nl], fun w hw => wok w (pm.mem_iff.mp hw), ?_, asc⟩, p2⟩
  · have lc := lc_map (j := 5) (elt := mCall m_law_word (maCons (gNameA 5) maNil)) (L := [some (.l xs2), some (.d (.int many)), some (.d (.int size)), some (.d (.lst (ns.map .int))), y4, none, y6]) (f := fun d => match d with | .int x => .str (wd x) | d => d) (ns.map .int) rfl fun x hx => by
      obtain ⟨x, hx2, rfl⟩ := List.mem_map.mp hx
      obtain ⟨e, _⟩ := wd_ok x (rg x hx2).1 (rg x hx2).2
      exact ⟨.d (.str (wd x)), by simp -implicitDefEqProofs [e_seq, bS_nx, bS_rt, bS_bk, bS_ct, bS_no, e_skip, e_if, e_set, e_ret, e_retN, e_expr, e_setIx, e_op, e_nil, e_cons, e_val, e_frz, e_arg, gA_d, gA_l, gA_k, gA_t, gA_m, e_name, nA_d, nA_l, nA_k, nA_t, nA_m, e_move, vA_s, e_c, e_conts0, e_conts1, e_contV, e_contR, e_tst, e_tnot, e_tand, e_tor, e_ifE, e_call, e_refs0, e_refsV, e_refsR, e_sr0, e_srV, e_srR, e_ixA, e_ixL, e_ixT, e_at0, e_at1, e_at2, e_at3, e_addI, e_subI, e_gtI, e_ltI, e_leI, e_intI, e_intB, e_setM, e_putL, e_ix30, e_ix31, e_ix32, e_for, e_seqI, e_asl, e_ast, e_gset, e_yes, wipeL, unwipe, e_frzd, e_frzl, e_frzm, e_frzk, e_frzt, e_max2, e_min2, e_datas0, e_datas1, e_dispL, e_dispT, e_outs0, e_outsD, e_outsL, e_outsT, e_outsK, e_slotC, e_fn, fin_rt, fin_nx, e_eqAS, e_neAS, e_eqAI, e_neAI, e_eqAB, e_neAB, e_meth, e_methO, e_isLl, e_isLd, e_tuL, e_tuD, e_tuT, e_liL, e_liD, e_liT, e_lenT, e_lenD, e_lenO, e], rfl⟩
    have fm : (ns.map D.int).map (fun d => match d with | .int x => .str (wd x) | d => d) = (ns.map wd).map D.str := by
      simp [Function.comp_def]
    rw [fm] at lc
    have ln : ns.length < sizeLine := by
      rw [nl]
      exact Nat.lt_of_le_of_lt h12 (by decide)
    have r1 := e_r1B (maCons (gNameA 1) maNil) [some (.l xs1), some (.d (.int many)), some (.d (.int size)), some (.l []), none, none, none] many _ _ rfl rfl (by omega)
    have pr := e_par 2 3 (maCons (mVal (mOp ixA (maCons (mVal (mOp dispL (maCons (mVal (mC (.int 26))) (maCons (mVal (mC (.int 700))) (maCons (mVal (mOp powC (maCons (mVal (mC (.int 26))) (maCons (mVal (mC (.int 8))) maNil)))) maNil))))) (maCons (mVal (mCall m_law_draw (maCons (gNameA 0) (maCons (mVal (mC (.int 3))) maNil)))) maNil)))) (maCons (mVal (mOp dispL maNil)) maNil)) [some (.l xs), some (.d (.int many)), none, none, none, none, none] (.d (.int size)) (.l []) [some (.l xs1), some (.d (.int many)), none, none, none, none, none] (by simp -implicitDefEqProofs [e_seq, bS_nx, bS_rt, bS_bk, bS_ct, bS_no, e_skip, e_if, e_set, e_ret, e_retN, e_expr, e_setIx, e_op, e_nil, e_cons, e_val, e_frz, e_arg, gA_d, gA_l, gA_k, gA_t, gA_m, e_name, nA_d, nA_l, nA_k, nA_t, nA_m, e_move, vA_s, e_c, e_conts0, e_conts1, e_contV, e_contR, e_tst, e_tnot, e_tand, e_tor, e_ifE, e_call, e_refs0, e_refsV, e_refsR, e_sr0, e_srV, e_srR, e_ixA, e_ixL, e_ixT, e_at0, e_at1, e_at2, e_at3, e_addI, e_subI, e_gtI, e_ltI, e_leI, e_intI, e_intB, e_setM, e_putL, e_ix30, e_ix31, e_ix32, e_for, e_seqI, e_asl, e_ast, e_gset, e_yes, wipeL, unwipe, e_frzd, e_frzl, e_frzm, e_frzk, e_frzt, e_max2, e_min2, e_datas0, e_datas1, e_dispL, e_dispT, e_outs0, e_outsD, e_outsL, e_outsT, e_outsK, e_slotC, e_fn, fin_rt, fin_nx, e_eqAS, e_neAS, e_eqAI, e_neAI, e_eqAB, e_neAB, e_meth, e_methO, e_isLl, e_isLd, e_tuL, e_tuD, e_tuT, e_liL, e_liD, e_liT, e_lenT, e_lenD, e_lenO, pw, e1, e2, -Int.reducePow]) (by simp) (by simp)
    simp -implicitDefEqProofs [m_law_names, e_seq, bS_nx, bS_rt, bS_bk, bS_ct, bS_no, e_skip, e_if, e_set, e_ret, e_retN, e_expr, e_setIx, e_op, e_nil, e_cons, e_val, e_frz, e_arg, gA_d, gA_l, gA_k, gA_t, gA_m, e_name, nA_d, nA_l, nA_k, nA_t, nA_m, e_move, vA_s, e_c, e_conts0, e_conts1, e_contV, e_contR, e_tst, e_tnot, e_tand, e_tor, e_ifE, e_call, e_refs0, e_refsV, e_refsR, e_sr0, e_srV, e_srR, e_ixA, e_ixL, e_ixT, e_at0, e_at1, e_at2, e_at3, e_addI, e_subI, e_gtI, e_ltI, e_leI, e_intI, e_intB, e_setM, e_putL, e_ix30, e_ix31, e_ix32, e_for, e_seqI, e_asl, e_ast, e_gset, e_yes, wipeL, unwipe, e_frzd, e_frzl, e_frzm, e_frzk, e_frzt, e_max2, e_min2, e_datas0, e_datas1, e_dispL, e_dispT, e_outs0, e_outsD, e_outsL, e_outsT, e_outsK, e_slotC, e_fn, fin_rt, fin_nx, e_eqAS, e_neAS, e_eqAI, e_neAI, e_eqAB, e_neAB, e_meth, e_methO, e_isLl, e_isLd, e_tuL, e_tuD, e_tuT, e_liL, e_liD, e_liT, e_lenT, e_lenD, e_lenO, pr, r1, e3, e_lc, lc, ln, e_sortL _ _ e6, e_tuL, -List.map_map]
  · exact pm.symm.nodup (nodup_map_on (fun x hx y hy e => wd_inj (rg x hx) (rg y hy) e) nnd)
/-! ### rows of numbers -/
abbrev Mat := Nat → Nat → Int
def rowsOf (n : Nat) (f : Mat) : List (List D) := (List.range n).map fun i => (List.range n).map fun j => .int (f i j)
def distD (ws : List PySem.Str) (f : Mat) : D := .tup [.tup (ws.map .str), .tup ((rowsOf ws.length f).map .tup)]
def MatOk (n : Nat) (f : Mat) : Prop := ∀ i j, i < n → j < n → 0 ≤ f i j ∧ f i j ≤ 1000000000 ∧ f i j = f j i ∧ f i i = 0
def up1 (f : Mat) (i j : Nat) (v : Int) : Mat := fun a b => if a = i ∧ b = j then v else f a b
def up2 (f : Mat) (i j : Nat) (v : Int) : Mat := up1 (up1 f i j v) j i v
theorem rowsOf_len (n : Nat) (f : Mat) : (rowsOf n f).length = n := by simp [rowsOf]
theorem rowsOf_get {n : Nat} {f : Mat} {i : Nat} (h : i < n) : (rowsOf n f)[i]? = some ((List.range n).map fun j => .int (f i j)) := by
  simp [rowsOf, h]
theorem putR_rows {n : Nat} {f : Mat} {i j : Nat} {v : Int} (hi : i < n) (hj : j < n) : putR (rowsOf n f) i j (.int v) = some (rowsOf n (up1 f i j v)) := by
  unfold putR
  rw [ixN_lt (k := i) rfl (by rw [rowsOf_len]; exact hi)]
  simp only [rowsOf_get hi, List.length_map, List.length_range]
  rw [ixN_lt (k := j) rfl hj]
  simp only [Option.map_some, Option.some.injEq]
  apply List.ext_getElem
  · simp [rowsOf]
  · intro a h1 h2
    have ha : a < n := by simpa [rowsOf] using h2
    by_cases e : a = i
    · subst e
      simp only [List.getElem_set_self]
      apply List.ext_getElem
      · simp [rowsOf]
      · intro b h3 h4
        by_cases e2 : b = j
        · subst e2
          simp [rowsOf, up1]
        · rw [List.getElem_set_ne (Ne.symm e2)]
          simp [rowsOf, up1, e2]
    · rw [List.getElem_set_ne (Ne.symm e)]
      simp [rowsOf, up1, e]
theorem up2_ok {n : Nat} {f : Mat} (h : MatOk n f) {i j : Nat} (hi : i < n) (hj : j < n) (hij : i ≠ j) {v : Int} (h0 : 0 ≤ v) (h1 : v ≤ 1000000000) : MatOk n (up2 f i j v) := by
  intro a b ha hb
  obtain ⟨p1, p2, p3, p4⟩ := h a b ha hb
  have q : (up2 f i j v) a b = if (a = j ∧ b = i) ∨ (a = i ∧ b = j) then v else f a b := by
    unfold up2 up1
    by_cases c1 : a = j ∧ b = i
    · simp [c1]
    · by_cases c2 : a = i ∧ b = j
      · simp [c2]
      · simp [c1, c2]
  have q2 : (up2 f i j v) b a = if (a = j ∧ b = i) ∨ (a = i ∧ b = j) then v else f b a := by
    unfold up2 up1
    by_cases c1 : b = j ∧ a = i
    · simp [c1]
    · by_cases c2 : b = i ∧ a = j
      · simp [c2]
      · have c3 : ¬ (a = j ∧ b = i) := fun z => c2 ⟨z.2, z.1⟩
        have c4 : ¬ (a = i ∧ b = j) := fun z => c1 ⟨z.2, z.1⟩
        simp [c1, c2, c3, c4]
  have q3 : (up2 f i j v) a a = f a a := by
    have c1 : ¬ (a = j ∧ a = i) := fun z => hij (z.2.symm.trans z.1)
    have c2 : ¬ (a = i ∧ a = j) := fun z => hij (z.1.symm.trans z.2)
    simp [up2, up1, c1, c2]
  rw [q, q2, q3]
  split
  · exact ⟨h0, h1, rfl, p4⟩
  · exact ⟨p1, p2, p3, p4⟩
theorem rm_pure {vs : List Nat} {mt : MTg} {elt : ME} {L : Ls} {g : D → List D} : ∀ (xs : List D) (acc : List (List D)),
    (∀ x ∈ xs, ∃ L1 L3, mt x L = some L1 ∧ elt L1 = some (.l (g x), L3) ∧ wipeL L3 vs = L) → rmM vs mt tYesM elt xs acc L = some (acc ++ xs.map g, L)
  | [], acc, _ => by simp [rmM]
  | x :: xs, acc, h => by
    obtain ⟨L1, L3, e1, e2, e3⟩ := h x (List.mem_cons_self ..)
    have ih := rm_pure xs (acc ++ [g x]) fun y hy => h y (List.mem_cons_of_mem _ hy)
    unfold rmM
    rw [e1]
    simp only [e_yes, e2, e3, ih, List.map_cons, List.append_assoc, List.singleton_append]
theorem with_ok (ws : List PySem.Str) (f : Mat) (i j : Nat) (v : Int) (hi : i < ws.length) (hj : j < ws.length) (hl : ws.length ≤ 100) :
    m_law_with [.d (distD ws f), .d (.int i), .d (.int j), .d (.int v)] = some (.d (distD ws (up2 f i j v)), [.d (distD ws f), .d (.int i), .d (.int j), .d (.int v)]) := by
  have ln : ((rowsOf ws.length f).map D.tup).length < sizeLine := by
    rw [List.length_map, rowsOf_len]
    exact Nat.lt_of_le_of_lt hl (by decide)
  have ln2 : ∀ f : Mat, ((rowsOf ws.length f).map D.lst).length < sizeLine := fun f => by
    rw [List.length_map, rowsOf_len]
    exact Nat.lt_of_le_of_lt hl (by decide)
  have rm := rm_pure (vs := [7]) (mt := gSet 7) (elt := mOp listC (maCons (gNameA 7) maNil)) (L := [some (.d (distD ws f)), some (.d (.int i)), some (.d (.int j)), some (.d (.int v)), none, none, none, none]) (g := fun d => match d with | .tup xs => xs | _ => []) ((rowsOf ws.length f).map .tup) [] fun x hx => by
    obtain ⟨r, _, rfl⟩ := List.mem_map.mp hx
    refine ⟨_, [some (.d (distD ws f)), some (.d (.int i)), some (.d (.int j)), some (.d (.int v)), none, none, none, some (.d (.tup r))], rfl, ?_, rfl⟩
    simp -implicitDefEqProofs [e_seq, bS_nx, bS_rt, bS_bk, bS_ct, bS_no, e_skip, e_if, e_set, e_ret, e_retN, e_expr, e_setIx, e_op, e_nil, e_cons, e_val, e_frz, e_arg, gA_d, gA_l, gA_k, gA_t, gA_m, e_name, nA_d, nA_l, nA_k, nA_t, nA_m, e_move, vA_s, e_c, e_conts0, e_conts1, e_contV, e_contR, e_tst, e_tnot, e_tand, e_tor, e_ifE, e_call, e_refs0, e_refsV, e_refsR, e_sr0, e_srV, e_srR, e_ixA, e_ixL, e_ixT, e_at0, e_at1, e_at2, e_at3, e_addI, e_subI, e_gtI, e_ltI, e_leI, e_intI, e_intB, e_setM, e_putL, e_ix30, e_ix31, e_ix32, e_for, e_seqI, e_asl, e_ast, e_gset, e_yes, wipeL, unwipe, e_frzd, e_frzl, e_frzm, e_frzk, e_frzt, e_max2, e_min2, e_datas0, e_datas1, e_dispL, e_dispT, e_outs0, e_outsD, e_outsL, e_outsT, e_outsK, e_slotC, e_fn, fin_rt, fin_nx, e_eqAS, e_neAS, e_eqAI, e_neAI, e_eqAB, e_neAB, e_meth, e_methO, e_isLl, e_isLd, e_tuL, e_tuD, e_tuT, e_liL, e_liD, e_liT, e_lenT, e_lenD, e_lenO]
  have fm : ((rowsOf ws.length f).map D.tup).map (fun d => match d with | .tup xs => xs | _ => []) = rowsOf ws.length f := by
    rw [List.map_map]
    exact List.map_id _
  rw [fm, List.nil_append] at rm
  have rmE : mRm [7] (miSeq (mOp ixA (maCons (gNameA 0) (maCons (mVal (mC (.int 1))) maNil)))) (gSet 7) tYesM (mOp listC (maCons (gNameA 7) maNil)) [some (.d (distD ws f)), some (.d (.int i)), some (.d (.int j)), some (.d (.int v)), none, none, none, none] = some (.m (rowsOf ws.length f), [some (.d (distD ws f)), some (.d (.int i)), some (.d (.int j)), some (.d (.int v)), none, none, none, none]) := by
    have mi : miSeq (mOp ixA (maCons (gNameA 0) (maCons (mVal (mC (.int 1))) maNil))) [some (.d (distD ws f)), some (.d (.int i)), some (.d (.int j)), some (.d (.int v)), none, none, none, none] = some ((rowsOf ws.length f).map .tup, [some (.d (distD ws f)), some (.d (.int i)), some (.d (.int j)), some (.d (.int v)), none, none, none, none]) := by
      simp -implicitDefEqProofs [e_seq, bS_nx, bS_rt, bS_bk, bS_ct, bS_no, e_skip, e_if, e_set, e_ret, e_retN, e_expr, e_setIx, e_op, e_nil, e_cons, e_val, e_frz, e_arg, gA_d, gA_l, gA_k, gA_t, gA_m, e_name, nA_d, nA_l, nA_k, nA_t, nA_m, e_move, vA_s, e_c, e_conts0, e_conts1, e_contV, e_contR, e_tst, e_tnot, e_tand, e_tor, e_ifE, e_call, e_refs0, e_refsV, e_refsR, e_sr0, e_srV, e_srR, e_ixA, e_ixL, e_ixT, e_at0, e_at1, e_at2, e_at3, e_addI, e_subI, e_gtI, e_ltI, e_leI, e_intI, e_intB, e_setM, e_putL, e_ix30, e_ix31, e_ix32, e_for, e_seqI, e_asl, e_ast, e_gset, e_yes, wipeL, unwipe, e_frzd, e_frzl, e_frzm, e_frzk, e_frzt, e_max2, e_min2, e_datas0, e_datas1, e_dispL, e_dispT, e_outs0, e_outsD, e_outsL, e_outsT, e_outsK, e_slotC, e_fn, fin_rt, fin_nx, e_eqAS, e_neAS, e_eqAI, e_neAI, e_eqAB, e_neAB, e_meth, e_methO, e_isLl, e_isLd, e_tuL, e_tuD, e_tuT, e_liL, e_liD, e_liT, e_lenT, e_lenD, e_lenO, distD]
    unfold mRm
    rw [mi]
    simp only [ln, if_true, wipeL]
    show (match rmM [7] (gSet 7) tYesM _ _ [] [some (.d (distD ws f)), some (.d (.int i)), some (.d (.int j)), some (.d (.int v)), none, none, none, none] with | some (r, L2) => _ | none => none) = _
    rw [rm]
    rfl
  have al : mAl2 4 5 6 1 2 3 2 3 1 [some (.d (distD ws f)), some (.d (.int i)), some (.d (.int j)), some (.d (.int v)), some (.m (rowsOf ws.length f)), none, none, none] = some (.nx [some (.d (distD ws f)), some (.d (.int i)), some (.d (.int j)), some (.d (.int v)), some (.m (rowsOf ws.length (up2 f i j v))), none, none, none]) := by
    simp [mAl2, rdI, rdD, putR_rows hi hj, putR_rows hj hi, ixN_lt (n := (rowsOf ws.length f).length) (i := (j : Int)) (k := j) rfl (by rw [rowsOf_len]; exact hj), up2]
  have lc := lc_map (j := 7) (elt := mOp tupleC (maCons (gNameA 7) maNil)) (L := [some (.d (distD ws f)), some (.d (.int i)), some (.d (.int j)), some (.d (.int v)), some (.d (.lst ((rowsOf ws.length (up2 f i j v)).map .lst))), none, none, none]) (f := fun d => match d with | .lst x => .tup x | d => d) ((rowsOf ws.length (up2 f i j v)).map .lst) rfl fun x hx => by
    obtain ⟨r, _, rfl⟩ := List.mem_map.mp hx
    exact ⟨.d (.tup r), by simp -implicitDefEqProofs [e_seq, bS_nx, bS_rt, bS_bk, bS_ct, bS_no, e_skip, e_if, e_set, e_ret, e_retN, e_expr, e_setIx, e_op, e_nil, e_cons, e_val, e_frz, e_arg, gA_d, gA_l, gA_k, gA_t, gA_m, e_name, nA_d, nA_l, nA_k, nA_t, nA_m, e_move, vA_s, e_c, e_conts0, e_conts1, e_contV, e_contR, e_tst, e_tnot, e_tand, e_tor, e_ifE, e_call, e_refs0, e_refsV, e_refsR, e_sr0, e_srV, e_srR, e_ixA, e_ixL, e_ixT, e_at0, e_at1, e_at2, e_at3, e_addI, e_subI, e_gtI, e_ltI, e_leI, e_intI, e_intB, e_setM, e_putL, e_ix30, e_ix31, e_ix32, e_for, e_seqI, e_asl, e_ast, e_gset, e_yes, wipeL, unwipe, e_frzd, e_frzl, e_frzm, e_frzk, e_frzt, e_max2, e_min2, e_datas0, e_datas1, e_dispL, e_dispT, e_outs0, e_outsD, e_outsL, e_outsT, e_outsK, e_slotC, e_fn, fin_rt, fin_nx, e_eqAS, e_neAS, e_eqAI, e_neAI, e_eqAB, e_neAB, e_meth, e_methO, e_isLl, e_isLd, e_tuL, e_tuD, e_tuT, e_liL, e_liD, e_liT, e_lenT, e_lenD, e_lenO], rfl⟩
  have fm2 : (((rowsOf ws.length (up2 f i j v)).map D.lst).map fun d => match d with | .lst x => .tup x | d => d) = (rowsOf ws.length (up2 f i j v)).map D.tup := by
    simp
  rw [fm2] at lc
  have ix0 : ixA [.d (distD ws f), .d (.int 0)] = some (.d (.tup (ws.map .str))) := by simp -implicitDefEqProofs [distD, e_seq, bS_nx, bS_rt, bS_bk, bS_ct, bS_no, e_skip, e_if, e_set, e_ret, e_retN, e_expr, e_setIx, e_op, e_nil, e_cons, e_val, e_frz, e_arg, gA_d, gA_l, gA_k, gA_t, gA_m, e_name, nA_d, nA_l, nA_k, nA_t, nA_m, e_move, vA_s, e_c, e_conts0, e_conts1, e_contV, e_contR, e_tst, e_tnot, e_tand, e_tor, e_ifE, e_call, e_refs0, e_refsV, e_refsR, e_sr0, e_srV, e_srR, e_ixA, e_ixL, e_ixT, e_at0, e_at1, e_at2, e_at3, e_addI, e_subI, e_gtI, e_ltI, e_leI, e_intI, e_intB, e_setM, e_putL, e_ix30, e_ix31, e_ix32, e_for, e_seqI, e_asl, e_ast, e_gset, e_yes, wipeL, unwipe, e_frzd, e_frzl, e_frzm, e_frzk, e_frzt, e_max2, e_min2, e_datas0, e_datas1, e_dispL, e_dispT, e_outs0, e_outsD, e_outsL, e_outsT, e_outsK, e_slotC, e_fn, fin_rt, fin_nx, e_eqAS, e_neAS, e_eqAI, e_neAI, e_eqAB, e_neAB, e_meth, e_methO, e_isLl, e_isLd, e_tuL, e_tuD, e_tuT, e_liL, e_liD, e_liT, e_lenT, e_lenD, e_lenO]
  have ln3 : ws.length < sizeLine := Nat.lt_of_le_of_lt hl (by decide)
  simp -implicitDefEqProofs [m_law_with, e_seq, bS_nx, bS_rt, bS_bk, bS_ct, bS_no, e_skip, e_if, e_set, e_ret, e_retN, e_expr, e_setIx, e_op, e_nil, e_cons, e_val, e_frz, e_arg, gA_d, gA_l, gA_k, gA_t, gA_m, e_name, nA_d, nA_l, nA_k, nA_t, nA_m, e_move, vA_s, e_c, e_conts0, e_conts1, e_contV, e_contR, e_tst, e_tnot, e_tand, e_tor, e_ifE, e_call, e_refs0, e_refsV, e_refsR, e_sr0, e_srV, e_srR, e_ixA, e_ixL, e_ixT, e_at0, e_at1, e_at2, e_at3, e_addI, e_subI, e_gtI, e_ltI, e_leI, e_intI, e_intB, e_setM, e_putL, e_ix30, e_ix31, e_ix32, e_for, e_seqI, e_asl, e_ast, e_gset, e_yes, wipeL, unwipe, e_frzd, e_frzl, e_frzm, e_frzk, e_frzt, e_max2, e_min2, e_datas0, e_datas1, e_dispL, e_dispT, e_outs0, e_outsD, e_outsL, e_outsT, e_outsK, e_slotC, e_fn, fin_rt, fin_nx, e_eqAS, e_neAS, e_eqAI, e_neAI, e_eqAB, e_neAB, e_meth, e_methO, e_isLl, e_isLd, e_tuL, e_tuD, e_tuT, e_liL, e_liD, e_liT, e_lenT, e_lenD, e_lenO, rmE, al, e_lc, lc, ln3, ix0, rowsOf_len]
  rfl
theorem e_mulT1 (xs : List D) : mulC [.d (.tup xs), .d (.int 1)] = some (.d (.tup xs)) := rfl
theorem e_mulT {xs : List D} {k : Nat} (h : 1 ≤ k) (h1 : k ≤ 1000) (h2 : xs.length ≤ 1000) (h3 : xs ≠ []) : mulC [.d (.tup xs), .d (.int k)] = some (.d (.tup (List.replicate k xs).flatten)) := by
  by_cases e : k = 1
  · subst e; simp [e_mulT1, List.replicate]
  · have a1 : mul1C [.d (.tup xs), .d (.int k)] = none := rfl
    have a2 : mulLC [.d (.tup xs), .d (.int k)] = none := rfl
    have a3 : ¬ ((k : Int) = 1) := by omega
    have a4 : (2 : Int) ≤ k := by omega
    have a5 : (k : Int) ≤ 1000 := by omega
    simp [mulC, orC, a1, a2, mulTC, a3, a4, a5, h2, h3]
theorem flat_rep {α : Type} (x : α) : ∀ n : Nat, (List.replicate n [x]).flatten = (List.range n).map fun _ => x
  | 0 => rfl
  | n + 1 => by
    rw [List.range_succ, List.map_append, ← flat_rep x n, List.replicate_succ', List.flatten_append]
    simp
theorem any_ok {n : Nat} {xs : List D} (p : PotL n xs) (ws : List PySem.Str) (h1 : 1 ≤ ws.length) (h2 : ws.length ≤ 26) (hn : n < 1000000000000) :
    ∃ f xs', m_law_any [.l xs, .d (.tup (ws.map .str))] = some (.d (distD ws f), [.l xs', .d (.tup (ws.map .str))]) ∧ MatOk ws.length f ∧ PotL (n + 1 + 26 * ws.length) xs' := by
  obtain ⟨d, xs1, e1, d1, d2, p1⟩ := drawB (many := 4) p (by omega) (by decide) (by decide)
  have hsz : ∃ size : Int, ixA [.l [.int 2, .int 3, .int 6, .int 1000000001], .d (.int d)] = some (.d (.int size)) ∧ 2 ≤ size ∧ size ≤ 1000000001 := by
    obtain ⟨x, hx, e⟩ := ix_mem (xs := [.int 2, .int 3, .int 6, .int 1000000001]) d1 (by simpa using d2)
    simp only [List.mem_cons, List.not_mem_nil, or_false] at hx
    rcases hx with rfl | rfl | rfl | rfl <;> exact ⟨_, e, by decide, by decide⟩
  obtain ⟨size, e2, s1, s2⟩ := hsz
  have pw := pow109
  have z1 : mulC [.d (.tup [.int 0]), .d (.int ws.length)] = some (.d (.tup ((List.range ws.length).map fun _ => .int 0))) := by
    rw [e_mulT h1 (by omega) (by decide) (by simp), flat_rep]
  have z2 : mulC [.d (.tup [.tup ((List.range ws.length).map fun _ => .int 0)]), .d (.int ws.length)] = some (.d (.tup ((List.range ws.length).map fun _ => .tup ((List.range ws.length).map fun _ => .int 0)))) := by
    rw [e_mulT h1 (by omega) (by simp) (by simp), flat_rep]
  have z3 : D.tup [.tup (ws.map .str), .tup ((List.range ws.length).map fun _ => .tup ((List.range ws.length).map fun _ => .int 0))] = distD ws fun _ _ => 0 := by
    simp [distD, rowsOf]
  obtain ⟨L', e3, xs2, f, y4, y5, rfl, p2, mo⟩ := for_inv (mt := gSet 4) (body := b_law_any_2) (fun i L => ∃ xs2 f y4 y5, L = [some (.l xs2), some (.d (.tup (ws.map .str))), some (.d (.int size)), some (.d (distD ws f)), y4, y5] ∧ PotL (n + 1 + 26 * i) xs2 ∧ MatOk ws.length f) (rngD 0 ws.length)
    (L := [some (.l xs1), some (.d (.tup (ws.map .str))), some (.d (.int size)), some (.d (distD ws fun _ _ => 0)), none, none]) ⟨xs1, _, none, none, rfl, p1, fun _ _ _ _ => ⟨Int.le_refl 0, by show (0 : Int) ≤ 1000000000; decide, rfl, rfl⟩⟩ fun i x L hx ⟨xs2, f, y4, y5, hL, p2, mo⟩ => by
      obtain ⟨rfl, hi⟩ := rngD_get0 _ _ _ hx
      subst hL
      obtain ⟨L', e4, xs3, f3, y5', rfl, p3, mo3⟩ := for_inv (mt := gSet 5) (body := b_law_any_1) (fun j L => ∃ xs2 f y5, L = [some (.l xs2), some (.d (.tup (ws.map .str))), some (.d (.int size)), some (.d (distD ws f)), some (.d (.int i)), y5] ∧ PotL (n + 1 + 26 * i + j) xs2 ∧ MatOk ws.length f) (rngD 0 i)
        (L := [some (.l xs2), some (.d (.tup (ws.map .str))), some (.d (.int size)), some (.d (distD ws f)), some (.d (.int i)), y5]) ⟨xs2, f, y5, rfl, p2, mo⟩ fun j x L hx ⟨xs2, f, y5, hL, p2, mo⟩ => by
          obtain ⟨rfl, hj⟩ := rngD_get0 _ _ _ hx
          subst hL
          obtain ⟨v, xs3, e5, v0, v1, p3⟩ := drawB (many := size) p2 (by omega) (by omega) (by omega)
          refine ⟨_, _, rfl, ?_, xs3, up2 f i j v, some (.d (.int j)), rfl, p3, up2_ok mo hi (by omega) (by omega) v0 (by omega)⟩
          simp -implicitDefEqProofs [b_law_any_1, e_seq, bS_nx, bS_rt, bS_bk, bS_ct, bS_no, e_skip, e_if, e_set, e_ret, e_retN, e_expr, e_setIx, e_op, e_nil, e_cons, e_val, e_frz, e_arg, gA_d, gA_l, gA_k, gA_t, gA_m, e_name, nA_d, nA_l, nA_k, nA_t, nA_m, e_move, vA_s, e_c, e_conts0, e_conts1, e_contV, e_contR, e_tst, e_tnot, e_tand, e_tor, e_ifE, e_call, e_refs0, e_refsV, e_refsR, e_sr0, e_srV, e_srR, e_ixA, e_ixL, e_ixT, e_at0, e_at1, e_at2, e_at3, e_addI, e_subI, e_gtI, e_ltI, e_leI, e_intI, e_intB, e_setM, e_putL, e_ix30, e_ix31, e_ix32, e_for, e_seqI, e_asl, e_ast, e_gset, e_yes, wipeL, unwipe, e_frzd, e_frzl, e_frzm, e_frzk, e_frzt, e_max2, e_min2, e_datas0, e_datas1, e_dispL, e_dispT, e_outs0, e_outsD, e_outsL, e_outsT, e_outsK, e_slotC, e_fn, fin_rt, fin_nx, e_eqAS, e_neAS, e_eqAI, e_neAI, e_eqAB, e_neAB, e_meth, e_methO, e_isLl, e_isLd, e_tuL, e_tuD, e_tuT, e_liL, e_liD, e_liT, e_lenT, e_lenD, e_lenO, e5, with_ok ws f i j v hi (by omega) (by omega)]
      rw [rngD_len] at p3
      refine ⟨_, _, rfl, ?_, xs3, f3, some (.d (.int i)), y5', rfl, p3.mono (by omega), mo3⟩
      have r1 := e_r1B (maCons (gNameA 4) maNil) [some (.l xs2), some (.d (.tup (ws.map .str))), some (.d (.int size)), some (.d (distD ws f)), some (.d (.int i)), y5] i _ _ rfl rfl (by omega)
      simp -implicitDefEqProofs [b_law_any_2, e_seq, bS_nx, bS_rt, bS_bk, bS_ct, bS_no, e_skip, e_if, e_set, e_ret, e_retN, e_expr, e_setIx, e_op, e_nil, e_cons, e_val, e_frz, e_arg, gA_d, gA_l, gA_k, gA_t, gA_m, e_name, nA_d, nA_l, nA_k, nA_t, nA_m, e_move, vA_s, e_c, e_conts0, e_conts1, e_contV, e_contR, e_tst, e_tnot, e_tand, e_tor, e_ifE, e_call, e_refs0, e_refsV, e_refsR, e_sr0, e_srV, e_srR, e_ixA, e_ixL, e_ixT, e_at0, e_at1, e_at2, e_at3, e_addI, e_subI, e_gtI, e_ltI, e_leI, e_intI, e_intB, e_setM, e_putL, e_ix30, e_ix31, e_ix32, e_for, e_seqI, e_asl, e_ast, e_gset, e_yes, wipeL, unwipe, e_frzd, e_frzl, e_frzm, e_frzk, e_frzt, e_max2, e_min2, e_datas0, e_datas1, e_dispL, e_dispT, e_outs0, e_outsD, e_outsL, e_outsT, e_outsK, e_slotC, e_fn, fin_rt, fin_nx, e_eqAS, e_neAS, e_eqAI, e_neAI, e_eqAB, e_neAB, e_meth, e_methO, e_isLl, e_isLd, e_tuL, e_tuD, e_tuT, e_liL, e_liD, e_liT, e_lenT, e_lenD, e_lenO, r1, e4]
  rw [rngD_len] at p2
  refine ⟨f, xs2, ?_, mo, p2⟩
  have r1 := e_r1B (maCons (mVal (mOp lenC (maCons (gNameA 1) maNil))) maNil) [some (.l xs1), some (.d (.tup (ws.map .str))), some (.d (.int size)), some (.d (distD ws fun _ _ => 0)), none, none] ws.length _ _ rfl (by simp -implicitDefEqProofs [e_seq, bS_nx, bS_rt, bS_bk, bS_ct, bS_no, e_skip, e_if, e_set, e_ret, e_retN, e_expr, e_setIx, e_op, e_nil, e_cons, e_val, e_frz, e_arg, gA_d, gA_l, gA_k, gA_t, gA_m, e_name, nA_d, nA_l, nA_k, nA_t, nA_m, e_move, vA_s, e_c, e_conts0, e_conts1, e_contV, e_contR, e_tst, e_tnot, e_tand, e_tor, e_ifE, e_call, e_refs0, e_refsV, e_refsR, e_sr0, e_srV, e_srR, e_ixA, e_ixL, e_ixT, e_at0, e_at1, e_at2, e_at3, e_addI, e_subI, e_gtI, e_ltI, e_leI, e_intI, e_intB, e_setM, e_putL, e_ix30, e_ix31, e_ix32, e_for, e_seqI, e_asl, e_ast, e_gset, e_yes, wipeL, unwipe, e_frzd, e_frzl, e_frzm, e_frzk, e_frzt, e_max2, e_min2, e_datas0, e_datas1, e_dispL, e_dispT, e_outs0, e_outsD, e_outsL, e_outsT, e_outsK, e_slotC, e_fn, fin_rt, fin_nx, e_eqAS, e_neAS, e_eqAI, e_neAI, e_eqAB, e_neAB, e_meth, e_methO, e_isLl, e_isLd, e_tuL, e_tuD, e_tuT, e_liL, e_liD, e_liT, e_lenT, e_lenD, e_lenO]) (by omega)
  have pr := e_par 2 3 (maCons (mVal (mOp ixA (maCons (mVal (mOp dispL (maCons (mVal (mC (.int 2))) (maCons (mVal (mC (.int 3))) (maCons (mVal (mC (.int 6))) (maCons (mVal (mOp addC (maCons (mVal (mOp powC (maCons (mVal (mC (.int 10))) (maCons (mVal (mC (.int 9))) maNil)))) (maCons (mVal (mC (.int 1))) maNil)))) maNil)))))) (maCons (mVal (mCall m_law_draw (maCons (gNameA 0) (maCons (mVal (mC (.int 4))) maNil)))) maNil)))) (maCons (mVal (mOp dispT (maCons (mVal (mName 1)) (maCons (mVal (mFrz (mOp mulC (maCons (mVal (mOp dispT (maCons (mVal (mFrz (mOp mulC (maCons (mVal (mOp dispT (maCons (mVal (mC (.int 0))) maNil))) (maCons (mVal (mOp lenC (maCons (gNameA 1) maNil))) maNil))))) maNil))) (maCons (mVal (mOp lenC (maCons (gNameA 1) maNil))) maNil))))) maNil)))) maNil)) [some (.l xs), some (.d (.tup (ws.map .str))), none, none, none, none] (.d (.int size)) (.d (distD ws fun _ _ => 0)) [some (.l xs1), some (.d (.tup (ws.map .str))), none, none, none, none] (by simp -implicitDefEqProofs [e_seq, bS_nx, bS_rt, bS_bk, bS_ct, bS_no, e_skip, e_if, e_set, e_ret, e_retN, e_expr, e_setIx, e_op, e_nil, e_cons, e_val, e_frz, e_arg, gA_d, gA_l, gA_k, gA_t, gA_m, e_name, nA_d, nA_l, nA_k, nA_t, nA_m, e_move, vA_s, e_c, e_conts0, e_conts1, e_contV, e_contR, e_tst, e_tnot, e_tand, e_tor, e_ifE, e_call, e_refs0, e_refsV, e_refsR, e_sr0, e_srV, e_srR, e_ixA, e_ixL, e_ixT, e_at0, e_at1, e_at2, e_at3, e_addI, e_subI, e_gtI, e_ltI, e_leI, e_intI, e_intB, e_setM, e_putL, e_ix30, e_ix31, e_ix32, e_for, e_seqI, e_asl, e_ast, e_gset, e_yes, wipeL, unwipe, e_frzd, e_frzl, e_frzm, e_frzk, e_frzt, e_max2, e_min2, e_datas0, e_datas1, e_dispL, e_dispT, e_outs0, e_outsD, e_outsL, e_outsT, e_outsK, e_slotC, e_fn, fin_rt, fin_nx, e_eqAS, e_neAS, e_eqAI, e_neAI, e_eqAB, e_neAB, e_meth, e_methO, e_isLl, e_isLd, e_tuL, e_tuD, e_tuT, e_liL, e_liD, e_liT, e_lenT, e_lenD, e_lenO, pw, e1, e2, e_lenT, z1, z2, z3]) (by simp) (by simp)
  simp -implicitDefEqProofs [m_law_any, e_seq, bS_nx, bS_rt, bS_bk, bS_ct, bS_no, e_skip, e_if, e_set, e_ret, e_retN, e_expr, e_setIx, e_op, e_nil, e_cons, e_val, e_frz, e_arg, gA_d, gA_l, gA_k, gA_t, gA_m, e_name, nA_d, nA_l, nA_k, nA_t, nA_m, e_move, vA_s, e_c, e_conts0, e_conts1, e_contV, e_contR, e_tst, e_tnot, e_tand, e_tor, e_ifE, e_call, e_refs0, e_refsV, e_refsR, e_sr0, e_srV, e_srR, e_ixA, e_ixL, e_ixT, e_at0, e_at1, e_at2, e_at3, e_addI, e_subI, e_gtI, e_ltI, e_leI, e_intI, e_intB, e_setM, e_putL, e_ix30, e_ix31, e_ix32, e_for, e_seqI, e_asl, e_ast, e_gset, e_yes, wipeL, unwipe, e_frzd, e_frzl, e_frzm, e_frzk, e_frzt, e_max2, e_min2, e_datas0, e_datas1, e_dispL, e_dispT, e_outs0, e_outsD, e_outsL, e_outsT, e_outsK, e_slotC, e_fn, fin_rt, fin_nx, e_eqAS, e_neAS, e_eqAI, e_neAI, e_eqAB, e_neAB, e_meth, e_methO, e_isLl, e_isLd, e_tuL, e_tuD, e_tuT, e_liL, e_liD, e_liT, e_lenT, e_lenD, e_lenO, pr, r1, e3]
/-! ### trees: at most k inner nodes, at most m leaves, all told of by P -/
inductive Fo (P : PySem.Str → Prop) : Nat → Nat → List D → Prop
  | nil (k m : Nat) : Fo P k m []
  | leaf {k m m' : Nat} {w : PySem.Str} {ts : List D} : P w → Fo P k m ts → m + 1 ≤ m' → Fo P k m' (.str w :: ts)
  | node {a b m1 m2 k m : Nat} {us ts : List D} : us ≠ [] → Fo P a m1 us → Fo P b m2 ts → a + b + 1 ≤ k → m1 + m2 ≤ m → Fo P k m (.tup us :: ts)
theorem Fo.mono {P : PySem.Str → Prop} {k m k' m' : Nat} {ts : List D} (h : Fo P k m ts) (h1 : k ≤ k') (h2 : m ≤ m') : Fo P k' m' ts := by
  induction h generalizing k' m' with
  | nil => exact .nil _ _
  | leaf p _ e ih => exact .leaf p (ih h1 (Nat.le_refl _)) (by omega)
  | node ne f1 f2 e1 e2 ih1 ih2 => exact .node ne f1 f2 (by omega) (by omega)
theorem Fo.inv {P : PySem.Str → Prop} {k m : Nat} {t : D} {ts : List D} (h : Fo P k m (t :: ts)) : ∃ a b c d, Fo P a b [t] ∧ Fo P c d ts ∧ a + c ≤ k ∧ b + d ≤ m := by
  cases h with
  | leaf p f e => exact ⟨0, 1, k, _, .leaf p (.nil 0 0) (by omega), f, by omega, by omega⟩
  | node ne f1 f2 e1 e2 => exact ⟨_, _, _, _, .node ne f1 (.nil 0 0) (Nat.le_refl _) (Nat.le_refl _), f2, by omega, by omega⟩
theorem Fo.mk {P : PySem.Str → Prop} {a b c d : Nat} {t : D} {ts : List D} (h : Fo P a b [t]) (g : Fo P c d ts) : Fo P (a + c) (b + d) (t :: ts) := by
  cases h with
  | leaf p f e => exact .leaf p (g.mono (by omega) (Nat.le_refl _)) (by omega)
  | node ne f1 f2 e1 e2 => exact .node ne f1 g (by omega) (by omega)
theorem Fo.app {P : PySem.Str → Prop} : ∀ {xs ys : List D} {a b c d : Nat}, Fo P a b xs → Fo P c d ys → Fo P (a + c) (b + d) (xs ++ ys)
  | [], ys, a, b, c, d, _, g => g.mono (by omega) (by omega)
  | x :: xs, ys, a, b, c, d, h, g => by
    obtain ⟨a1, b1, c1, d1, h1, h2, h3, h4⟩ := h.inv
    exact (h1.mk (h2.app g)).mono (by omega) (by omega)
theorem Fo.split {P : PySem.Str → Prop} : ∀ {xs ys : List D} {k m : Nat}, Fo P k m (xs ++ ys) → ∃ a b c d, Fo P a b xs ∧ Fo P c d ys ∧ a + c ≤ k ∧ b + d ≤ m
  | [], ys, k, m, h => ⟨0, 0, k, m, .nil 0 0, h, by omega, by omega⟩
  | x :: xs, ys, k, m, h => by
    obtain ⟨a1, b1, c1, d1, h1, h2, h3, h4⟩ := Fo.inv h
    obtain ⟨a2, b2, c2, d2, g1, g2, g3, g4⟩ := Fo.split h2
    exact ⟨_, _, _, _, h1.mk g1, g2, by omega, by omega⟩
theorem Fo.perm {P : PySem.Str → Prop} {xs ys : List D} (p : xs.Perm ys) : ∀ {k m : Nat}, Fo P k m xs → Fo P k m ys := by
  induction p with
  | nil => exact fun h => h
  | cons x _ ih =>
    intro k m h
    obtain ⟨a1, b1, c1, d1, h1, h2, h3, h4⟩ := h.inv
    exact (h1.mk (ih h2)).mono h3 h4
  | swap x y l =>
    intro k m h
    obtain ⟨a1, b1, c1, d1, h1, h2, h3, h4⟩ := h.inv
    obtain ⟨a2, b2, c2, d2, g1, g2, g3, g4⟩ := h2.inv
    exact (g1.mk (h1.mk g2)).mono (by omega) (by omega)
  | trans _ _ ih1 ih2 => exact fun h => ih2 (ih1 h)
theorem Fo.leaves {P : PySem.Str → Prop} : ∀ (ws : List PySem.Str), (∀ w ∈ ws, P w) → Fo P 0 ws.length (ws.map .str)
  | [], _ => .nil _ _
  | w :: ws, h => .leaf (h w (by simp)) (Fo.leaves ws fun x hx => h x (List.mem_cons_of_mem _ hx)) (by simp)
abbrev Part := PySem.Str × D
def partD (p : Part) : D := .tup [.str p.1, p.2]
theorem map_eraseI {α β : Type} (g : α → β) : ∀ (l : List α) (k : Nat), (l.map g).eraseIdx k = (l.eraseIdx k).map g
  | [], _ => by simp
  | x :: l, 0 => rfl
  | x :: l, k + 1 => by simp [map_eraseI g l k]
theorem pop_ok {α : Type} (g : α → D) (xs : List α) (d : Int) (h0 : 0 ≤ d) (h1 : d < xs.length) (h2 : xs.length < 2 ^ 60) : ∃ x ys, popAtM [.l (xs.map g), .d (.int d)] = some (.d (g x), [.l (ys.map g), .d (.int d)]) ∧ (ys ++ [x]).Perm xs := by
  have hk : d.toNat < xs.length := by omega
  refine ⟨xs[d.toNat], xs.eraseIdx d.toNat, ?_, ?_⟩
  · have e : seqIndex? d (xs.map g).length = some d.toNat := by
      rw [List.length_map]
      unfold seqIndex?
      have c1 : ¬ d < 0 := by omega
      simp only [if_neg c1]
      rw [if_pos (by simp; omega)]
    have c : -(2 ^ 63) ≤ d ∧ d < (2 ^ 63 : Int) := ⟨Int.le_trans (by decide) h0, Int.lt_trans h1 (Int.lt_trans (Int.ofNat_lt.mpr h2) (by decide))⟩
    show (if -(2 ^ 63) ≤ d ∧ d < (2 ^ 63 : Int) then match seqIndex? d (xs.map g).length with
        | some k => match (xs.map g)[k]? with
          | some x => some (C.d x, [C.l ((xs.map g).eraseIdx k), C.d (D.int d)])
          | none => none
        | none => none
      else none) = _
    rw [if_pos c, e]
    simp only [List.getElem?_map, List.getElem?_eq_getElem hk, Option.map_some]
    rw [map_eraseI]
  · rw [List.eraseIdx_eq_take_drop_succ]
    refine List.perm_append_comm.trans ?_
    show (xs[d.toNat] :: (xs.take d.toNat ++ xs.drop (d.toNat + 1))).Perm xs
    refine List.perm_middle.symm.trans ?_
    rw [← List.drop_eq_getElem_cons hk, List.take_append_drop]
theorem sort_parts (ps : List Part) (h : (ps.map (·.1)).Nodup) : ∃ qs : List Part, sortC [.l (ps.map partD)] = some (.l (qs.map partD)) ∧ qs.Perm ps := by
  have seq : asSeq (.l (ps.map partD)) = some (ps.map partD) := rfl
  cases e : sortL (ps.map partD) with
  | some ys =>
    have pm : ys.Perm (ps.map partD) := by
      unfold sortL at e
      split at e
      · cases e
        exact List.mergeSort_perm _ _
      · cases e
    obtain ⟨qs, rfl, pm2⟩ := perm_map pm
    exact ⟨qs, e_sortL _ _ e, pm2⟩
  | none =>
    have hf : (ps.map partD).all (fun x => (fstD x).isSome) = true := by simp [partD, fstD]
    have hn : ((ps.map partD).map fstD).Nodup := by
      have : (ps.map partD).map fstD = (ps.map (·.1)).map some := by simp [partD, fstD, Function.comp_def]
      rw [this]
      exact nodup_map_on (fun x _ y _ e => Option.some.inj e) h
    obtain ⟨qs, e2, pm2⟩ := perm_map (List.mergeSort_perm (ps.map partD) leF)
    refine ⟨qs, ?_, pm2⟩
    have a1 : asL (.l (ps.map partD)) = some (ps.map partD) := rfl
    have a2 : sortF (ps.map partD) = some (qs.map partD) := by
      unfold sortF
      rw [if_pos ⟨hf, hn⟩, e2]
    unfold sortC
    simp only [seq, e, a1, a2, Option.map_some]
structure TInv (P : PySem.Str → Prop) (n i : Nat) (ps : List Part) : Prop where
  nd : (ps.map (·.1)).Nodup
  pos : 1 ≤ ps.length
  sm : ps.length ≤ max 1 (n - i)
  le : ps.length ≤ n
  fo : Fo P (n - ps.length) n (ps.map (·.2))
theorem TInv.next {P : PySem.Str → Prop} {n i : Nat} {ps qs cs : List Part} (t : TInv P n i ps) (pm : (qs ++ cs).Perm ps) (c2 : 2 ≤ cs.length) (c : Part) (hc : c ∈ cs) : TInv P n (i + 1) (qs ++ [(c.1, .tup (cs.map (·.2)))]) := by
  obtain ⟨h1, h2, h3, h4, h5⟩ := t
  have hl := pm.length_eq
  rw [List.length_append] at hl
  have nd := (pm.map (·.1)).symm.nodup h1
  rw [List.map_append, List.nodup_append] at nd
  refine ⟨?_, by simp, ?_, ?_, ?_⟩
  · rw [List.map_append, List.nodup_append]
    refine ⟨nd.1, by simp, fun a ha b hb => ?_⟩
    have : b = c.1 := by simpa using hb
    rw [this]
    exact nd.2.2 a ha c.1 (List.mem_map.mpr ⟨c, hc, rfl⟩)
  · rw [List.length_append]; simp only [List.length_singleton]; omega
  · rw [List.length_append]; simp only [List.length_singleton]; omega
  · have f := Fo.perm (pm.map (·.2)).symm h5
    rw [List.map_append] at f
    obtain ⟨a, b, a2, b2, f1, f2, f3, f4⟩ := f.split
    rw [List.map_append]
    have ne : cs.map (·.2) ≠ [] := fun z => by rw [List.map_eq_nil_iff] at z; rw [z] at c2; simp at c2
    refine (f1.app (.node (k := a2 + 0 + 1) (m := b2 + 0) ne f2 (.nil 0 0) (Nat.le_refl _) (Nat.le_refl _))).mono ?_ (by omega)
    rw [List.length_append]; simp only [List.length_singleton]; omega
theorem tree_ok {n : Nat} {xs : List D} (p : PotL n xs) (P : PySem.Str → Prop) (ws : List PySem.Str) (hP : ∀ w ∈ ws, P w) (nd : ws.Nodup) (h1 : 1 ≤ ws.length) (h2 : ws.length ≤ 26) (hn : n < 1000000000000) (most : Int) (hm : 2 ≤ most) (hm2 : most ≤ 100) :
    ∃ t xs', m_law_tree [.l xs, .d (.tup (ws.map .str)), .d (.int most)] = some (.d t, [.l xs', .d (.tup (ws.map .str)), .d (.int most)]) ∧ Fo P (ws.length - 1) ws.length [t] ∧ PotL (n + 40 * ws.length) xs' := by
  obtain ⟨L', e3, xs2, ps, y4, y5, y6, rfl, p2, tv⟩ := for_inv (mt := gSet 4) (body := b_law_tree_2) (fun i L => ∃ xs2 ps y4 y5 y6, L = [some (.l xs2), some (.d (.tup (ws.map .str))), some (.d (.int most)), some (.l (ps.map partD)), y4, y5, y6, none, none] ∧ PotL (n + 40 * i) xs2 ∧ TInv P ws.length i ps) (rngD 0 ws.length)
    (L := [some (.l xs), some (.d (.tup (ws.map .str))), some (.d (.int most)), some (.l ((ws.map fun w => (w, D.str w)).map partD)), none, none, none, none, none]) ⟨xs, _, none, none, none, rfl, p, by simpa [Function.comp_def] using nd, by simpa using h1, by simp; omega, by simp, by
      have := Fo.leaves ws hP
      simpa [Function.comp_def] using this⟩ fun i x L hx ⟨xs2, ps, y4, y5, y6, hL, p2, tv⟩ => by
      obtain ⟨rfl, hi⟩ := rngD_get0 _ _ _ hx
      subst hL
      have lenE : ∀ ps : List Part, lenC [.l (ps.map partD)] = some (.d (.int ps.length)) := fun ps => by rw [e_lenO, List.length_map]
      by_cases hlen : 1 < ps.length
      · obtain ⟨v, xs3, e4, v0, v1, p3⟩ := drawB (many := most - 1) p2 (by omega) (by omega) (by omega)
        obtain ⟨cn, hcn⟩ : ∃ cn : Nat, (if 2 + v < (ps.length : Int) then 2 + v else (ps.length : Int)) = (cn : Int) := ⟨(if 2 + v < (ps.length : Int) then 2 + v else (ps.length : Int)).toNat, by split <;> omega⟩
        have cn2 : 2 ≤ cn ∧ cn ≤ ps.length := by split at hcn <;> omega
        have ple := tv.le
        obtain ⟨L', e5, xs4, qs, cs, y6', rfl, p4, pm, cl⟩ := for_inv (mt := gSet 6) (body := b_law_tree_1) (fun j L => ∃ xs2 qs cs y6, L = [some (.l xs2), some (.d (.tup (ws.map .str))), some (.d (.int most)), some (.l (qs.map partD)), some (.d (.int i)), some (.l (cs.map partD)), y6, none, none] ∧ PotL (n + 40 * i + 1 + j) xs2 ∧ (qs ++ cs).Perm ps ∧ cs.length = j) (rngD 0 cn)
          (L := [some (.l xs3), some (.d (.tup (ws.map .str))), some (.d (.int most)), some (.l (ps.map partD)), some (.d (.int i)), some (.l ([].map partD)), y6, none, none]) ⟨xs3, ps, [], y6, rfl, p3, by simp, rfl⟩ fun j x L hx ⟨xs2, qs, cs, y6, hL, p2, pm, cl⟩ => by
            obtain ⟨rfl, hj⟩ := rngD_get0 _ _ _ hx
            subst hL
            have ql := pm.length_eq
            rw [List.length_append] at ql
            obtain ⟨v, xs3, e6, v0, v1, p3⟩ := drawB (many := (qs.length : Int)) p2 (by omega) (by omega) (by omega)
            obtain ⟨z, qs2, e7, pm2⟩ := pop_ok partD qs v v0 (by omega) (by omega)
            have ap : appendM [.l (cs.map partD), .d (partD z)] = some (.d .non, [.l ((cs ++ [z]).map partD), .d (partD z)]) := by
              rw [e_append (by rw [List.length_map]; omega), List.map_append]; rfl
            refine ⟨_, _, rfl, ?_, xs3, qs2, cs ++ [z], some (.d (.int j)), rfl, p3, ?_, by simp [cl]⟩
            · simp -implicitDefEqProofs [b_law_tree_1, e_seq, bS_nx, bS_rt, bS_bk, bS_ct, bS_no, e_skip, e_if, e_set, e_ret, e_retN, e_expr, e_setIx, e_op, e_nil, e_cons, e_val, e_frz, e_arg, gA_d, gA_l, gA_k, gA_t, gA_m, e_name, nA_d, nA_l, nA_k, nA_t, nA_m, e_move, vA_s, e_c, e_conts0, e_conts1, e_contV, e_contR, e_tst, e_tnot, e_tand, e_tor, e_ifE, e_call, e_refs0, e_refsV, e_refsR, e_sr0, e_srV, e_srR, e_ixA, e_ixL, e_ixT, e_at0, e_at1, e_at2, e_at3, e_addI, e_subI, e_gtI, e_ltI, e_leI, e_intI, e_intB, e_setM, e_putL, e_ix30, e_ix31, e_ix32, e_for, e_seqI, e_asl, e_ast, e_gset, e_yes, wipeL, unwipe, e_frzd, e_frzl, e_frzm, e_frzk, e_frzt, e_max2, e_min2, e_datas0, e_datas1, e_dispL, e_dispT, e_outs0, e_outsD, e_outsL, e_outsT, e_outsK, e_slotC, e_fn, fin_rt, fin_nx, e_eqAS, e_neAS, e_eqAI, e_neAI, e_eqAB, e_neAB, e_meth, e_methO, e_isLl, e_isLd, e_tuL, e_tuD, e_tuT, e_liL, e_liD, e_liT, e_lenT, e_lenD, e_lenO, lenE, e6, e_meth, e_isLl, e7, ap, -List.map_append]
            · refine List.Perm.trans ?_ pm
              rw [← List.append_assoc]
              refine List.Perm.trans ?_ (List.Perm.append_right cs pm2)
              rw [List.append_assoc, List.append_assoc]
              exact List.Perm.append_left qs2 List.perm_append_comm
        rw [rngD_len] at p4 cl
        rw [List.map_nil] at e5
        have ndc : (cs.map (·.1)).Nodup := by
          have := (pm.map (·.1)).symm.nodup tv.nd
          rw [List.map_append, List.nodup_append] at this
          exact this.2.1
        obtain ⟨ds, e8, pmd⟩ := sort_parts cs ndc
        have dl := pmd.length_eq
        cases ds with
        | nil => simp at dl; omega
        | cons d0 dr =>
          have lc := lc_map (j := 8) (elt := mOp ixA (maCons (gNameA 8) (maCons (mVal (mC (.int 1))) maNil))) (L := [some (.l xs4), some (.d (.tup (ws.map .str))), some (.d (.int most)), some (.l (qs.map partD)), some (.d (.int i)), some (.d (.lst ((d0 :: dr).map partD))), y6', none, none]) (f := fun d => match d with | D.tup [_, x] => x | d => d) ((d0 :: dr).map partD) rfl fun x hx => by
            obtain ⟨z, _, rfl⟩ := List.mem_map.mp hx
            exact ⟨.d z.2, by simp -implicitDefEqProofs [e_seq, bS_nx, bS_rt, bS_bk, bS_ct, bS_no, e_skip, e_if, e_set, e_ret, e_retN, e_expr, e_setIx, e_op, e_nil, e_cons, e_val, e_frz, e_arg, gA_d, gA_l, gA_k, gA_t, gA_m, e_name, nA_d, nA_l, nA_k, nA_t, nA_m, e_move, vA_s, e_c, e_conts0, e_conts1, e_contV, e_contR, e_tst, e_tnot, e_tand, e_tor, e_ifE, e_call, e_refs0, e_refsV, e_refsR, e_sr0, e_srV, e_srR, e_ixA, e_ixL, e_ixT, e_at0, e_at1, e_at2, e_at3, e_addI, e_subI, e_gtI, e_ltI, e_leI, e_intI, e_intB, e_setM, e_putL, e_ix30, e_ix31, e_ix32, e_for, e_seqI, e_asl, e_ast, e_gset, e_yes, wipeL, unwipe, e_frzd, e_frzl, e_frzm, e_frzk, e_frzt, e_max2, e_min2, e_datas0, e_datas1, e_dispL, e_dispT, e_outs0, e_outsD, e_outsL, e_outsT, e_outsK, e_slotC, e_fn, fin_rt, fin_nx, e_eqAS, e_neAS, e_eqAI, e_neAI, e_eqAB, e_neAB, e_meth, e_methO, e_isLl, e_isLd, e_tuL, e_tuD, e_tuT, e_liL, e_liD, e_liT, e_lenT, e_lenD, e_lenO, partD], rfl⟩
          have fm : (((d0 :: dr).map partD).map fun d => match d with | .tup [_, x] => x | d => d) = (d0 :: dr).map (·.2) := by
            simp [partD, Function.comp_def]
          rw [fm] at lc
          have ln : dr.length + 1 < sizeLine := by
            rw [List.length_cons] at dl
            rw [dl]
            exact Nat.lt_of_le_of_lt (show cs.length ≤ 26 by omega) (by decide)
          have ix0 : ixA [.l ((d0 :: dr).map partD), .d (.int 0)] = some (.d (partD d0)) := by simp -implicitDefEqProofs [e_seq, bS_nx, bS_rt, bS_bk, bS_ct, bS_no, e_skip, e_if, e_set, e_ret, e_retN, e_expr, e_setIx, e_op, e_nil, e_cons, e_val, e_frz, e_arg, gA_d, gA_l, gA_k, gA_t, gA_m, e_name, nA_d, nA_l, nA_k, nA_t, nA_m, e_move, vA_s, e_c, e_conts0, e_conts1, e_contV, e_contR, e_tst, e_tnot, e_tand, e_tor, e_ifE, e_call, e_refs0, e_refsV, e_refsR, e_sr0, e_srV, e_srR, e_ixA, e_ixL, e_ixT, e_at0, e_at1, e_at2, e_at3, e_addI, e_subI, e_gtI, e_ltI, e_leI, e_intI, e_intB, e_setM, e_putL, e_ix30, e_ix31, e_ix32, e_for, e_seqI, e_asl, e_ast, e_gset, e_yes, wipeL, unwipe, e_frzd, e_frzl, e_frzm, e_frzk, e_frzt, e_max2, e_min2, e_datas0, e_datas1, e_dispL, e_dispT, e_outs0, e_outsD, e_outsL, e_outsT, e_outsK, e_slotC, e_fn, fin_rt, fin_nx, e_eqAS, e_neAS, e_eqAI, e_neAI, e_eqAB, e_neAB, e_meth, e_methO, e_isLl, e_isLd, e_tuL, e_tuD, e_tuT, e_liL, e_liD, e_liT, e_lenT, e_lenD, e_lenO]
          have ix1 : ixA [.d (.lst ((d0 :: dr).map partD)), .d (.int 0)] = some (.d (partD d0)) := by simp -implicitDefEqProofs [e_seq, bS_nx, bS_rt, bS_bk, bS_ct, bS_no, e_skip, e_if, e_set, e_ret, e_retN, e_expr, e_setIx, e_op, e_nil, e_cons, e_val, e_frz, e_arg, gA_d, gA_l, gA_k, gA_t, gA_m, e_name, nA_d, nA_l, nA_k, nA_t, nA_m, e_move, vA_s, e_c, e_conts0, e_conts1, e_contV, e_contR, e_tst, e_tnot, e_tand, e_tor, e_ifE, e_call, e_refs0, e_refsV, e_refsR, e_sr0, e_srV, e_srR, e_ixA, e_ixL, e_ixT, e_at0, e_at1, e_at2, e_at3, e_addI, e_subI, e_gtI, e_ltI, e_leI, e_intI, e_intB, e_setM, e_putL, e_ix30, e_ix31, e_ix32, e_for, e_seqI, e_asl, e_ast, e_gset, e_yes, wipeL, unwipe, e_frzd, e_frzl, e_frzm, e_frzk, e_frzt, e_max2, e_min2, e_datas0, e_datas1, e_dispL, e_dispT, e_outs0, e_outsD, e_outsL, e_outsT, e_outsK, e_slotC, e_fn, fin_rt, fin_nx, e_eqAS, e_neAS, e_eqAI, e_neAI, e_eqAB, e_neAB, e_meth, e_methO, e_isLl, e_isLd, e_tuL, e_tuD, e_tuT, e_liL, e_liD, e_liT, e_lenT, e_lenD, e_lenO]
          have ix00 : ixA [.d (partD d0), .d (.int 0)] = some (.d (.str d0.1)) := by simp -implicitDefEqProofs [e_seq, bS_nx, bS_rt, bS_bk, bS_ct, bS_no, e_skip, e_if, e_set, e_ret, e_retN, e_expr, e_setIx, e_op, e_nil, e_cons, e_val, e_frz, e_arg, gA_d, gA_l, gA_k, gA_t, gA_m, e_name, nA_d, nA_l, nA_k, nA_t, nA_m, e_move, vA_s, e_c, e_conts0, e_conts1, e_contV, e_contR, e_tst, e_tnot, e_tand, e_tor, e_ifE, e_call, e_refs0, e_refsV, e_refsR, e_sr0, e_srV, e_srR, e_ixA, e_ixL, e_ixT, e_at0, e_at1, e_at2, e_at3, e_addI, e_subI, e_gtI, e_ltI, e_leI, e_intI, e_intB, e_setM, e_putL, e_ix30, e_ix31, e_ix32, e_for, e_seqI, e_asl, e_ast, e_gset, e_yes, wipeL, unwipe, e_frzd, e_frzl, e_frzm, e_frzk, e_frzt, e_max2, e_min2, e_datas0, e_datas1, e_dispL, e_dispT, e_outs0, e_outsD, e_outsL, e_outsT, e_outsK, e_slotC, e_fn, fin_rt, fin_nx, e_eqAS, e_neAS, e_eqAI, e_neAI, e_eqAB, e_neAB, e_meth, e_methO, e_isLl, e_isLd, e_tuL, e_tuD, e_tuT, e_liL, e_liD, e_liT, e_lenT, e_lenD, e_lenO, partD]
          have ql := pm.length_eq
          rw [List.length_append] at ql
          have ap : appendM [.l (qs.map partD), .d (.tup [.str d0.1, .tup ((d0 :: dr).map (·.2))])] = some (.d .non, [.l ((qs ++ [(d0.1, D.tup ((d0 :: dr).map (·.2)))]).map partD), .d (.tup [.str d0.1, .tup ((d0 :: dr).map (·.2))])]) := by
            rw [e_append (by rw [List.length_map]; omega), List.map_append]; rfl
          have tv2 := tv.next (cs := d0 :: dr) (List.Perm.trans (List.Perm.append_left qs pmd) pm) (by omega) d0 (by simp)
          refine ⟨_, _, rfl, ?_, xs4, qs ++ [(d0.1, .tup ((d0 :: dr).map (·.2)))], some (.d (.int i)), some (.d (.lst ((d0 :: dr).map partD))), y6', rfl, p4.mono (by omega), tv2⟩
          have r1 := e_r1B (maCons (mVal (mOp min2C (maCons (mVal (mOp lenC (maCons (gNameA 3) maNil))) (maCons (mVal (mOp addC (maCons (mVal (mC (.int 2))) (maCons (mVal (mCall m_law_draw (maCons (gNameA 0) (maCons (mVal (mOp subC (maCons (gNameA 2) (maCons (mVal (mC (.int 1))) maNil)))) maNil)))) maNil)))) maNil)))) maNil) [some (.l xs2), some (.d (.tup (ws.map .str))), some (.d (.int most)), some (.l (ps.map partD)), some (.d (.int i)), some (.l []), y6, none, none] cn [.val (.d (.int cn))] [some (.l xs3), some (.d (.tup (ws.map .str))), some (.d (.int most)), some (.l (ps.map partD)), some (.d (.int i)), some (.l []), y6, none, none] (by simp -implicitDefEqProofs [e_seq, bS_nx, bS_rt, bS_bk, bS_ct, bS_no, e_skip, e_if, e_set, e_ret, e_retN, e_expr, e_setIx, e_op, e_nil, e_cons, e_val, e_frz, e_arg, gA_d, gA_l, gA_k, gA_t, gA_m, e_name, nA_d, nA_l, nA_k, nA_t, nA_m, e_move, vA_s, e_c, e_conts0, e_conts1, e_contV, e_contR, e_tst, e_tnot, e_tand, e_tor, e_ifE, e_call, e_refs0, e_refsV, e_refsR, e_sr0, e_srV, e_srR, e_ixA, e_ixL, e_ixT, e_at0, e_at1, e_at2, e_at3, e_addI, e_subI, e_gtI, e_ltI, e_leI, e_intI, e_intB, e_setM, e_putL, e_ix30, e_ix31, e_ix32, e_for, e_seqI, e_asl, e_ast, e_gset, e_yes, wipeL, unwipe, e_frzd, e_frzl, e_frzm, e_frzk, e_frzt, e_max2, e_min2, e_datas0, e_datas1, e_dispL, e_dispT, e_outs0, e_outsD, e_outsL, e_outsT, e_outsK, e_slotC, e_fn, fin_rt, fin_nx, e_eqAS, e_neAS, e_eqAI, e_neAI, e_eqAB, e_neAB, e_meth, e_methO, e_isLl, e_isLd, e_tuL, e_tuD, e_tuT, e_liL, e_liD, e_liT, e_lenT, e_lenD, e_lenO, lenE, e4, hcn]) rfl (by omega)
          have hl2 : (1 : Int) < ps.length := by omega
          simp -implicitDefEqProofs [b_law_tree_2, e_seq, bS_nx, bS_rt, bS_bk, bS_ct, bS_no, e_skip, e_if, e_set, e_ret, e_retN, e_expr, e_setIx, e_op, e_nil, e_cons, e_val, e_frz, e_arg, gA_d, gA_l, gA_k, gA_t, gA_m, e_name, nA_d, nA_l, nA_k, nA_t, nA_m, e_move, vA_s, e_c, e_conts0, e_conts1, e_contV, e_contR, e_tst, e_tnot, e_tand, e_tor, e_ifE, e_call, e_refs0, e_refsV, e_refsR, e_sr0, e_srV, e_srR, e_ixA, e_ixL, e_ixT, e_at0, e_at1, e_at2, e_at3, e_addI, e_subI, e_gtI, e_ltI, e_leI, e_intI, e_intB, e_setM, e_putL, e_ix30, e_ix31, e_ix32, e_for, e_seqI, e_asl, e_ast, e_gset, e_yes, wipeL, unwipe, e_frzd, e_frzl, e_frzm, e_frzk, e_frzt, e_max2, e_min2, e_datas1, e_dispL, e_dispT, e_outs0, e_outsD, e_outsL, e_outsT, e_outsK, e_slotC, e_fn, fin_rt, fin_nx, e_eqAS, e_neAS, e_eqAI, e_neAI, e_eqAB, e_neAB, e_meth, e_methO, e_isLl, e_isLd, e_tuL, e_tuD, e_tuT, e_liL, e_liD, e_liT, e_lenT, e_lenD, e_lenO, e_datas0, lenE, hl2, r1, e5, e8, e_lc, lc, ln, ix0, ix1, ix00, e_meth, e_isLl, e_tuL, ap, -List.map_append, -List.map_cons]
      · refine ⟨_, _, rfl, ?_, xs2, ps, some (.d (.int i)), y5, y6, rfl, p2.mono (by omega), tv.nd, tv.pos, by have := tv.pos; omega, tv.le, tv.fo⟩
        have hl2 : ¬ ((1 : Int) < ps.length) := by omega
        simp -implicitDefEqProofs [b_law_tree_2, e_seq, bS_nx, bS_rt, bS_bk, bS_ct, bS_no, e_skip, e_if, e_set, e_ret, e_retN, e_expr, e_setIx, e_op, e_nil, e_cons, e_val, e_frz, e_arg, gA_d, gA_l, gA_k, gA_t, gA_m, e_name, nA_d, nA_l, nA_k, nA_t, nA_m, e_move, vA_s, e_c, e_conts0, e_conts1, e_contV, e_contR, e_tst, e_tnot, e_tand, e_tor, e_ifE, e_call, e_refs0, e_refsV, e_refsR, e_sr0, e_srV, e_srR, e_ixA, e_ixL, e_ixT, e_at0, e_at1, e_at2, e_at3, e_addI, e_subI, e_gtI, e_ltI, e_leI, e_intI, e_intB, e_setM, e_putL, e_ix30, e_ix31, e_ix32, e_for, e_seqI, e_asl, e_ast, e_gset, e_yes, wipeL, unwipe, e_frzd, e_frzl, e_frzm, e_frzk, e_frzt, e_max2, e_min2, e_datas0, e_datas1, e_dispL, e_dispT, e_outs0, e_outsD, e_outsL, e_outsT, e_outsK, e_slotC, e_fn, fin_rt, fin_nx, e_eqAS, e_neAS, e_eqAI, e_neAI, e_eqAB, e_neAB, e_meth, e_methO, e_isLl, e_isLd, e_tuL, e_tuD, e_tuT, e_liL, e_liD, e_liT, e_lenT, e_lenD, e_lenO, lenE, hl2]
  rw [rngD_len] at p2 tv
  obtain ⟨h1', h2', h3', h4', h5'⟩ := tv
  match ps, h2', h3', h5' with
  | [(w, t)], _, _, f =>
    refine ⟨t, xs2, ?_, f, p2⟩
    have lc := lc_map (j := 7) (elt := mOp dispT (maCons (mVal (mName 7)) (maCons (mVal (mName 7)) maNil))) (L := [some (.l xs), some (.d (.tup (ws.map .str))), some (.d (.int most)), none, none, none, none, none, none]) (f := fun d => .tup [d, d]) (ws.map .str) rfl fun x hx => ⟨.d (.tup [x, x]), by simp -implicitDefEqProofs [e_seq, bS_nx, bS_rt, bS_bk, bS_ct, bS_no, e_skip, e_if, e_set, e_ret, e_retN, e_expr, e_setIx, e_op, e_nil, e_cons, e_val, e_frz, e_arg, gA_d, gA_l, gA_k, gA_t, gA_m, e_name, nA_d, nA_l, nA_k, nA_t, nA_m, e_move, vA_s, e_c, e_conts0, e_conts1, e_contV, e_contR, e_tst, e_tnot, e_tand, e_tor, e_ifE, e_call, e_refs0, e_refsV, e_refsR, e_sr0, e_srV, e_srR, e_ixA, e_ixL, e_ixT, e_at0, e_at1, e_at2, e_at3, e_addI, e_subI, e_gtI, e_ltI, e_leI, e_intI, e_intB, e_setM, e_putL, e_ix30, e_ix31, e_ix32, e_for, e_seqI, e_asl, e_ast, e_gset, e_yes, wipeL, unwipe, e_frzd, e_frzl, e_frzm, e_frzk, e_frzt, e_max2, e_min2, e_datas0, e_datas1, e_dispL, e_dispT, e_outs0, e_outsD, e_outsL, e_outsT, e_outsK, e_slotC, e_fn, fin_rt, fin_nx, e_eqAS, e_neAS, e_eqAI, e_neAI, e_eqAB, e_neAB, e_meth, e_methO, e_isLl, e_isLd, e_tuL, e_tuD, e_tuT, e_liL, e_liD, e_liT, e_lenT, e_lenD, e_lenO], rfl⟩
    have fm : ((ws.map D.str).map fun d => D.tup [d, d]) = (ws.map fun w => (w, D.str w)).map partD := by
      simp [partD, Function.comp_def]
    rw [fm] at lc
    have ln : ws.length < sizeLine := by
      exact Nat.lt_of_le_of_lt h2 (by decide)
    have r1 := e_r1B (maCons (mVal (mOp lenC (maCons (gNameA 1) maNil))) maNil) [some (.l xs), some (.d (.tup (ws.map .str))), some (.d (.int most)), some (.l ((ws.map fun w => (w, D.str w)).map partD)), none, none, none, none, none] ws.length [.val (.d (.int ws.length))] [some (.l xs), some (.d (.tup (ws.map .str))), some (.d (.int most)), some (.l ((ws.map fun w => (w, D.str w)).map partD)), none, none, none, none, none] (by simp -implicitDefEqProofs [e_seq, bS_nx, bS_rt, bS_bk, bS_ct, bS_no, e_skip, e_if, e_set, e_ret, e_retN, e_expr, e_setIx, e_op, e_nil, e_cons, e_val, e_frz, e_arg, gA_d, gA_l, gA_k, gA_t, gA_m, e_name, nA_d, nA_l, nA_k, nA_t, nA_m, e_move, vA_s, e_c, e_conts0, e_conts1, e_contV, e_contR, e_tst, e_tnot, e_tand, e_tor, e_ifE, e_call, e_refs0, e_refsV, e_refsR, e_sr0, e_srV, e_srR, e_ixA, e_ixL, e_ixT, e_at0, e_at1, e_at2, e_at3, e_addI, e_subI, e_gtI, e_ltI, e_leI, e_intI, e_intB, e_setM, e_putL, e_ix30, e_ix31, e_ix32, e_for, e_seqI, e_asl, e_ast, e_gset, e_yes, wipeL, unwipe, e_frzd, e_frzl, e_frzm, e_frzk, e_frzt, e_max2, e_min2, e_datas0, e_datas1, e_dispL, e_dispT, e_outs0, e_outsD, e_outsL, e_outsT, e_outsK, e_slotC, e_fn, fin_rt, fin_nx, e_eqAS, e_neAS, e_eqAI, e_neAI, e_eqAB, e_neAB, e_meth, e_methO, e_isLl, e_isLd, e_tuL, e_tuD, e_tuT, e_liL, e_liD, e_liT, e_lenT, e_lenD, e_lenO, e_lenT]) rfl (by omega)
    simp -implicitDefEqProofs [m_law_tree, e_seq, bS_nx, bS_rt, bS_bk, bS_ct, bS_no, e_skip, e_if, e_set, e_ret, e_retN, e_expr, e_setIx, e_op, e_nil, e_cons, e_val, e_frz, e_arg, gA_d, gA_l, gA_k, gA_t, gA_m, e_name, nA_d, nA_l, nA_k, nA_t, nA_m, e_move, vA_s, e_c, e_conts0, e_conts1, e_contV, e_contR, e_tst, e_tnot, e_tand, e_tor, e_ifE, e_call, e_refs0, e_refsV, e_refsR, e_sr0, e_srV, e_srR, e_ixA, e_ixL, e_ixT, e_at0, e_at1, e_at2, e_at3, e_addI, e_subI, e_gtI, e_ltI, e_leI, e_intI, e_intB, e_setM, e_putL, e_ix30, e_ix31, e_ix32, e_for, e_seqI, e_asl, e_ast, e_gset, e_yes, wipeL, unwipe, e_frzd, e_frzl, e_frzm, e_frzk, e_frzt, e_max2, e_min2, e_datas0, e_datas1, e_dispL, e_dispT, e_outs0, e_outsD, e_outsL, e_outsT, e_outsK, e_slotC, e_fn, fin_rt, fin_nx, e_eqAS, e_neAS, e_eqAI, e_neAI, e_eqAB, e_neAB, e_meth, e_methO, e_isLl, e_isLd, e_tuL, e_tuD, e_tuT, e_liL, e_liD, e_liT, e_lenT, e_lenD, e_lenO, r1, e3, e_lc, lc, ln, -List.map_map]
    simp -implicitDefEqProofs [e_seq, bS_nx, bS_rt, bS_bk, bS_ct, bS_no, e_skip, e_if, e_set, e_ret, e_retN, e_expr, e_setIx, e_op, e_nil, e_cons, e_val, e_frz, e_arg, gA_d, gA_l, gA_k, gA_t, gA_m, e_name, nA_d, nA_l, nA_k, nA_t, nA_m, e_move, vA_s, e_c, e_conts0, e_conts1, e_contV, e_contR, e_tst, e_tnot, e_tand, e_tor, e_ifE, e_call, e_refs0, e_refsV, e_refsR, e_sr0, e_srV, e_srR, e_ixA, e_ixL, e_ixT, e_at0, e_at1, e_at2, e_at3, e_addI, e_subI, e_gtI, e_ltI, e_leI, e_intI, e_intB, e_setM, e_putL, e_ix30, e_ix31, e_ix32, e_for, e_seqI, e_asl, e_ast, e_gset, e_yes, wipeL, unwipe, e_frzd, e_frzl, e_frzm, e_frzk, e_frzt, e_max2, e_min2, e_datas0, e_datas1, e_dispL, e_dispT, e_outs0, e_outsD, e_outsL, e_outsT, e_outsK, e_slotC, e_fn, fin_rt, fin_nx, e_eqAS, e_neAS, e_eqAI, e_neAI, e_eqAB, e_neAB, e_meth, e_methO, e_isLl, e_isLd, e_tuL, e_tuD, e_tuT, e_liL, e_liD, e_liT, e_lenT, e_lenD, e_lenO, partD]
  | [], h, _, _ => simp at h
  | _ :: _ :: _, _, h, _ => simp at h
/-! ### the lots of a tree -/
def lotD (l : List PySem.Str) : D := .tup (l.map .str)
structure LOk (P : PySem.Str → Prop) (k m : Nat) (lots : List (List PySem.Str)) : Prop where
  len : lots.length ≤ k + m
  ne : ∀ l ∈ lots, l ≠ []
  ok : ∀ l ∈ lots, l.length ≤ m ∧ ∀ w ∈ l, P w
  big : (lots.filter fun l => decide (l.length ≠ 1)).length ≤ k
theorem LOk.app {P : PySem.Str → Prop} {a b c d : Nat} {xs ys : List (List PySem.Str)} (h : LOk P a b xs) (g : LOk P c d ys) : LOk P (a + c) (b + d) (xs ++ ys) := by
  refine ⟨?_, fun l hl => ?_, fun l hl => ?_, ?_⟩
  · have := h.len; have := g.len; rw [List.length_append]; omega
  · rcases List.mem_append.mp hl with q | q
    · exact h.ne l q
    · exact g.ne l q
  · rcases List.mem_append.mp hl with q | q
    · exact ⟨by have := (h.ok l q).1; omega, (h.ok l q).2⟩
    · exact ⟨by have := (g.ok l q).1; omega, (g.ok l q).2⟩
  · have := h.big; have := g.big; rw [List.filter_append, List.length_append]; omega
theorem LOk.mono {P : PySem.Str → Prop} {a b c d : Nat} {xs : List (List PySem.Str)} (h : LOk P a b xs) (h1 : a ≤ c) (h2 : b ≤ d) : LOk P c d xs :=
  ⟨by have := h.len; omega, h.ne, fun l hl => ⟨by have := (h.ok l hl).1; omega, (h.ok l hl).2⟩, by have := h.big; omega⟩
theorem atI_last (xs : List D) (x : D) : atI (xs ++ [x]) (-1) = some x := by
  unfold atI
  have : ixN (xs ++ [x]).length (-1) = some xs.length := by
    unfold ixN
    simp
    omega
  rw [this]
  simp
theorem e_negI (i : Int) : negC [.d (.int i)] = some (.d (.int (-i))) := rfl
theorem e_addL (xs ys : List D) (h : xs.length + ys.length ≤ 1000000) : addC [.l xs, .l ys] = some (.l (xs ++ ys)) := by
  have a1 : add1C [.l xs, .l ys] = none := rfl
  have a2 : addSC [.l xs, .l ys] = none := rfl
  have a3 : addTC [.l xs, .l ys] = none := rfl
  have h' : xs.length + ys.length ≤ sizeLine := Nat.le_trans h (by decide)
  simp [addC, orC, a1, a2, a3, addLC, asL, h']
theorem isi_str_str (w : PySem.Str) : isiC [.d (.str w), .d (.ty "str")] = some (.d (.bl true)) := by rfl
theorem isi_tup_str (xs : List D) : isiC [.d (.tup xs), .d (.ty "str")] = some (.d (.bl false)) := by rfl
theorem lots_ok (P : PySem.Str → Prop) (hP : ∀ w, P w → okD (.str w) = true) : ∀ (n : Nat) (t : D) (k m : Nat), Fo P k m [t] → k < n → k + m ≤ 1000 → ∃ lots last, m_law_lots n [.d t] = some (.l ((lots ++ [last]).map lotD), [.d t]) ∧ LOk P k m (lots ++ [last]) ∧ ∀ us, t = .tup us → LOk P (k - 1) m lots
  | 0, t, k, m, h, hk, _ => absurd hk (by omega)
  | n + 1, t, k, m, h, hk, hkm => by
    cases h with
    | leaf p f e =>
      rename_i w
      refine ⟨[], [w], ?_, ⟨by simp; omega, by simp, by simpa using ⟨by omega, p⟩, by simp⟩, fun us z => by cases z⟩
      simp -implicitDefEqProofs [m_law_lots, e_seq, bS_nx, bS_rt, bS_bk, bS_ct, bS_no, e_skip, e_if, e_set, e_ret, e_retN, e_expr, e_setIx, e_op, e_nil, e_cons, e_val, e_frz, e_arg, gA_d, gA_l, gA_k, gA_t, gA_m, e_name, nA_d, nA_l, nA_k, nA_t, nA_m, e_move, vA_s, e_c, e_conts0, e_conts1, e_contV, e_contR, e_tst, e_tnot, e_tand, e_tor, e_ifE, e_call, e_refs0, e_refsV, e_refsR, e_sr0, e_srV, e_srR, e_ixA, e_ixL, e_ixT, e_at0, e_at1, e_at2, e_at3, e_addI, e_subI, e_gtI, e_ltI, e_leI, e_intI, e_intB, e_setM, e_putL, e_ix30, e_ix31, e_ix32, e_for, e_seqI, e_asl, e_ast, e_gset, e_yes, wipeL, unwipe, e_frzd, e_frzl, e_frzm, e_frzk, e_frzt, e_max2, e_min2, e_datas0, e_datas1, e_dispL, e_dispT, e_outs0, e_outsD, e_outsL, e_outsT, e_outsK, e_slotC, e_fn, fin_rt, fin_nx, e_eqAS, e_neAS, e_eqAI, e_neAI, e_eqAB, e_neAB, e_meth, e_methO, e_isLl, e_isLd, e_tuL, e_tuD, e_tuT, e_liL, e_liD, e_liT, e_lenT, e_lenD, e_lenO, isi_str_str, lotD]
    | node ne f1 f2 e1 e2 =>
      rename_i a b m1 m2 us
      obtain ⟨L', e3, lots, whole, y3, y4, rfl, k', m', a', b', lk, wl, wP, wne, fo, q1, q2⟩ := for_inv (mt := gSet 3) (body := b_law_lots_1 (m_law_lots n)) (fun i L => ∃ lots whole y3 y4, L = [some (.d (.tup us)), some (.l (lots.map lotD)), some (.l (whole.map .str)), y3, y4] ∧ ∃ k' m' a' b', LOk P k' m' lots ∧ whole.length ≤ m' ∧ (∀ w ∈ whole, P w) ∧ (0 < i → whole ≠ []) ∧ Fo P a' b' (us.drop i) ∧ k' + a' ≤ a ∧ m' + b' ≤ m1) us
        (L := [some (.d (.tup us)), some (.l ([].map lotD)), some (.l ([].map .str)), none, none]) ⟨[], [], none, none, rfl, 0, 0, a, m1, ⟨by simp, by simp, by simp, by simp⟩, by simp, by simp, by simp, by simpa using f1, by omega, by omega⟩ fun i x L hx ⟨lots, whole, y3, y4, hL, k', m', a', b', lk, wl, wP, wne, fo, q1, q2⟩ => by
          subst hL
          have hi : i < us.length := (List.getElem?_eq_some_iff.mp hx).1
          have hd : us.drop i = x :: us.drop (i + 1) := by
            rw [List.drop_eq_getElem_cons hi]
            congr 1
            rw [List.getElem?_eq_getElem hi] at hx
            exact Option.some.inj hx
          rw [hd] at fo
          obtain ⟨a1, b1, c1, d1, g1, g2, g3, g4⟩ := fo.inv
          obtain ⟨ls, last, e4, lk2, _⟩ := lots_ok P hP n x a1 b1 g1 (by omega) (by omega)
          have ad1 : addC [.l (lots.map lotD), .l ((ls ++ [last]).map lotD)] = some (.l ((lots ++ (ls ++ [last])).map lotD)) := by
            rw [e_addL _ _ (by have := lk.len; have := lk2.len; simp only [List.length_map]; omega), ← List.map_append]
          have lastm : last ∈ ls ++ [last] := by simp
          have ad2 : addC [.l (whole.map .str), .l (last.map .str)] = some (.l ((whole ++ last).map .str)) := by
            rw [e_addL _ _ (by have := (lk2.ok last lastm).1; simp only [List.length_map]; omega), List.map_append]
          have ixl : ixA [.l ((ls ++ [last]).map lotD), .d (.int (-1))] = some (.d (lotD last)) := by
            rw [e_ixA, List.map_append]
            show (atI (ls.map lotD ++ [lotD last]) (-1)).map C.d = _
            rw [atI_last]
            rfl
          have lil : listC [.d (lotD last)] = some (.l (last.map .str)) := e_liT _
          refine ⟨_, _, rfl, ?_, lots ++ (ls ++ [last]), whole ++ last, some (.d x), some (.l ((ls ++ [last]).map lotD)), rfl, k' + a1, m' + b1, c1, d1, lk.app lk2, ?_, ?_, ?_, g2, by omega, by omega⟩
          · simp -implicitDefEqProofs [b_law_lots_1, e_seq, bS_nx, bS_rt, bS_bk, bS_ct, bS_no, e_skip, e_if, e_set, e_ret, e_retN, e_expr, e_setIx, e_op, e_nil, e_cons, e_val, e_frz, e_arg, gA_d, gA_l, gA_k, gA_t, gA_m, e_name, nA_d, nA_l, nA_k, nA_t, nA_m, e_move, vA_s, e_c, e_conts0, e_conts1, e_contV, e_contR, e_tst, e_tnot, e_tand, e_tor, e_ifE, e_call, e_refs0, e_refsV, e_refsR, e_sr0, e_srV, e_srR, e_ixA, e_ixL, e_ixT, e_at0, e_at1, e_at2, e_at3, e_addI, e_subI, e_gtI, e_ltI, e_leI, e_intI, e_intB, e_setM, e_putL, e_ix30, e_ix31, e_ix32, e_for, e_seqI, e_asl, e_ast, e_gset, e_yes, wipeL, unwipe, e_frzd, e_frzl, e_frzm, e_frzk, e_frzt, e_max2, e_min2, e_datas0, e_datas1, e_dispL, e_dispT, e_outs0, e_outsD, e_outsL, e_outsT, e_outsK, e_slotC, e_fn, fin_rt, fin_nx, e_eqAS, e_neAS, e_eqAI, e_neAI, e_eqAB, e_neAB, e_meth, e_methO, e_isLl, e_isLd, e_tuL, e_tuD, e_tuT, e_liL, e_liD, e_liT, e_lenT, e_lenD, e_lenO, e4, ad1, ad2, ixl, lil, e_negI, -List.map_append]
          · have := (lk2.ok last lastm).1; rw [List.length_append]; omega
          · intro w hw
            rcases List.mem_append.mp hw with q | q
            · exact wP w q
            · exact (lk2.ok last lastm).2 w q
          · intro _ z
            exact lk2.ne last lastm (List.append_eq_nil_iff.mp z).2
      rw [List.map_nil, List.map_nil] at e3
      obtain ⟨us', e5, pm, _⟩ := sort_strs whole fun w hw => hP w (wP w hw)
      have wn : whole ≠ [] := wne (List.length_pos_iff.mpr ne)
      have pl := pm.length_eq
      refine ⟨lots, us', ?_, ?_, fun _ _ => lk.mono (by omega) (by omega)⟩
      · have pr := e_par 1 2 (maCons (mVal (mOp dispL maNil)) (maCons (mVal (mOp dispL maNil)) maNil)) [some (.d (.tup us)), none, none, none, none] (.l []) (.l []) [some (.d (.tup us)), none, none, none, none] (by simp -implicitDefEqProofs [e_seq, bS_nx, bS_rt, bS_bk, bS_ct, bS_no, e_skip, e_if, e_set, e_ret, e_retN, e_expr, e_setIx, e_op, e_nil, e_cons, e_val, e_frz, e_arg, gA_d, gA_l, gA_k, gA_t, gA_m, e_name, nA_d, nA_l, nA_k, nA_t, nA_m, e_move, vA_s, e_c, e_conts0, e_conts1, e_contV, e_contR, e_tst, e_tnot, e_tand, e_tor, e_ifE, e_call, e_refs0, e_refsV, e_refsR, e_sr0, e_srV, e_srR, e_ixA, e_ixL, e_ixT, e_at0, e_at1, e_at2, e_at3, e_addI, e_subI, e_gtI, e_ltI, e_leI, e_intI, e_intB, e_setM, e_putL, e_ix30, e_ix31, e_ix32, e_for, e_seqI, e_asl, e_ast, e_gset, e_yes, wipeL, unwipe, e_frzd, e_frzl, e_frzm, e_frzk, e_frzt, e_max2, e_min2, e_datas0, e_datas1, e_dispL, e_dispT, e_outs0, e_outsD, e_outsL, e_outsT, e_outsK, e_slotC, e_fn, fin_rt, fin_nx, e_eqAS, e_neAS, e_eqAI, e_neAI, e_eqAB, e_neAB, e_meth, e_methO, e_isLl, e_isLd, e_tuL, e_tuD, e_tuT, e_liL, e_liD, e_liT, e_lenT, e_lenD, e_lenO]) (by simp) (by simp)
        have ad3 : addC [.l (lots.map lotD), .l [.tup (us'.map .str)]] = some (.l ((lots ++ [us']).map lotD)) := by
          rw [e_addL _ _ (by have := lk.len; simp only [List.length_map, List.length_singleton]; omega), List.map_append]; rfl
        simp -implicitDefEqProofs [m_law_lots, e_seq, bS_nx, bS_rt, bS_bk, bS_ct, bS_no, e_skip, e_if, e_set, e_ret, e_retN, e_expr, e_setIx, e_op, e_nil, e_cons, e_val, e_frz, e_arg, gA_d, gA_l, gA_k, gA_t, gA_m, e_name, nA_d, nA_l, nA_k, nA_t, nA_m, e_move, vA_s, e_c, e_conts0, e_conts1, e_contV, e_contR, e_tst, e_tnot, e_tand, e_tor, e_ifE, e_call, e_refs0, e_refsV, e_refsR, e_sr0, e_srV, e_srR, e_ixA, e_ixL, e_ixT, e_at0, e_at1, e_at2, e_at3, e_addI, e_subI, e_gtI, e_ltI, e_leI, e_intI, e_intB, e_setM, e_putL, e_ix30, e_ix31, e_ix32, e_for, e_seqI, e_asl, e_ast, e_gset, e_yes, wipeL, unwipe, e_frzd, e_frzl, e_frzm, e_frzk, e_frzt, e_max2, e_min2, e_datas0, e_datas1, e_dispL, e_dispT, e_outs0, e_outsD, e_outsL, e_outsT, e_outsK, e_slotC, e_fn, fin_rt, fin_nx, e_eqAS, e_neAS, e_eqAI, e_neAI, e_eqAB, e_neAB, e_meth, e_methO, e_isLl, e_isLd, e_tuL, e_tuD, e_tuT, e_liL, e_liD, e_liT, e_lenT, e_lenD, e_lenO, isi_tup_str, pr, e3, e_sortL _ _ e5, e_tuL, ad3, -List.map_append]
      · refine ⟨?_, fun l hl => ?_, fun l hl => ?_, ?_⟩
        · have := lk.len; rw [List.length_append]; simp only [List.length_singleton]; omega
        · rcases List.mem_append.mp hl with q | q
          · exact lk.ne l q
          · rw [List.mem_singleton.mp q]
            intro z
            rw [z] at pl
            exact wn (List.length_eq_zero_iff.mp (by simpa using pl.symm))
        · rcases List.mem_append.mp hl with q | q
          · exact ⟨by have := (lk.ok l q).1; omega, (lk.ok l q).2⟩
          · rw [List.mem_singleton.mp q]
            exact ⟨by omega, fun w hw => wP w (pm.mem_iff.mp hw)⟩
        · have := lk.big
          rw [List.filter_append, List.length_append]
          have h1 : ([us'].filter fun l => decide (l.length ≠ 1)).length ≤ 1 := List.length_filter_le _ _
          omega
/-! ### dicts by lots -/
def keyOf (l : List PySem.Str) : List Key := l.map .inr
theorem keyOf_inj {l m : List PySem.Str} (h : keyOf l = keyOf m) : l = m := by
  induction l generalizing m with
  | nil => cases m with
    | nil => rfl
    | cons y m => simp [keyOf] at h
  | cons x l ih => cases m with
    | nil => simp [keyOf] at h
    | cons y m =>
      simp only [keyOf, List.map_cons, List.cons.injEq, Sum.inr.injEq] at h
      rw [h.1, ih h.2]
theorem keysD_lot (l : List PySem.Str) : keysD (lotD l) = some (keyOf l) := by
  show keysL (l.map .str) = _
  have := keysL_un (keyOf l)
  have e : (keyOf l).map unkey = l.map .str := by simp [keyOf, unkey]
  rw [e] at this
  exact this
section
variable {κ : Type} [DecidableEq κ]
theorem repl_len : ∀ (ks : List κ) (xs : List D) (k : κ) (x : D), (replP ks xs k x).length = xs.length
  | [], _, _, _ => by simp [replP]
  | _ :: _, [], _, _ => by simp [replP]
  | k0 :: ks, x0 :: xs, k, x => by simp [replP, repl_len ks xs k x]
theorem get_repl : ∀ (ks : List κ) (xs : List D) (k : κ) (x : D) (q : κ), ks.length = xs.length → getP ks (replP ks xs k x) q = if k = q then (if k ∈ ks then some x else none) else getP ks xs q
  | [], [], k, x, q, _ => by simp [getP]
  | k0 :: ks, x0 :: xs, k, x, q, h => by
    have ih := get_repl ks xs k x q (by simpa using h)
    unfold replP getP
    by_cases e : k0 = q
    · subst e
      by_cases e2 : k = k0
      · subst e2; simp
      · simp [e2, Ne.symm e2]
    · simp only [e, if_false, ih]
      by_cases e2 : k = q
      · subst e2
        have : k ≠ k0 := fun z => e z.symm
        simp [this]
      · simp [e2]
theorem get_app : ∀ (ks : List κ) (xs : List D) (k : κ) (x : D) (q : κ), ks.length = xs.length → k ∉ ks → getP (ks ++ [k]) (xs ++ [x]) q = if k = q then some x else getP ks xs q
  | [], [], k, x, q, _, _ => by simp [getP]
  | k0 :: ks, x0 :: xs, k, x, q, h, hk => by
    rw [List.mem_cons, not_or] at hk
    have ih := get_app ks xs k x q (by simpa using h) hk.2
    show getP (k0 :: (ks ++ [k])) (x0 :: (xs ++ [x])) q = _
    unfold getP
    by_cases e : k0 = q
    · subst e
      simp [hk.1]
    · simp only [e, if_false, ih]
theorem get_put (ks : List κ) (xs : List D) (k : κ) (x : D) (q : κ) (h : ks.length = xs.length) : getP (putKs ks k) (putXs ks xs k x) q = if k = q then some x else getP ks xs q := by
  unfold putKs putXs
  by_cases hk : k ∈ ks
  · rw [if_pos hk, if_pos hk, get_repl ks xs k x q h]
    simp [hk]
  · rw [if_neg hk, if_neg hk, get_app ks xs k x q h hk]
theorem put_len (ks : List κ) (xs : List D) (k : κ) (x : D) (h : ks.length = xs.length) : (putKs ks k).length = (putXs ks xs k x).length := by
  unfold putKs putXs
  by_cases hk : k ∈ ks
  · rw [if_pos hk, if_pos hk, repl_len]; exact h
  · rw [if_neg hk, if_neg hk, List.length_append, List.length_append, h]; rfl
theorem put_mem (ks : List κ) (k q : κ) : q ∈ putKs ks k ↔ q = k ∨ q ∈ ks := by
  unfold putKs
  split
  · rename_i hk
    exact ⟨.inr, fun h => h.elim (fun e => e ▸ hk) id⟩
  · rw [List.mem_append, List.mem_singleton]
    exact ⟨fun h => h.elim .inr .inl, fun h => h.elim .inr .inl⟩
theorem put_nodup (ks : List κ) (k : κ) (h : ks.Nodup) : (putKs ks k).Nodup := by
  unfold putKs
  split
  · exact h
  · rename_i hk
    rw [List.nodup_append]
    exact ⟨h, by simp, fun a ha b hb => by rw [List.mem_singleton.mp hb]; exact fun z => hk (z ▸ ha)⟩
theorem put_le (ks : List κ) (k : κ) : (putKs ks k).length ≤ ks.length + 1 := by
  unfold putKs
  split
  · omega
  · simp
theorem putP_len (ks : List κ) (k : κ) : ks.length ≤ (putKs ks k).length := by
  unfold putKs
  split
  · omega
  · simp
end
/-- a dict by lots, of whole numbers of a kind -/
structure DT (V : Int → Prop) (ks : List (List Key)) (xs : List D) : Prop where
  len : ks.length = xs.length
  nd : ks.Nodup
  val : ∀ k ∈ ks, ∃ i, V i ∧ getP ks xs k = some (.int i)
theorem DT.nil (V : Int → Prop) : DT V [] [] := ⟨rfl, List.nodup_nil, fun k h => absurd h (by simp)⟩
theorem DT.put {V : Int → Prop} {ks : List (List Key)} {xs : List D} (h : DT V ks xs) (k : List Key) {i : Int} (hi : V i) : DT V (putKs ks k) (putXs ks xs k (.int i)) :=
  ⟨put_len ks xs k _ h.len, put_nodup ks k h.nd, fun q hq => by
    rw [get_put ks xs k _ q h.len]
    by_cases e : k = q
    · exact ⟨i, hi, by rw [if_pos e]⟩
    · rw [if_neg e]
      rcases (put_mem ks k q).mp hq with z | z
      · exact absurd z.symm e
      · exact h.val q z⟩
theorem e_putT {ks : List (List Key)} {xs : List D} {l : List PySem.Str} {x : D} (h : ks.length < 100000) : putC (.t ks xs) (.d (lotD l)) x = some (.t (putKs ks (keyOf l)) (putXs ks xs (keyOf l) x)) := by
  show (match keysD (lotD l) with | some k => _ | none => none) = _
  rw [keysD_lot]
  exact if_pos h
theorem e_ixT' (ks : List (List Key)) (xs : List D) (l : List PySem.Str) : ixA [.t ks xs, .d (lotD l)] = (getP ks xs (keyOf l)).map .d := by
  have a1 : ixC [.t ks xs, .d (lotD l)] = none := rfl
  have a2 : dget (.t ks xs) (lotD l) = some (getP ks xs (keyOf l)) := by
    show (keysD (lotD l)).map _ = _
    rw [keysD_lot]; rfl
  unfold ixA orC
  rw [a1]
  show ixDC _ = _
  unfold ixDC
  simp only [a2]
  cases getP ks xs (keyOf l) <;> rfl
theorem e_ixDt (ks : List (List Key)) (xs : List D) (l : List PySem.Str) : ixA [.d (.dt ks xs), .d (lotD l)] = (getP ks xs (keyOf l)).map .d := by
  have a1 : ixC [.d (.dt ks xs), .d (lotD l)] = none := rfl
  have a2 : dget (.d (.dt ks xs)) (lotD l) = some (getP ks xs (keyOf l)) := by
    show (keysD (lotD l)).map _ = _
    rw [keysD_lot]; rfl
  unfold ixA orC
  rw [a1]
  show ixDC _ = _
  unfold ixDC
  simp only [a2]
  cases getP ks xs (keyOf l) <;> rfl
theorem eqv_str (a b : PySem.Str) : PyData.eqv (.str a) (.str b) = decide (a = b) := by
  by_cases h : a = b
  · subst h; simp [PyData.eqv]
  · simp [PyData.eqv, h]
theorem any_strs (x : PySem.Str) (l : List PySem.Str) : ((l.map D.str).any fun z => PyData.eqv (toPy z) (toPy (.str x))) = decide (x ∈ l) := by
  rw [List.any_map]
  induction l with
  | nil => rfl
  | cons y r ih =>
    rw [List.any_cons, ih]
    show (PyData.eqv (.str y) (.str x) || _) = _
    rw [eqv_str]
    by_cases e : y = x
    · subst e; simp
    · have : ¬ x = y := fun z => e z.symm
      simp [e, this]
theorem e_inStrs (x : PySem.Str) (l : List PySem.Str) : inA [.d (.str x), .d (.tup (l.map .str))] = some (.d (.bl (decide (x ∈ l)))) := by
  have f : (l.map D.str).all flatD = true := by
    rw [List.all_eq_true]
    intro d hd
    obtain ⟨w, _, rfl⟩ := List.mem_map.mp hd
    rfl
  have g := any_strs x l
  have e1 : inC [.d (.str x), .d (.tup (l.map .str))] = some (.d (.bl (decide (x ∈ l)))) := by
    have e2 : inDB (.d (.str x)) (.d (.tup (l.map .str))) = some (decide (x ∈ l)) := by
      unfold inDB
      simp only [asL, f]
      show (if (flatD (.str x) && true) = true then _ else none) = _
      rw [if_pos (show (flatD (.str x) && true) = true from rfl), g]
    show (inDB _ _).map _ = _
    rw [e2]; rfl
  unfold inA orC
  rw [e1]
theorem e_isPos (l : List PySem.Str) : asSeqD (.d (lotD l)) = some (l.map .str) := rfl
/-! ### data that repr, == and sorted take -/
structure Nice (d w : Nat) (x : D) : Prop where
  lay : (toPy x).canLay0 = true
  dep : (toPy x).depth ≤ d
  wt : (toPy x).weight ≤ w
  sh : (toPy x).showable = true
  sm : (toPy x).intsShort 13 = true
theorem Nice.mono {d w d' w' : Nat} {x : D} (h : Nice d w x) (h1 : d ≤ d') (h2 : w ≤ w') : Nice d' w' x := ⟨h.lay, Nat.le_trans h.dep h1, Nat.le_trans h.wt h2, h.sh, h.sm⟩
theorem Nice.okD {d w : Nat} {x : D} (h : Nice d w x) (h1 : d ≤ 64) : okD x = true := by
  have : (toPy x).depth ≤ 64 := Nat.le_trans h.dep h1
  simp [VS.okD, SeqAt.shaped, h.lay, this]
theorem Nice.okR {d w : Nat} {x : D} (h : Nice d w x) (h1 : d ≤ 64) (h2 : w ≤ 1048576) : okR x = true := by
  have a : (toPy x).depth ≤ 64 := Nat.le_trans h.dep h1
  have b : (toPy x).weight ≤ 2 ^ 20 := Nat.le_trans h.wt (Nat.le_trans h2 (by decide))
  have l0 : PyData.layable0 (toPy x) = true := by
    unfold PyData.layable0
    rw [h.lay, decide_eq_true a, decide_eq_true b]
    rfl
  have c : (toPy x).shown.length ≤ sizeLine := Nat.le_trans (PyProof.Rows.shown_le13 l0 h.sm) (by decide)
  simp [VS.okR, h.okD h1, h.sh, c]
theorem nice_all {d w : Nat} : ∀ (xs : List D), (∀ x ∈ xs, Nice d w x) → PyData.canLayAll0 (toPys xs) = true ∧ PyData.depthAll (toPys xs) ≤ d ∧ PyData.weightAll (toPys xs) ≤ xs.length * (w + 1) ∧ PyData.showableAll (toPys xs) = true ∧ PyData.intsShortAll 13 (toPys xs) = true
  | [], _ => by simp [toPys, PyData.canLayAll0, PyData.depthAll, PyData.weightAll, PyData.showableAll, PyData.intsShortAll]
  | x :: xs, h => by
    obtain ⟨a, b, c, e, f⟩ := nice_all xs fun y hy => h y (List.mem_cons_of_mem _ hy)
    have n := h x (List.mem_cons_self ..)
    refine ⟨?_, ?_, ?_, ?_, ?_⟩
    · rw [toPys, PyData.canLayAll0, n.lay, a]; rfl
    · rw [toPys, PyData.depthAll]; exact Nat.max_le.mpr ⟨n.dep, b⟩
    · rw [toPys, PyData.weightAll, List.length_cons, Nat.add_mul, Nat.one_mul]; have := n.wt; omega
    · rw [toPys, PyData.showableAll, n.sh, e]; rfl
    · rw [toPys, PyData.intsShortAll, n.sm, f]; rfl
theorem nice_tup {d w : Nat} {xs : List D} (h : ∀ x ∈ xs, Nice d w x) : Nice (d + 1) (xs.length * (w + 1)) (.tup xs) := by
  obtain ⟨a, b, c, e, f⟩ := nice_all xs h
  refine ⟨?_, ?_, ?_, ?_, ?_⟩
  · rw [toPy, PyData.canLay0]; exact a
  · rw [toPy, PyData.depth]; omega
  · rw [toPy, PyData.weight]; exact c
  · rw [toPy, PyData.showable]; exact e
  · rw [toPy, PyData.intsShort]; exact f
theorem nice_lst {d w : Nat} {xs : List D} (h : ∀ x ∈ xs, Nice d w x) : Nice (d + 1) (xs.length * (w + 1)) (.lst xs) := by
  obtain ⟨a, b, c, e, f⟩ := nice_all xs h
  refine ⟨?_, ?_, ?_, ?_, ?_⟩
  · rw [toPy, PyData.canLay0]; exact a
  · rw [toPy, PyData.depth]; omega
  · rw [toPy, PyData.weight]; exact c
  · rw [toPy, PyData.showable]; exact e
  · rw [toPy, PyData.intsShort]; exact f
theorem nice_bl (b : Bool) : Nice 0 0 (.bl b) := ⟨rfl, by simp [toPy, PyData.depth], by simp [toPy, PyData.weight], rfl, rfl⟩
theorem nice_non : Nice 0 0 .non := ⟨rfl, by simp [toPy, PyData.depth], by simp [toPy, PyData.weight], rfl, rfl⟩
theorem nice_str {l : List Nat} (h : LetL l) : Nice 0 l.length (.str (mkS l)) := by
  have : PySem.PyData.strOk (mkS l) = true := by
    unfold PySem.PyData.strOk
    simp only [mkS, List.all_toArray, List.all_eq_true]
    intro c hc
    have := h c hc
    simp
    omega
  exact ⟨by rw [toPy, PyData.canLay0]; exact this, by simp [toPy, PyData.depth], by simp [toPy, PyData.weight, mkS], rfl, rfl⟩
theorem nice_word {w : PySem.Str} (h : WOk w) : Nice 0 8 (.str w) := by
  obtain ⟨l, rfl, h1, _, h3⟩ := h
  exact (nice_str h1).mono (Nat.le_refl _) h3
theorem nice_int {i : Int} (h0 : 0 ≤ i) (h1 : i ≤ 1000000000) : Nice 0 64 (.int i) := by
  have l := lg (x := i) (n := 30) (by decide) h0 (Int.lt_of_le_of_lt h1 (by decide))
  refine ⟨rfl, by simp [toPy, PyData.depth], ?_, ?_, ?_⟩
  · rw [toPy, PyData.weight]
    split <;> omega
  · rw [toPy, PyData.showable]
    exact decide_eq_true (by omega)
  · rw [toPy, PyData.intsShort, decide_eq_true_eq]
    exact PyData.shown_int_le2 (by omega) (by omega)
theorem nice_lot {P : PySem.Str → Prop} (hP : ∀ w, P w → WOk w) {l : List PySem.Str} (h : ∀ w ∈ l, P w) : Nice 1 (l.length * 9) (lotD l) := by
  have := nice_tup (d := 0) (w := 8) (xs := l.map .str) fun x hx => by
    obtain ⟨w, hw, rfl⟩ := List.mem_map.mp hx
    exact nice_word (hP w (h w hw))
  rw [List.length_map] at this
  exact this
theorem alike_strs : ∀ l m : List PySem.Str, PySem.W.alikeAll (toPys (l.map .str)) (toPys (m.map .str)) = true
  | [], _ => by simp [toPys, PySem.W.alikeAll]
  | _ :: _, [] => by simp [toPys, PySem.W.alikeAll]
  | x :: l, y :: m => by
    rw [List.map_cons, List.map_cons, toPys, toPys, PySem.W.alikeAll, alike_strs l m]
    simp [toPy, PySem.W.alike]
theorem alike_lot (l m : List PySem.Str) : PySem.W.alike (toPy (lotD l)) (toPy (lotD m)) = true := by
  show PySem.W.alike (.tuple (toPys (l.map .str))) (.tuple (toPys (m.map .str))) = true
  rw [PySem.W.alike]
  exact alike_strs l m
/-- tuples that compare, sorted -/
theorem sort_alike {α : Type} (g : α → D) (xs : List α) (h1 : ∀ a ∈ xs, ∀ b ∈ xs, PySem.W.alike (toPy (g a)) (toPy (g b)) = true) (h2 : ∀ a ∈ xs, ∃ y ys, g a = .tup (y :: ys)) (h3 : ∀ a ∈ xs, okD (g a) = true) : ∃ ys : List α, sortL (xs.map g) = some (ys.map g) ∧ ys.Perm xs ∧ ys.Pairwise (fun a b => PySem.W.dataLe false toPy (g a) (g b) = true) := by
  have hs : (alikeB ((xs.map g).map toPy) && sortableB ((xs.map g).map toPy) && (xs.map g).all okD) = true := by
    rw [Bool.and_eq_true, Bool.and_eq_true]
    refine ⟨⟨?_, ?_⟩, ?_⟩
    · unfold alikeB
      rw [List.all_eq_true]
      intro d hd
      rw [List.all_eq_true]
      intro e he
      simp only [List.map_map, List.mem_map, Function.comp_apply] at hd he
      obtain ⟨a, ha, rfl⟩ := hd
      obtain ⟨b, hb, rfl⟩ := he
      exact h1 a ha b hb
    · unfold sortableB
      rw [Bool.or_eq_true]
      left
      rw [List.all_eq_true]
      intro d hd
      simp only [List.map_map, List.mem_map, Function.comp_apply] at hd
      obtain ⟨a, ha, rfl⟩ := hd
      obtain ⟨y, ys, e⟩ := h2 a ha
      rw [e, toPy, toPys]
      rfl
    · rw [List.all_eq_true]
      intro d hd
      obtain ⟨a, ha, rfl⟩ := List.mem_map.mp hd
      exact h3 a ha
  obtain ⟨zs, e1, p, s⟩ := sortL_spec hs
  obtain ⟨us, rfl, p2⟩ := perm_map p
  rw [List.pairwise_map] at s
  exact ⟨us, e1, p2, s⟩
/-! ### slices, chains, comprehensions that choose -/
theorem e_moN (L : Ls) : moNone L = some (none, L) := rfl
theorem e_moS (m : ME) (L : Ls) : moSome m L = (m L).bind fun p => match p.1 with | .d (.int i) => some (some i, p.2) | _ => none := by
  unfold moSome
  cases m L with
  | none => rfl
  | some p => obtain ⟨c, L1⟩ := p; cases c <;> first | rfl | (rename_i x; cases x <;> rfl)
theorem e_sl (g : MG) (ml mh : MO) (L : Ls) : mSl g ml mh L = (g L).bind fun p => (ml p.2).bind fun q => (mh q.2).bind fun r => (contA r.2 p.1).bind fun c => (slC c q.1 r.1).bind fun c' => some (c', r.2) := by
  unfold mSl
  cases g L with
  | none => rfl
  | some p =>
    obtain ⟨a, L1⟩ := p
    show (match ml L1 with | some (lo, L2) => _ | none => none) = (ml L1).bind _
    cases ml L1 with
    | none => rfl
    | some q =>
      obtain ⟨lo, L2⟩ := q
      show (match mh L2 with | some (hi, L3) => _ | none => none) = (mh L2).bind _
      cases mh L2 with
      | none => rfl
      | some r =>
        obtain ⟨hi, L3⟩ := r
        show (match contA L3 a with | some c => _ | none => none) = (contA L3 a).bind _
        cases contA L3 a with
        | none => rfl
        | some c =>
          show (match slC c lo hi with | some c' => _ | none => none) = (slC c lo hi).bind _
          cases slC c lo hi <;> rfl
theorem e_slL (xs : List D) (lo hi : Option Int) : slC (.l xs) lo hi = some (.l (cutD xs lo hi)) := rfl
theorem e_slLd (xs : List D) (lo hi : Option Int) : slC (.d (.lst xs)) lo hi = some (.l (cutD xs lo hi)) := rfl
theorem e_slT (xs : List D) (lo hi : Option Int) : slC (.d (.tup xs)) lo hi = some (.d (.tup (cutD xs lo hi))) := rfl
theorem cut_from1 (x : D) (xs : List D) : cutD (x :: xs) (some 1) none = xs := by
  unfold cutD
  have : HT.sIx (x :: xs).length 0 (some 1) = 1 := by
    have := HT.sIx_nat (x :: xs).length 0 1
    rw [show ((1 : Nat) : Int) = 1 from rfl] at this
    rw [this]
    simp
  rw [this, HT.sIx_none]
  simp
theorem cut_last (xs : List D) (x : D) : cutD (xs ++ [x]) none (some (-1)) = xs := by
  unfold cutD
  have : HT.sIx (xs ++ [x]).length (xs ++ [x]).length (some (-1)) = xs.length := by
    simp [HT.sIx]
    omega
  rw [this, HT.sIx_none]
  simp
theorem e_chain (f f' : List C → Option C) (ga gb gc : MG) (L : Ls) : mChain f f' ga gb gc L = (ga L).bind fun p => (gb p.2).bind fun q => (conts q.2 [p.1, q.1]).bind fun cs => (f cs).bind fun c => match c with
    | .d (.bl true) => (gc q.2).bind fun r => (conts r.2 [q.1, r.1]).bind fun cs' => (f' cs').bind fun c => some (c, r.2)
    | .d (.bl false) => some (.d (.bl false), q.2)
    | _ => none := by
  unfold mChain
  cases ga L with
  | none => rfl
  | some p =>
    obtain ⟨a, L1⟩ := p
    show (match gb L1 with | some (bv, L2) => _ | none => none) = (gb L1).bind _
    cases gb L1 with
    | none => rfl
    | some q =>
      obtain ⟨b, L2⟩ := q
      show (match conts L2 [a, b] with | some cs => _ | none => none) = (conts L2 [a, b]).bind _
      cases conts L2 [a, b] with
      | none => rfl
      | some cs =>
        show (match f cs with | some (.d (.bl true)) => _ | some (.d (.bl false)) => _ | _ => none) = (f cs).bind _
        cases f cs with
        | none => rfl
        | some c =>
          cases c with
          | d x =>
            cases x with
            | bl t =>
              cases t with
              | false => rfl
              | true =>
                show (match gc L2 with | some (cv, L3) => _ | none => none) = (gc L2).bind _
                cases gc L2 with
                | none => rfl
                | some r =>
                  obtain ⟨c2, L3⟩ := r
                  show (match conts L3 [b, c2] with | some cs' => _ | none => none) = (conts L3 [b, c2]).bind _
                  cases conts L3 [b, c2] with
                  | none => rfl
                  | some cs' =>
                    show (match f' cs' with | some c => _ | none => none) = (f' cs').bind _
                    cases f' cs' <;> rfl
            | _ => rfl
          | _ => rfl
theorem lc_sel {α : Type} {j : Nat} {tst : MT} {elt : ME} {L : Ls} (g f : α → D) (p : α → Bool) (hj : L[j]? = some none) : ∀ (xs : List α) (acc : List D),
    (∀ a ∈ xs, tst (L.set j (some (.d (g a)))) = some (p a, L.set j (some (.d (g a)))) ∧ (p a = true → ∃ c, elt (L.set j (some (.d (g a)))) = some (c, L.set j (some (.d (g a)))) ∧ frz c = f a)) →
    lcM [j] (gSet j) tst elt (xs.map g) acc L = some (acc ++ (xs.filter p).map f, L)
  | [], acc, _ => by simp [lcM]
  | a :: xs, acc, h => by
    have hl : j < L.length := (List.getElem?_eq_some_iff.mp hj).1
    have ih := fun acc => lc_sel g f p hj xs acc fun b hb => h b (List.mem_cons_of_mem _ hb)
    have hw : wipeL (L.set j (some (.d (g a)))) [j] = L := by
      show (L.set j (some (.d (g a)))).set j none = L
      rw [List.set_set]
      apply List.ext_getElem?
      intro i
      by_cases q : j = i
      · subst q
        rw [List.getElem?_set_self hl, hj]
      · rw [List.getElem?_set_ne q]
    obtain ⟨h1, h2⟩ := h a (List.mem_cons_self ..)
    have es : gSet j (g a) L = some (L.set j (some (.d (g a)))) := by rw [e_gset, if_pos hl]
    rw [List.map_cons]
    unfold lcM
    simp only [es, h1]
    cases e : p a with
    | false => simp only [hw, ih, List.filter_cons, e]; simp
    | true =>
      obtain ⟨c, e1, e2⟩ := h2 e
      simp only [e1, hw, ih, e2, List.filter_cons, e]
      simp
theorem neq_nil {xs : List D} (h : okD (.lst xs) = true) : neA [.l xs, .l []] = some (.d (.bl (decide (xs ≠ [])))) := by
  have a1 : neSC [.l xs, .l []] = none := rfl
  have h0 : okD (.lst []) = true := by decide
  have e : PyData.eqv (toPy (.lst xs)) (toPy (.lst [])) = decide (xs = []) := by
    cases xs with
    | nil => decide
    | cons x r => simp [toPy, toPys, PyData.eqv, PyData.eqvAll]
  simp only [neA, orC, a1, neC, eqB, frz, h, h0, Bool.and_self, if_true, Option.map_some, e]
  congr 3
  simp
/-! ### the hung tree, its splits, doubled lengths, distances -/
theorem hung_ok {n : Nat} {xs : List D} (p : PotL n xs) (P : PySem.Str → Prop) (ws : List PySem.Str) (hP : ∀ w ∈ ws, P w) (nd : ws.Nodup) (h1 : 2 ≤ ws.length) (h2 : ws.length ≤ 26) (hn : n < 1000000000) :
    ∃ us xs', m_law_hung [.l xs, .d (.tup (ws.map .str))] = some (.d (.tup us), [.l xs', .d (.tup (ws.map .str))]) ∧ Fo P (ws.length - 1) ws.length [.tup us] ∧ PotL (n + 1 + 40 * ws.length) xs' := by
  match ws, h1 with
  | w0 :: rest, h1 =>
    rw [List.nodup_cons] at nd
    simp only [List.length_cons] at h1 h2
    obtain ⟨d, xs1, e1, d1, d2, p1⟩ := drawB (many := 3) p (by omega) (by decide) (by decide)
    have hsz : ∃ most : Int, ixA [.l [.int 2, .int 2, .int 4], .d (.int d)] = some (.d (.int most)) ∧ 2 ≤ most ∧ most ≤ 100 := by
      obtain ⟨x, hx, e⟩ := ix_mem (xs := [.int 2, .int 2, .int 4]) d1 (by simpa using d2)
      simp only [List.mem_cons, List.not_mem_nil, or_false] at hx
      rcases hx with rfl | rfl | rfl <;> exact ⟨_, e, by decide, by decide⟩
    obtain ⟨most, e2, s1, s2⟩ := hsz
    obtain ⟨t, xs2, e3, f, p2⟩ := tree_ok p1 P rest (fun w hw => hP w (List.mem_cons_of_mem _ hw)) nd.2 (by omega) (by omega) (by omega) most s1 s2
    refine ⟨[.str w0, t], xs2, ?_, .node (by simp) (Fo.leaf (hP w0 (by simp)) f (Nat.le_refl _)) (.nil 0 0) ?_ ?_, p2.mono ?_⟩
    · have sl : cutD (D.str w0 :: rest.map .str) (some 1) none = rest.map .str := cut_from1 _ _
      have ne : ¬ ((rest.length : Int) + 1 = 1) := by omega
      simp -implicitDefEqProofs [m_law_hung, e_seq, bS_nx, bS_rt, bS_bk, bS_ct, bS_no, e_skip, e_if, e_set, e_ret, e_retN, e_expr, e_setIx, e_op, e_nil, e_cons, e_val, e_frz, e_arg, gA_d, gA_l, gA_k, gA_t, gA_m, e_name, nA_d, nA_l, nA_k, nA_t, nA_m, e_move, vA_s, e_c, e_conts0, e_conts1, e_contV, e_contR, e_tst, e_tnot, e_tand, e_tor, e_ifE, e_call, e_refs0, e_refsV, e_refsR, e_sr0, e_srV, e_srR, e_ixA, e_ixL, e_ixT, e_at0, e_at1, e_at2, e_at3, e_addI, e_subI, e_gtI, e_ltI, e_leI, e_intI, e_intB, e_setM, e_putL, e_ix30, e_ix31, e_ix32, e_for, e_seqI, e_asl, e_ast, e_gset, e_yes, wipeL, unwipe, e_frzd, e_frzl, e_frzm, e_frzk, e_frzt, e_max2, e_min2, e_datas0, e_datas1, e_dispL, e_dispT, e_outs0, e_outsD, e_outsL, e_outsT, e_outsK, e_slotC, e_fn, fin_rt, fin_nx, e_eqAS, e_neAS, e_eqAI, e_neAI, e_eqAB, e_neAB, e_meth, e_methO, e_isLl, e_isLd, e_tuL, e_tuD, e_tuT, e_liL, e_liD, e_liT, e_lenT, e_lenD, e_lenO, e_sl, e_moN, e_moS, e_slT, sl, ne, e1, e2, e3]
    · simp only [List.length_cons]; omega
    · simp only [List.length_cons]; omega
    · simp only [List.length_cons]; omega
def allL (front : List (List PySem.Str)) (last : List PySem.Str) : List D := (front ++ [last]).map lotD
theorem allL_last (front : List (List PySem.Str)) (last : List PySem.Str) : atI (allL front last) (-1) = some (lotD last) := by
  unfold allL
  rw [List.map_append]
  exact atI_last _ _
theorem allL_cut (front : List (List PySem.Str)) (last : List PySem.Str) : cutD (allL front last) none (some (-1)) = front.map lotD := by
  unfold allL
  rw [List.map_append]
  exact cut_last _ _
theorem allL_len (front : List (List PySem.Str)) (last : List PySem.Str) : (allL front last).length = front.length + 1 := by simp [allL]
theorem allL_get (front : List (List PySem.Str)) (last : List PySem.Str) (i : Nat) : (allL front last)[i]? = ((front ++ [last])[i]?).map lotD := List.getElem?_map ..
structure TreeL (P : PySem.Str → Prop) (m : Nat) (t : D) (front : List (List PySem.Str)) (last : List PySem.Str) (w0 : PySem.Str) (wr : List PySem.Str) : Prop where
  eq : m_law_lots 12 [.d t] = some (.l (allL front last), [.d t])
  ok : LOk P m m (front ++ [last])
  fr : LOk P (m - 1) m front
  la : last = w0 :: wr
theorem treeL (P : PySem.Str → Prop) (hP : ∀ w, P w → WOk w) (us : List D) (k m : Nat) (h : Fo P k m [.tup us]) (hk : k ≤ 11) (hm : m ≤ 26) (hkm : k ≤ m) : ∃ front last w0 wr, TreeL P m (.tup us) front last w0 wr ∧ LOk P (k - 1) m front := by
  obtain ⟨front, last, e, lk, fr⟩ := lots_ok P (fun w hw => (hP w hw).okD) 12 (.tup us) k m h (by omega) (by omega)
  have := lk.ne last (by simp)
  cases last with
  | nil => exact absurd rfl this
  | cons w0 wr => exact ⟨front, w0 :: wr, w0, wr, ⟨e, lk.mono (by omega) (Nat.le_refl _), (fr us rfl).mono (by omega) (Nat.le_refl _), rfl⟩, fr us rfl⟩
theorem splits_ok {P : PySem.Str → Prop} {m : Nat} {t : D} {front : List (List PySem.Str)} {last : List PySem.Str} {w0 : PySem.Str} {wr : List PySem.Str} (hP : ∀ w, P w → WOk w) (T : TreeL P m t front last w0 wr) (hm : m ≤ 26) :
    ∃ qs : List (List PySem.Str), m_law_splits [.d t] = some (.l (qs.map lotD), [.d t]) ∧ qs.length ≤ 2 * m ∧ ∀ q ∈ qs, q ∈ front := by
  obtain ⟨eq, ok, fr, la⟩ := T
  let sel : List PySem.Str → Bool := fun l => match l with
    | w :: _ => decide (w ≠ w0)
    | [] => false
  have lc := lc_sel (j := 2) (tst := tstM (mOp neA (maCons (mVal (mOp ixA (maCons (gNameA 2) (maCons (mVal (mC (.int 0))) maNil)))) (maCons (mVal (mOp ixA (maCons (mVal (mOp ixA (maCons (gNameA 1) (maCons (mVal (mOp negC (maCons (mVal (mC (.int 1))) maNil))) maNil)))) (maCons (mVal (mC (.int 0))) maNil)))) maNil)))) (elt := mName 2) (L := [some (.d t), some (.l (allL front last)), none]) lotD lotD sel rfl front [] fun l hl => by
    cases l with
    | nil => exact absurd rfl (fr.ne _ hl)
    | cons w r =>
      have e1 : ixA [.l (allL front last), .d (.int (-1))] = some (.d (lotD (w0 :: wr))) := by
        rw [e_ixA, allL_last, la]
        rfl
      have e2 : ∀ (w : PySem.Str) r, ixA [.d (lotD (w :: r)), .d (.int 0)] = some (.d (.str w)) := fun w r => by simp -implicitDefEqProofs [e_seq, bS_nx, bS_rt, bS_bk, bS_ct, bS_no, e_skip, e_if, e_set, e_ret, e_retN, e_expr, e_setIx, e_op, e_nil, e_cons, e_val, e_frz, e_arg, gA_d, gA_l, gA_k, gA_t, gA_m, e_name, nA_d, nA_l, nA_k, nA_t, nA_m, e_move, vA_s, e_c, e_conts0, e_conts1, e_contV, e_contR, e_tst, e_tnot, e_tand, e_tor, e_ifE, e_call, e_refs0, e_refsV, e_refsR, e_sr0, e_srV, e_srR, e_ixA, e_ixL, e_ixT, e_at0, e_at1, e_at2, e_at3, e_addI, e_subI, e_gtI, e_ltI, e_leI, e_intI, e_intB, e_setM, e_putL, e_ix30, e_ix31, e_ix32, e_for, e_seqI, e_asl, e_ast, e_gset, e_yes, wipeL, unwipe, e_frzd, e_frzl, e_frzm, e_frzk, e_frzt, e_max2, e_min2, e_datas0, e_datas1, e_dispL, e_dispT, e_outs0, e_outsD, e_outsL, e_outsT, e_outsK, e_slotC, e_fn, fin_rt, fin_nx, e_eqAS, e_neAS, e_eqAI, e_neAI, e_eqAB, e_neAB, e_meth, e_methO, e_isLl, e_isLd, e_tuL, e_tuD, e_tuT, e_liL, e_liD, e_liT, e_lenT, e_lenD, e_lenO, lotD]
      exact ⟨by simp -implicitDefEqProofs [e_seq, bS_nx, bS_rt, bS_bk, bS_ct, bS_no, e_skip, e_if, e_set, e_ret, e_retN, e_expr, e_setIx, e_op, e_nil, e_cons, e_val, e_frz, e_arg, gA_d, gA_l, gA_k, gA_t, gA_m, e_name, nA_d, nA_l, nA_k, nA_t, nA_m, e_move, vA_s, e_c, e_conts0, e_conts1, e_contV, e_contR, e_tst, e_tnot, e_tand, e_tor, e_ifE, e_call, e_refs0, e_refsV, e_refsR, e_sr0, e_srV, e_srR, e_ixL, e_ixT, e_at0, e_at1, e_at2, e_at3, e_addI, e_subI, e_gtI, e_ltI, e_leI, e_intI, e_intB, e_setM, e_putL, e_ix30, e_ix31, e_ix32, e_for, e_seqI, e_asl, e_ast, e_gset, e_yes, wipeL, unwipe, e_frzd, e_frzl, e_frzm, e_frzk, e_frzt, e_max2, e_min2, e_datas0, e_datas1, e_dispL, e_dispT, e_outs0, e_outsD, e_outsL, e_outsT, e_outsK, e_slotC, e_fn, fin_rt, fin_nx, e_eqAS, e_neAS, e_eqAI, e_neAI, e_eqAB, e_neAB, e_meth, e_methO, e_isLl, e_isLd, e_tuL, e_tuD, e_tuT, e_liL, e_liD, e_liT, e_lenT, e_lenD, e_lenO, e_negI, e1, e2, sel], fun _ => ⟨.d (lotD (w :: r)), by simp -implicitDefEqProofs [e_seq, bS_nx, bS_rt, bS_bk, bS_ct, bS_no, e_skip, e_if, e_set, e_ret, e_retN, e_expr, e_setIx, e_op, e_nil, e_cons, e_val, e_frz, e_arg, gA_d, gA_l, gA_k, gA_t, gA_m, e_name, nA_d, nA_l, nA_k, nA_t, nA_m, e_move, vA_s, e_c, e_conts0, e_conts1, e_contV, e_contR, e_tst, e_tnot, e_tand, e_tor, e_ifE, e_call, e_refs0, e_refsV, e_refsR, e_sr0, e_srV, e_srR, e_ixA, e_ixL, e_ixT, e_at0, e_at1, e_at2, e_at3, e_addI, e_subI, e_gtI, e_ltI, e_leI, e_intI, e_intB, e_setM, e_putL, e_ix30, e_ix31, e_ix32, e_for, e_seqI, e_asl, e_ast, e_gset, e_yes, wipeL, unwipe, e_frzd, e_frzl, e_frzm, e_frzk, e_frzt, e_max2, e_min2, e_datas0, e_datas1, e_dispL, e_dispT, e_outs0, e_outsD, e_outsL, e_outsT, e_outsK, e_slotC, e_fn, fin_rt, fin_nx, e_eqAS, e_neAS, e_eqAI, e_neAI, e_eqAB, e_neAB, e_meth, e_methO, e_isLl, e_isLd, e_tuL, e_tuD, e_tuT, e_liL, e_liD, e_liT, e_lenT, e_lenD, e_lenO], rfl⟩⟩
  rw [List.nil_append] at lc
  have hmem : ∀ q ∈ front.filter sel, q ∈ front := fun q hq => (List.mem_filter.mp hq).1
  obtain ⟨qs, e3, pm, _⟩ := sort_alike lotD (front.filter sel) (fun a _ b _ => alike_lot a b) (fun a ha => by
    have := fr.ne a (hmem a ha)
    cases a with
    | nil => exact absurd rfl this
    | cons x r => exact ⟨_, _, rfl⟩) (fun a ha => (nice_lot hP (fr.ok a (hmem a ha)).2).okD (by decide))
  have fl := fr.len
  refine ⟨qs, ?_, ?_, fun q hq => hmem q (pm.mem_iff.mp hq)⟩
  · have sl : cutD (allL front last) none (some (-1)) = front.map lotD := allL_cut _ _
    have ln : front.length < sizeLine := Nat.lt_of_le_of_lt (show front.length ≤ 100 by omega) (by decide)
    simp -implicitDefEqProofs [m_law_splits, e_seq, bS_nx, bS_rt, bS_bk, bS_ct, bS_no, e_skip, e_if, e_set, e_ret, e_retN, e_expr, e_setIx, e_op, e_nil, e_cons, e_val, e_frz, e_arg, gA_d, gA_l, gA_k, gA_t, gA_m, e_name, nA_d, nA_l, nA_k, nA_t, nA_m, e_move, vA_s, e_c, e_conts0, e_conts1, e_contV, e_contR, e_tst, e_tnot, e_tand, e_tor, e_ifE, e_call, e_refs0, e_refsV, e_refsR, e_sr0, e_srV, e_srR, e_ixA, e_ixL, e_ixT, e_at0, e_at1, e_at2, e_at3, e_addI, e_subI, e_gtI, e_ltI, e_leI, e_intI, e_intB, e_setM, e_putL, e_ix30, e_ix31, e_ix32, e_for, e_seqI, e_asl, e_ast, e_gset, e_yes, wipeL, unwipe, e_frzd, e_frzl, e_frzm, e_frzk, e_frzt, e_max2, e_min2, e_datas0, e_datas1, e_dispL, e_dispT, e_outs0, e_outsD, e_outsL, e_outsT, e_outsK, e_slotC, e_fn, fin_rt, fin_nx, e_eqAS, e_neAS, e_eqAI, e_neAI, e_eqAB, e_neAB, e_meth, e_methO, e_isLl, e_isLd, e_tuL, e_tuD, e_tuT, e_liL, e_liD, e_liT, e_lenT, e_lenD, e_lenO, eq, e_sl, e_moN, e_moS, e_slL, e_negI, sl, e_lc, lc, ln, e_sortL _ _ e3]
  · have := pm.length_eq
    have := List.length_filter_le sel front
    omega
def pairD (l : List PySem.Str) : D := .tup [.int l.length, lotD l]
def DV (i : Int) : Prop := 0 ≤ i ∧ i ≤ 160000001
theorem DT.get {V : Int → Prop} {ks : List (List Key)} {vs : List D} (h : DT V ks vs) {l : List PySem.Str} (hl : keyOf l ∈ ks) : ∃ i, V i ∧ ixA [.t ks vs, .d (lotD l)] = some (.d (.int i)) := by
  obtain ⟨i, hi, e⟩ := h.val _ hl
  exact ⟨i, hi, by rw [e_ixT', e]; rfl⟩
theorem doubled_ok {n : Nat} {xs : List D} (p : PotL n xs) {P : PySem.Str → Prop} {m : Nat} {t : D} {front : List (List PySem.Str)} {last : List PySem.Str} {w0 : PySem.Str} {wr : List PySem.Str} (hP : ∀ w, P w → WOk w) (T : TreeL P m t front last w0 wr) (hm : m ≤ 26) (hn : n < 1000000000) :
    ∃ ks vs xs', m_law_doubled [.l xs, .d t] = some (.t ks vs, [.l xs', .d t]) ∧ DT DV ks vs ∧ (∀ k ∈ ks, ∃ l ∈ front, k = keyOf l) ∧ PotL (n + 1 + 4 * m + 1) xs' := by
  obtain ⟨qs, es, ql, qf⟩ := splits_ok hP T hm
  obtain ⟨eq, ok, fr, la⟩ := T
  have fl := ok.len
  rw [List.length_append] at fl
  simp only [List.length_singleton] at fl
  obtain ⟨d, xs1, e1, d1, d2, p1⟩ := drawB (many := 4) p (by omega) (by decide) (by decide)
  have hsz : ∃ most : Int, ixA [.l [.int 1, .int 3, .int 50, .int 80000000], .d (.int d)] = some (.d (.int most)) ∧ 1 ≤ most ∧ most ≤ 80000000 := by
    obtain ⟨x, hx, e⟩ := ix_mem (xs := [.int 1, .int 3, .int 50, .int 80000000]) d1 (by simpa using d2)
    simp only [List.mem_cons, List.not_mem_nil, or_false] at hx
    rcases hx with rfl | rfl | rfl | rfl <;> exact ⟨_, e, by decide, by decide⟩
  obtain ⟨most, e2, s1, s2⟩ := hsz
  have m8 : mulC [.d (.int 8), .d (.int 10000000)] = some (.d (.int 80000000)) := (e_mulI (.inl (by decide))).trans rfl
  obtain ⟨L', e3, xs2, ks, vs, y6, rfl, p2, dt, kl, kin⟩ := for_inv (mt := gSet 6) (body := b_law_doubled_1) (fun i L => ∃ xs2 ks vs y6, L = [some (.l xs2), some (.d t), some (.d (.lst (allL front last))), some (.d (.int most)), some (.t ks vs), some (.t [] []), y6, none, none, none, none] ∧ PotL (n + 1 + i) xs2 ∧ DT (fun i => 0 ≤ i ∧ i ≤ 1) ks vs ∧ ks.length ≤ i ∧ ∀ l ∈ (front ++ [last]).take i, keyOf l ∈ ks) (allL front last)
    (L := [some (.l xs1), some (.d t), some (.d (.lst (allL front last))), some (.d (.int most)), some (.t [] []), some (.t [] []), none, none, none, none, none]) ⟨xs1, [], [], none, rfl, p1, DT.nil _, by simp, by simp⟩ fun i x L hx ⟨xs2, ks, vs, y6, hL, p2, dt, kl, kin⟩ => by
      subst hL
      rw [allL_get] at hx
      obtain ⟨l, hl, rfl⟩ := Option.map_eq_some_iff.mp hx
      have hi := (List.getElem?_eq_some_iff.mp hl).1
      rw [List.length_append] at hi
      simp only [List.length_singleton] at hi
      have lenE : lenC [.d (lotD l)] = some (.d (.int l.length)) := by rw [lotD, e_lenT, List.length_map]
      have tk : (front ++ [last]).take (i + 1) = (front ++ [last]).take i ++ [l] := by rw [List.take_add_one, hl]; rfl
      have kin' : ∀ q ∈ (front ++ [last]).take (i + 1), keyOf q ∈ putKs ks (keyOf l) := fun q hq => by
        rw [tk] at hq
        rcases List.mem_append.mp hq with z | z
        · exact (put_mem ks _ _).mpr (.inr (kin q z))
        · rw [List.mem_singleton.mp z]; exact (put_mem ks _ _).mpr (.inl rfl)
      have kl' := put_le ks (keyOf l)
      by_cases h1 : (l.length : Int) = 1
      · refine ⟨_, _, rfl, ?_, xs2, _, _, some (.d (lotD l)), rfl, p2.mono (by omega), dt.put (keyOf l) (i := 0) (by decide), by omega, kin'⟩
        simp -implicitDefEqProofs [b_law_doubled_1, e_seq, bS_nx, bS_rt, bS_bk, bS_ct, bS_no, e_skip, e_if, e_set, e_ret, e_retN, e_expr, e_setIx, e_op, e_nil, e_cons, e_val, e_frz, e_arg, gA_d, gA_l, gA_k, gA_t, gA_m, e_name, nA_d, nA_l, nA_k, nA_t, nA_m, e_move, vA_s, e_c, e_conts0, e_conts1, e_contV, e_contR, e_tst, e_tnot, e_tand, e_tor, e_ifE, e_call, e_refs0, e_refsV, e_refsR, e_sr0, e_srV, e_srR, e_ixA, e_ixL, e_ixT, e_at0, e_at1, e_at2, e_at3, e_addI, e_subI, e_gtI, e_ltI, e_leI, e_intI, e_intB, e_setM, e_putL, e_ix30, e_ix31, e_ix32, e_for, e_seqI, e_asl, e_ast, e_gset, e_yes, wipeL, unwipe, e_frzd, e_frzl, e_frzm, e_frzk, e_frzt, e_max2, e_min2, e_datas0, e_datas1, e_dispL, e_dispT, e_outs0, e_outsD, e_outsL, e_outsT, e_outsK, e_slotC, e_fn, fin_rt, fin_nx, e_eqAS, e_neAS, e_eqAI, e_neAI, e_eqAB, e_neAB, e_meth, e_methO, e_isLl, e_isLd, e_tuL, e_tuD, e_tuT, e_liL, e_liD, e_liT, e_lenT, e_lenD, e_lenO, lenE, h1, e_putT (show ks.length < 100000 by omega)]
      · obtain ⟨v, xs3, e4, v0, v1, p3⟩ := drawB (many := 2) p2 (by omega) (by decide) (by decide)
        refine ⟨_, _, rfl, ?_, xs3, _, _, some (.d (lotD l)), rfl, p3, dt.put (keyOf l) (i := v) ⟨v0, by omega⟩, by omega, kin'⟩
        simp -implicitDefEqProofs [b_law_doubled_1, e_seq, bS_nx, bS_rt, bS_bk, bS_ct, bS_no, e_skip, e_if, e_set, e_ret, e_retN, e_expr, e_setIx, e_op, e_nil, e_cons, e_val, e_frz, e_arg, gA_d, gA_l, gA_k, gA_t, gA_m, e_name, nA_d, nA_l, nA_k, nA_t, nA_m, e_move, vA_s, e_c, e_conts0, e_conts1, e_contV, e_contR, e_tst, e_tnot, e_tand, e_tor, e_ifE, e_call, e_refs0, e_refsV, e_refsR, e_sr0, e_srV, e_srR, e_ixA, e_ixL, e_ixT, e_at0, e_at1, e_at2, e_at3, e_addI, e_subI, e_gtI, e_ltI, e_leI, e_intI, e_intB, e_setM, e_putL, e_ix30, e_ix31, e_ix32, e_for, e_seqI, e_asl, e_ast, e_gset, e_yes, wipeL, unwipe, e_frzd, e_frzl, e_frzm, e_frzk, e_frzt, e_max2, e_min2, e_datas0, e_datas1, e_dispL, e_dispT, e_outs0, e_outsD, e_outsL, e_outsT, e_outsK, e_slotC, e_fn, fin_rt, fin_nx, e_eqAS, e_neAS, e_eqAI, e_neAI, e_eqAB, e_neAB, e_meth, e_methO, e_isLl, e_isLd, e_tuL, e_tuD, e_tuT, e_liL, e_liD, e_liT, e_lenT, e_lenD, e_lenO, lenE, h1, e4, e_putT (show ks.length < 100000 by omega)]
  rw [allL_len] at p2 kl
  have kin : ∀ l ∈ front ++ [last], keyOf l ∈ ks := by
    intro l hl
    refine kin l ?_
    rw [List.take_of_length_le (by simp [allL])]
    exact hl
  obtain ⟨L', e5, xs4, ks2, vs2, z6, z7, z8, z9, rfl, p4, dt2, kl2, kin2⟩ := for_inv (mt := gSet 6) (body := b_law_doubled_2) (fun i L => ∃ xs2 ks2 vs2 y6 y7 y8 y9, L = [some (.l xs2), some (.d t), some (.d (.lst (allL front last))), some (.d (.int most)), some (.t ks vs), some (.t ks2 vs2), y6, y7, y8, y9, none] ∧ PotL (n + 1 + (front.length + 1) + i) xs2 ∧ DT DV ks2 vs2 ∧ ks2.length ≤ i ∧ ∀ k ∈ ks2, ∃ l ∈ front, k = keyOf l) (qs.map lotD)
    (L := [some (.l xs2), some (.d t), some (.d (.lst (allL front last))), some (.d (.int most)), some (.t ks vs), some (.t [] []), y6, none, none, none, none]) ⟨xs2, [], [], y6, none, none, none, rfl, p2, DT.nil _, by simp, by simp⟩ fun i x L hx ⟨xs2, ks2, vs2, y6, y7, y8, y9, hL, p2, dt2, kl2, kin2⟩ => by
      subst hL
      rw [List.getElem?_map] at hx
      obtain ⟨l, hl, rfl⟩ := Option.map_eq_some_iff.mp hx
      have hi := (List.getElem?_eq_some_iff.mp hl).1
      have hlf := qf l (List.mem_of_getElem? hl)
      have lenE : ∀ l : List PySem.Str, lenC [.d (lotD l)] = some (.d (.int l.length)) := fun l => by rw [lotD, e_lenT, List.length_map]
      match l, fr.ne l hlf, hlf with
      | x0 :: lr, _, hlf =>
        have ix0 : ixA [.d (lotD (x0 :: lr)), .d (.int 0)] = some (.d (.str x0)) := by simp -implicitDefEqProofs [e_seq, bS_nx, bS_rt, bS_bk, bS_ct, bS_no, e_skip, e_if, e_set, e_ret, e_retN, e_expr, e_setIx, e_op, e_nil, e_cons, e_val, e_frz, e_arg, gA_d, gA_l, gA_k, gA_t, gA_m, e_name, nA_d, nA_l, nA_k, nA_t, nA_m, e_move, vA_s, e_c, e_conts0, e_conts1, e_contV, e_contR, e_tst, e_tnot, e_tand, e_tor, e_ifE, e_call, e_refs0, e_refsV, e_refsR, e_sr0, e_srV, e_srR, e_ixA, e_ixL, e_ixT, e_at0, e_at1, e_at2, e_at3, e_addI, e_subI, e_gtI, e_ltI, e_leI, e_intI, e_intB, e_setM, e_putL, e_ix30, e_ix31, e_ix32, e_for, e_seqI, e_asl, e_ast, e_gset, e_yes, wipeL, unwipe, e_frzd, e_frzl, e_frzm, e_frzk, e_frzt, e_max2, e_min2, e_datas0, e_datas1, e_dispL, e_dispT, e_outs0, e_outsD, e_outsL, e_outsT, e_outsK, e_slotC, e_fn, fin_rt, fin_nx, e_eqAS, e_neAS, e_eqAI, e_neAI, e_eqAB, e_neAB, e_meth, e_methO, e_isLl, e_isLd, e_tuL, e_tuD, e_tuT, e_liL, e_liD, e_liT, e_lenT, e_lenD, e_lenO, lotD]
        have inE : ∀ q : List PySem.Str, inA [.d (.str x0), .d (lotD q)] = some (.d (.bl (decide (x0 ∈ q)))) := fun q => e_inStrs x0 q
        let sel : List PySem.Str → Bool := fun q => decide ((x0 :: lr).length < q.length) && decide (x0 ∈ q)
        have lc := lc_sel (j := 10) (tst := tAndM (tstM (mOp gtC (maCons (mVal (mOp lenC (maCons (gNameA 10) maNil))) (maCons (mVal (mOp lenC (maCons (gNameA 6) maNil))) maNil)))) (tstM (mOp inA (maCons (mVal (mOp ixA (maCons (gNameA 6) (maCons (mVal (mC (.int 0))) maNil)))) (maCons (gNameA 10) maNil))))) (elt := mOp dispT (maCons (mVal (mOp lenC (maCons (gNameA 10) maNil))) (maCons (mVal (mName 10)) maNil))) (L := [some (.l xs2), some (.d t), some (.d (.lst (allL front last))), some (.d (.int most)), some (.t ks vs), some (.t ks2 vs2), some (.d (lotD (x0 :: lr))), y7, y8, y9, none]) lotD pairD sel rfl front [] fun q hq => by
          refine ⟨?_, fun _ => ⟨.d (pairD q), by simp -implicitDefEqProofs [e_seq, bS_nx, bS_rt, bS_bk, bS_ct, bS_no, e_skip, e_if, e_set, e_ret, e_retN, e_expr, e_setIx, e_op, e_nil, e_cons, e_val, e_frz, e_arg, gA_d, gA_l, gA_k, gA_t, gA_m, e_name, nA_d, nA_l, nA_k, nA_t, nA_m, e_move, vA_s, e_c, e_conts0, e_conts1, e_contV, e_contR, e_tst, e_tnot, e_tand, e_tor, e_ifE, e_call, e_refs0, e_refsV, e_refsR, e_sr0, e_srV, e_srR, e_ixA, e_ixL, e_ixT, e_at0, e_at1, e_at2, e_at3, e_addI, e_subI, e_gtI, e_ltI, e_leI, e_intI, e_intB, e_setM, e_putL, e_ix30, e_ix31, e_ix32, e_for, e_seqI, e_asl, e_ast, e_gset, e_yes, wipeL, unwipe, e_frzd, e_frzl, e_frzm, e_frzk, e_frzt, e_max2, e_min2, e_datas0, e_datas1, e_dispL, e_dispT, e_outs0, e_outsD, e_outsL, e_outsT, e_outsK, e_slotC, e_fn, fin_rt, fin_nx, e_eqAS, e_neAS, e_eqAI, e_neAI, e_eqAB, e_neAB, e_meth, e_methO, e_isLl, e_isLd, e_tuL, e_tuD, e_tuT, e_liL, e_liD, e_liT, e_lenT, e_lenD, e_lenO, lenE, pairD], rfl⟩⟩
          by_cases c : (x0 :: lr).length < q.length
          · have c' : ((lr.length + 1 : Nat) : Int) < q.length := by simp only [List.length_cons] at c; omega
            have c'' : (lr.length : Int) + 1 < q.length := by omega
            have c3 : lr.length + 1 < q.length := by simpa using c
            simp -implicitDefEqProofs [e_seq, bS_nx, bS_rt, bS_bk, bS_ct, bS_no, e_skip, e_if, e_set, e_ret, e_retN, e_expr, e_setIx, e_op, e_nil, e_cons, e_val, e_frz, e_arg, gA_d, gA_l, gA_k, gA_t, gA_m, e_name, nA_d, nA_l, nA_k, nA_t, nA_m, e_move, vA_s, e_c, e_conts0, e_conts1, e_contV, e_contR, e_tst, e_tnot, e_tand, e_tor, e_ifE, e_call, e_refs0, e_refsV, e_refsR, e_sr0, e_srV, e_srR, e_ixA, e_ixL, e_at0, e_at1, e_at2, e_at3, e_addI, e_subI, e_gtI, e_ltI, e_leI, e_intI, e_intB, e_setM, e_putL, e_ix30, e_ix31, e_ix32, e_for, e_seqI, e_asl, e_ast, e_gset, e_yes, wipeL, unwipe, e_frzd, e_frzl, e_frzm, e_frzk, e_frzt, e_max2, e_min2, e_datas0, e_datas1, e_dispL, e_dispT, e_outs0, e_outsD, e_outsL, e_outsT, e_outsK, e_slotC, e_fn, fin_rt, fin_nx, e_eqAS, e_neAS, e_eqAI, e_neAI, e_eqAB, e_neAB, e_meth, e_methO, e_isLl, e_isLd, e_tuL, e_tuD, e_tuT, e_liL, e_liD, e_liT, e_lenT, e_lenD, e_lenO, lenE, ix0, inE, sel, c'', c3]
          · have c'' : ¬ ((lr.length : Int) + 1 < q.length) := by simp only [List.length_cons] at c; omega
            have c3 : ¬ (lr.length + 1 < q.length) := by simpa using c
            simp -implicitDefEqProofs [e_seq, bS_nx, bS_rt, bS_bk, bS_ct, bS_no, e_skip, e_if, e_set, e_ret, e_retN, e_expr, e_setIx, e_op, e_nil, e_cons, e_val, e_frz, e_arg, gA_d, gA_l, gA_k, gA_t, gA_m, e_name, nA_d, nA_l, nA_k, nA_t, nA_m, e_move, vA_s, e_c, e_conts0, e_conts1, e_contV, e_contR, e_tst, e_tnot, e_tand, e_tor, e_ifE, e_call, e_refs0, e_refsV, e_refsR, e_sr0, e_srV, e_srR, e_ixA, e_ixL, e_at0, e_at1, e_at2, e_at3, e_addI, e_subI, e_gtI, e_ltI, e_leI, e_intI, e_intB, e_setM, e_putL, e_ix30, e_ix31, e_ix32, e_for, e_seqI, e_asl, e_ast, e_gset, e_yes, wipeL, unwipe, e_frzd, e_frzl, e_frzm, e_frzk, e_frzt, e_max2, e_min2, e_datas0, e_datas1, e_dispL, e_dispT, e_outs0, e_outsD, e_outsL, e_outsT, e_outsK, e_slotC, e_fn, fin_rt, fin_nx, e_eqAS, e_neAS, e_eqAI, e_neAI, e_eqAB, e_neAB, e_meth, e_methO, e_isLl, e_isLd, e_tuL, e_tuD, e_tuT, e_liL, e_liD, e_liT, e_lenT, e_lenD, e_lenO, lenE, ix0, inE, sel, c'', c3]
        rw [List.nil_append] at lc
        have hmem : ∀ q ∈ front.filter sel, q ∈ front := fun q hq => (List.mem_filter.mp hq).1
        have np : ∀ q ∈ front, Nice 2 500 (pairD q) := fun q hq => by
          have hq2 := fr.ok q hq
          have := nice_tup (d := 1) (w := 234) (xs := [.int q.length, lotD q]) fun z hz => by
            simp only [List.mem_cons, List.not_mem_nil, or_false] at hz
            rcases hz with rfl | rfl
            · exact (nice_int (by omega) (by omega)).mono (by decide) (by decide)
            · exact (nice_lot hP hq2.2).mono (Nat.le_refl _) (by have := hq2.1; omega)
          exact this.mono (Nat.le_refl _) (by simp)
        obtain ⟨us, e6, pm, _⟩ := sort_alike pairD (front.filter sel) (fun a _ b _ => by
          show PySem.W.alike (.tuple [.int a.length, toPy (lotD a)]) (.tuple [.int b.length, toPy (lotD b)]) = true
          rw [PySem.W.alike, PySem.W.alikeAll, PySem.W.alikeAll, alike_lot]
          simp [PySem.W.alike, PySem.W.alikeAll]) (fun a ha => ⟨_, _, rfl⟩) (fun a ha => (np a (hmem a ha)).okD (by decide))
        have sl : cutD (allL front last) none (some (-1)) = front.map lotD := allL_cut _ _
        have ln : front.length < sizeLine := Nat.lt_of_le_of_lt (show front.length ≤ 100 by omega) (by decide)
        have nn : neA [.l (us.map pairD), .l []] = some (.d (.bl (decide (us ≠ [])))) := by
          rw [neq_nil ((nice_lst (d := 2) (w := 500) fun x hx => by
            obtain ⟨u, hu, rfl⟩ := List.mem_map.mp hx
            exact np u (hmem u (pm.mem_iff.mp hu))).okD (by decide))]
          simp
        obtain ⟨o1, ⟨o1a, o1b⟩, eo1⟩ := dt.get (kin (x0 :: lr) (List.mem_append.mpr (.inl hlf)))
        have lastE : ixA [.d (.lst (allL front last)), .d (.int (-1))] = some (.d (lotD last)) := by
          rw [e_ixL, allL_last]
          rfl
        have offE : ∃ off : Int, 0 ≤ off ∧ off < 2 ∧ mSet 8 (mOp modC (maCons (mVal (mOp intC (maCons (mVal (mOp addC (maCons (mVal (mOp ixA (maCons (gNameA 4) (maCons (gNameA 6) maNil)))) (maCons (mVal (mIfE (tstM (mOp neA (maCons (gNameA 7) (maCons (mVal (mOp dispL maNil)) maNil)))) (mOp ixA (maCons (gNameA 4) (maCons (mVal (mOp ixA (maCons (mVal (mOp ixA (maCons (gNameA 7) (maCons (mVal (mC (.int 0))) maNil)))) (maCons (mVal (mC (.int 1))) maNil)))) maNil))) (mC (.int 0)))) maNil)))) maNil))) (maCons (mVal (mC (.int 2))) maNil)))
            [some (.l xs2), some (.d t), some (.d (.lst (allL front last))), some (.d (.int most)), some (.t ks vs), some (.t ks2 vs2), some (.d (lotD (x0 :: lr))), some (.l (us.map pairD)), y8, y9, none] = some (.nx [some (.l xs2), some (.d t), some (.d (.lst (allL front last))), some (.d (.int most)), some (.t ks vs), some (.t ks2 vs2), some (.d (lotD (x0 :: lr))), some (.l (us.map pairD)), some (.d (.int off)), y9, none]) := by
          have m2 : ∀ z : Int, modC [.d (.int z), .d (.int 2)] = some (.d (.int (z % 2))) := fun z => e_modI (by decide)
          match us, pm, nn with
          | [], _, nn =>
            refine ⟨(o1 + 0) % 2, by omega, by omega, ?_⟩
            have nn' : neA [.l [], .l []] = some (.d (.bl false)) := nn
            simp -implicitDefEqProofs [e_seq, bS_nx, bS_rt, bS_bk, bS_ct, bS_no, e_skip, e_if, e_set, e_ret, e_retN, e_expr, e_setIx, e_op, e_nil, e_cons, e_val, e_frz, e_arg, gA_d, gA_l, gA_k, gA_t, gA_m, e_name, nA_d, nA_l, nA_k, nA_t, nA_m, e_move, vA_s, e_c, e_conts0, e_conts1, e_contV, e_contR, e_tst, e_tnot, e_tand, e_tor, e_ifE, e_call, e_refs0, e_refsV, e_refsR, e_sr0, e_srV, e_srR, e_ixA, e_ixL, e_ixT, e_at0, e_at1, e_at2, e_at3, e_addI, e_subI, e_gtI, e_ltI, e_leI, e_intI, e_intB, e_setM, e_putL, e_ix30, e_ix31, e_ix32, e_for, e_seqI, e_asl, e_ast, e_gset, e_yes, wipeL, unwipe, e_frzd, e_frzl, e_frzm, e_frzk, e_frzt, e_max2, e_min2, e_datas0, e_datas1, e_dispL, e_dispT, e_outs0, e_outsD, e_outsL, e_outsT, e_outsK, e_slotC, e_fn, fin_rt, fin_nx, e_eqAS, e_neAS, e_eqAI, e_neAI, e_eqAB, e_neAB, e_meth, e_methO, e_isLl, e_isLd, e_tuL, e_tuD, e_tuT, e_liL, e_liD, e_liT, e_lenT, e_lenD, e_lenO, eo1, nn', m2]
          | u :: ur, pm, nn =>
            have hu := hmem u (pm.mem_iff.mp (List.mem_cons_self ..))
            obtain ⟨o2, _, eo2⟩ := dt.get (kin u (List.mem_append.mpr (.inl hu)))
            have i0 : ixA [.l ((u :: ur).map pairD), .d (.int 0)] = some (.d (pairD u)) := by simp -implicitDefEqProofs [e_seq, bS_nx, bS_rt, bS_bk, bS_ct, bS_no, e_skip, e_if, e_set, e_ret, e_retN, e_expr, e_setIx, e_op, e_nil, e_cons, e_val, e_frz, e_arg, gA_d, gA_l, gA_k, gA_t, gA_m, e_name, nA_d, nA_l, nA_k, nA_t, nA_m, e_move, vA_s, e_c, e_conts0, e_conts1, e_contV, e_contR, e_tst, e_tnot, e_tand, e_tor, e_ifE, e_call, e_refs0, e_refsV, e_refsR, e_sr0, e_srV, e_srR, e_ixA, e_ixL, e_ixT, e_at0, e_at1, e_at2, e_at3, e_addI, e_subI, e_gtI, e_ltI, e_leI, e_intI, e_intB, e_setM, e_putL, e_ix30, e_ix31, e_ix32, e_for, e_seqI, e_asl, e_ast, e_gset, e_yes, wipeL, unwipe, e_frzd, e_frzl, e_frzm, e_frzk, e_frzt, e_max2, e_min2, e_datas0, e_datas1, e_dispL, e_dispT, e_outs0, e_outsD, e_outsL, e_outsT, e_outsK, e_slotC, e_fn, fin_rt, fin_nx, e_eqAS, e_neAS, e_eqAI, e_neAI, e_eqAB, e_neAB, e_meth, e_methO, e_isLl, e_isLd, e_tuL, e_tuD, e_tuT, e_liL, e_liD, e_liT, e_lenT, e_lenD, e_lenO]
            have i1 : ixA [.d (pairD u), .d (.int 1)] = some (.d (lotD u)) := by simp -implicitDefEqProofs [e_seq, bS_nx, bS_rt, bS_bk, bS_ct, bS_no, e_skip, e_if, e_set, e_ret, e_retN, e_expr, e_setIx, e_op, e_nil, e_cons, e_val, e_frz, e_arg, gA_d, gA_l, gA_k, gA_t, gA_m, e_name, nA_d, nA_l, nA_k, nA_t, nA_m, e_move, vA_s, e_c, e_conts0, e_conts1, e_contV, e_contR, e_tst, e_tnot, e_tand, e_tor, e_ifE, e_call, e_refs0, e_refsV, e_refsR, e_sr0, e_srV, e_srR, e_ixA, e_ixL, e_ixT, e_at0, e_at1, e_at2, e_at3, e_addI, e_subI, e_gtI, e_ltI, e_leI, e_intI, e_intB, e_setM, e_putL, e_ix30, e_ix31, e_ix32, e_for, e_seqI, e_asl, e_ast, e_gset, e_yes, wipeL, unwipe, e_frzd, e_frzl, e_frzm, e_frzk, e_frzt, e_max2, e_min2, e_datas0, e_datas1, e_dispL, e_dispT, e_outs0, e_outsD, e_outsL, e_outsT, e_outsK, e_slotC, e_fn, fin_rt, fin_nx, e_eqAS, e_neAS, e_eqAI, e_neAI, e_eqAB, e_neAB, e_meth, e_methO, e_isLl, e_isLd, e_tuL, e_tuD, e_tuT, e_liL, e_liD, e_liT, e_lenT, e_lenD, e_lenO, pairD]
            refine ⟨(o1 + o2) % 2, by omega, by omega, ?_⟩
            simp -implicitDefEqProofs [e_seq, bS_nx, bS_rt, bS_bk, bS_ct, bS_no, e_skip, e_if, e_set, e_ret, e_retN, e_expr, e_setIx, e_op, e_nil, e_cons, e_val, e_frz, e_arg, gA_d, gA_l, gA_k, gA_t, gA_m, e_name, nA_d, nA_l, nA_k, nA_t, nA_m, e_move, vA_s, e_c, e_conts0, e_conts1, e_contV, e_contR, e_tst, e_tnot, e_tand, e_tor, e_ifE, e_call, e_refs0, e_refsV, e_refsR, e_sr0, e_srV, e_srR, e_ixL, e_at0, e_at1, e_at2, e_at3, e_addI, e_subI, e_gtI, e_ltI, e_leI, e_intI, e_intB, e_setM, e_putL, e_ix30, e_ix31, e_ix32, e_for, e_seqI, e_asl, e_ast, e_gset, e_yes, wipeL, unwipe, e_frzd, e_frzl, e_frzm, e_frzk, e_frzt, e_max2, e_min2, e_datas0, e_datas1, e_dispL, e_dispT, e_outs0, e_outsD, e_outsL, e_outsT, e_outsK, e_slotC, e_fn, fin_rt, fin_nx, e_eqAS, e_neAS, e_eqAI, e_neAI, e_eqAB, e_neAB, e_meth, e_methO, e_isLl, e_isLd, e_tuL, e_tuD, e_tuT, e_liL, e_liD, e_liT, e_lenT, e_lenD, e_lenO, eo1, nn, m2, i0, i1, eo2, -List.map_cons]
        obtain ⟨off, of0, of1, eoff⟩ := offE
        have leastE : ∃ least : Int, 0 ≤ least ∧ least ≤ 1 ∧ (off = 1 → least = 0) ∧ mSet 9 (mIfE (tAndM (tstM (mChain ltC ltC (mVal (mC (.int 1))) (mVal (mOp lenC (maCons (gNameA 6) maNil))) (mVal (mOp subC (maCons (mVal (mOp lenC (maCons (mVal (mOp ixA (maCons (gNameA 2) (maCons (mVal (mOp negC (maCons (mVal (mC (.int 1))) maNil))) maNil)))) maNil))) (maCons (mVal (mC (.int 1))) maNil)))))) (tstM (mOp eqA (maCons (gNameA 8) (maCons (mVal (mC (.int 0))) maNil))))) (mC (.int 1)) (mC (.int 0)))
            [some (.l xs2), some (.d t), some (.d (.lst (allL front last))), some (.d (.int most)), some (.t ks vs), some (.t ks2 vs2), some (.d (lotD (x0 :: lr))), some (.l (us.map pairD)), some (.d (.int off)), y9, none] = some (.nx [some (.l xs2), some (.d t), some (.d (.lst (allL front last))), some (.d (.int most)), some (.t ks vs), some (.t ks2 vs2), some (.d (lotD (x0 :: lr))), some (.l (us.map pairD)), some (.d (.int off)), some (.d (.int least)), none]) := by
          by_cases c1 : (1 : Int) < lr.length + 1
          · by_cases c2 : (lr.length : Int) + 1 < last.length - 1
            · by_cases c3 : off = 0
              · exact ⟨1, by decide, by decide, fun z => by omega, by simp -implicitDefEqProofs [e_seq, bS_nx, bS_rt, bS_bk, bS_ct, bS_no, e_skip, e_if, e_set, e_ret, e_retN, e_expr, e_setIx, e_op, e_nil, e_cons, e_val, e_frz, e_arg, gA_d, gA_l, gA_k, gA_t, gA_m, e_name, nA_d, nA_l, nA_k, nA_t, nA_m, e_move, vA_s, e_c, e_conts0, e_conts1, e_contV, e_contR, e_tst, e_tnot, e_tand, e_tor, e_ifE, e_call, e_refs0, e_refsV, e_refsR, e_sr0, e_srV, e_srR, e_ixA, e_ixT, e_at0, e_at1, e_at2, e_at3, e_addI, e_subI, e_gtI, e_ltI, e_leI, e_intI, e_intB, e_setM, e_putL, e_ix30, e_ix31, e_ix32, e_for, e_seqI, e_asl, e_ast, e_gset, e_yes, wipeL, unwipe, e_frzd, e_frzl, e_frzm, e_frzk, e_frzt, e_max2, e_min2, e_datas0, e_datas1, e_dispL, e_dispT, e_outs0, e_outsD, e_outsL, e_outsT, e_outsK, e_slotC, e_fn, fin_rt, fin_nx, e_eqAS, e_neAS, e_eqAI, e_neAI, e_eqAB, e_neAB, e_meth, e_methO, e_isLl, e_isLd, e_tuL, e_tuD, e_tuT, e_liL, e_liD, e_liT, e_lenT, e_lenD, e_lenO, e_chain, lenE, e_negI, lastE, c1, c2, c3]⟩
              · exact ⟨0, by decide, by decide, fun z => rfl, by simp -implicitDefEqProofs [e_seq, bS_nx, bS_rt, bS_bk, bS_ct, bS_no, e_skip, e_if, e_set, e_ret, e_retN, e_expr, e_setIx, e_op, e_nil, e_cons, e_val, e_frz, e_arg, gA_d, gA_l, gA_k, gA_t, gA_m, e_name, nA_d, nA_l, nA_k, nA_t, nA_m, e_move, vA_s, e_c, e_conts0, e_conts1, e_contV, e_contR, e_tst, e_tnot, e_tand, e_tor, e_ifE, e_call, e_refs0, e_refsV, e_refsR, e_sr0, e_srV, e_srR, e_ixA, e_ixT, e_at0, e_at1, e_at2, e_at3, e_addI, e_subI, e_gtI, e_ltI, e_leI, e_intI, e_intB, e_setM, e_putL, e_ix30, e_ix31, e_ix32, e_for, e_seqI, e_asl, e_ast, e_gset, e_yes, wipeL, unwipe, e_frzd, e_frzl, e_frzm, e_frzk, e_frzt, e_max2, e_min2, e_datas0, e_datas1, e_dispL, e_dispT, e_outs0, e_outsD, e_outsL, e_outsT, e_outsK, e_slotC, e_fn, fin_rt, fin_nx, e_eqAS, e_neAS, e_eqAI, e_neAI, e_eqAB, e_neAB, e_meth, e_methO, e_isLl, e_isLd, e_tuL, e_tuD, e_tuT, e_liL, e_liD, e_liT, e_lenT, e_lenD, e_lenO, e_chain, lenE, e_negI, lastE, c1, c2, c3]⟩
            · exact ⟨0, by decide, by decide, fun z => rfl, by simp -implicitDefEqProofs [e_seq, bS_nx, bS_rt, bS_bk, bS_ct, bS_no, e_skip, e_if, e_set, e_ret, e_retN, e_expr, e_setIx, e_op, e_nil, e_cons, e_val, e_frz, e_arg, gA_d, gA_l, gA_k, gA_t, gA_m, e_name, nA_d, nA_l, nA_k, nA_t, nA_m, e_move, vA_s, e_c, e_conts0, e_conts1, e_contV, e_contR, e_tst, e_tnot, e_tand, e_tor, e_ifE, e_call, e_refs0, e_refsV, e_refsR, e_sr0, e_srV, e_srR, e_ixA, e_ixT, e_at0, e_at1, e_at2, e_at3, e_addI, e_subI, e_gtI, e_ltI, e_leI, e_intI, e_intB, e_setM, e_putL, e_ix30, e_ix31, e_ix32, e_for, e_seqI, e_asl, e_ast, e_gset, e_yes, wipeL, unwipe, e_frzd, e_frzl, e_frzm, e_frzk, e_frzt, e_max2, e_min2, e_datas0, e_datas1, e_dispL, e_dispT, e_outs0, e_outsD, e_outsL, e_outsT, e_outsK, e_slotC, e_fn, fin_rt, fin_nx, e_eqAS, e_neAS, e_eqAI, e_neAI, e_eqAB, e_neAB, e_meth, e_methO, e_isLl, e_isLd, e_tuL, e_tuD, e_tuT, e_liL, e_liD, e_liT, e_lenT, e_lenD, e_lenO, e_chain, lenE, e_negI, lastE, c1, c2]⟩
          · exact ⟨0, by decide, by decide, fun z => rfl, by simp -implicitDefEqProofs [e_seq, bS_nx, bS_rt, bS_bk, bS_ct, bS_no, e_skip, e_if, e_set, e_ret, e_retN, e_expr, e_setIx, e_op, e_nil, e_cons, e_val, e_frz, e_arg, gA_d, gA_l, gA_k, gA_t, gA_m, e_name, nA_d, nA_l, nA_k, nA_t, nA_m, e_move, vA_s, e_c, e_conts0, e_conts1, e_contV, e_contR, e_tst, e_tnot, e_tand, e_tor, e_ifE, e_call, e_refs0, e_refsV, e_refsR, e_sr0, e_srV, e_srR, e_ixA, e_ixT, e_at0, e_at1, e_at2, e_at3, e_addI, e_subI, e_gtI, e_ltI, e_leI, e_intI, e_intB, e_setM, e_putL, e_ix30, e_ix31, e_ix32, e_for, e_seqI, e_asl, e_ast, e_gset, e_yes, wipeL, unwipe, e_frzd, e_frzl, e_frzm, e_frzk, e_frzt, e_max2, e_min2, e_datas0, e_datas1, e_dispL, e_dispT, e_outs0, e_outsD, e_outsL, e_outsT, e_outsK, e_slotC, e_fn, fin_rt, fin_nx, e_eqAS, e_neAS, e_eqAI, e_neAI, e_eqAB, e_neAB, e_meth, e_methO, e_isLl, e_isLd, e_tuL, e_tuD, e_tuT, e_liL, e_liD, e_liT, e_lenT, e_lenD, e_lenO, e_chain, lenE, c1]⟩
        obtain ⟨least, le0, le1, le2, eleast⟩ := leastE
        obtain ⟨v, xs3, e7, v0, v1, p3⟩ := drawB (many := most) p2 (by omega) (by omega) (by omega)
        have hV : DV (off + 2 * (least + v)) := by
          have : off = 0 ∨ off = 1 := by omega
          rcases this with z | z
          · exact ⟨by omega, by omega⟩
          · have := le2 z; exact ⟨by omega, by omega⟩
        have kl' := put_le ks2 (keyOf (x0 :: lr))
        refine ⟨_, _, rfl, ?_, xs3, _, _, some (.d (lotD (x0 :: lr))), some (.l (us.map pairD)), some (.d (.int off)), some (.d (.int least)), rfl, p3.mono (by omega), dt2.put (keyOf (x0 :: lr)) hV, by omega, fun k hk => ?_⟩
        · have mm : mulC [.d (.int 2), .d (.int (least + v))] = some (.d (.int (2 * (least + v)))) := e_mulI (.inl (by decide))
          have s7 : mSet 7 (mOp sortC (maCons (mVal (mLc [10] (miSeq (mSl (gNameA 2) moNone (moSome (mOp negC (maCons (mVal (mC (.int 1))) maNil))))) (gSet 10) (tAndM (tstM (mOp gtC (maCons (mVal (mOp lenC (maCons (gNameA 10) maNil))) (maCons (mVal (mOp lenC (maCons (gNameA 6) maNil))) maNil)))) (tstM (mOp inA (maCons (mVal (mOp ixA (maCons (gNameA 6) (maCons (mVal (mC (.int 0))) maNil)))) (maCons (gNameA 10) maNil))))) (mOp dispT (maCons (mVal (mOp lenC (maCons (gNameA 10) maNil))) (maCons (mVal (mName 10)) maNil))))) maNil)) [some (.l xs2), some (.d t), some (.d (.lst (allL front last))), some (.d (.int most)), some (.t ks vs), some (.t ks2 vs2), some (.d (lotD (x0 :: lr))), y7, y8, y9, none] = some (.nx [some (.l xs2), some (.d t), some (.d (.lst (allL front last))), some (.d (.int most)), some (.t ks vs), some (.t ks2 vs2), some (.d (lotD (x0 :: lr))), some (.l (us.map pairD)), y8, y9, none]) := by
            simp -implicitDefEqProofs [e_seq, bS_nx, bS_rt, bS_bk, bS_ct, bS_no, e_skip, e_if, e_set, e_ret, e_retN, e_expr, e_setIx, e_op, e_nil, e_cons, e_val, e_frz, e_arg, gA_d, gA_l, gA_k, gA_t, gA_m, e_name, nA_d, nA_l, nA_k, nA_t, nA_m, e_move, vA_s, e_c, e_conts0, e_conts1, e_contV, e_contR, e_tst, e_tnot, e_tand, e_tor, e_ifE, e_call, e_refs0, e_refsV, e_refsR, e_sr0, e_srV, e_srR, e_ixA, e_ixL, e_ixT, e_at0, e_at1, e_at2, e_at3, e_addI, e_subI, e_gtI, e_ltI, e_leI, e_intI, e_intB, e_setM, e_putL, e_ix30, e_ix31, e_ix32, e_for, e_seqI, e_asl, e_ast, e_gset, e_yes, wipeL, unwipe, e_frzd, e_frzl, e_frzm, e_frzk, e_frzt, e_max2, e_min2, e_datas0, e_datas1, e_dispL, e_dispT, e_outs0, e_outsD, e_outsL, e_outsT, e_outsK, e_slotC, e_fn, fin_rt, fin_nx, e_eqAS, e_neAS, e_eqAI, e_neAI, e_eqAB, e_neAB, e_meth, e_methO, e_isLl, e_isLd, e_tuL, e_tuD, e_tuT, e_liL, e_liD, e_liT, e_lenT, e_lenD, e_lenO, e_sl, e_moN, e_moS, e_slLd, e_negI, sl, e_lc, lc, ln, e_sortL _ _ e6]
          unfold b_law_doubled_2
          show mSeq _ _ [some (.l xs2), some (.d t), some (.d (.lst (allL front last))), some (.d (.int most)), some (.t ks vs), some (.t ks2 vs2), some (.d (lotD (x0 :: lr))), y7, y8, y9, none] = _
          rw [e_seq, s7, bS_nx, e_seq, eoff, bS_nx, e_seq, eleast, bS_nx]
          simp -implicitDefEqProofs [e_seq, bS_nx, bS_rt, bS_bk, bS_ct, bS_no, e_skip, e_if, e_set, e_ret, e_retN, e_expr, e_setIx, e_op, e_nil, e_cons, e_val, e_frz, e_arg, gA_d, gA_l, gA_k, gA_t, gA_m, e_name, nA_d, nA_l, nA_k, nA_t, nA_m, e_move, vA_s, e_c, e_conts0, e_conts1, e_contV, e_contR, e_tst, e_tnot, e_tand, e_tor, e_ifE, e_call, e_refs0, e_refsV, e_refsR, e_sr0, e_srV, e_srR, e_ixA, e_ixL, e_ixT, e_at0, e_at1, e_at2, e_at3, e_addI, e_subI, e_gtI, e_ltI, e_leI, e_intI, e_intB, e_setM, e_putL, e_ix30, e_ix31, e_ix32, e_for, e_seqI, e_asl, e_ast, e_gset, e_yes, wipeL, unwipe, e_frzd, e_frzl, e_frzm, e_frzk, e_frzt, e_max2, e_min2, e_datas0, e_datas1, e_dispL, e_dispT, e_outs0, e_outsD, e_outsL, e_outsT, e_outsK, e_slotC, e_fn, fin_rt, fin_nx, e_eqAS, e_neAS, e_eqAI, e_neAI, e_eqAB, e_neAB, e_meth, e_methO, e_isLl, e_isLd, e_tuL, e_tuD, e_tuT, e_liL, e_liD, e_liT, e_lenT, e_lenD, e_lenO, e7, mm, e_putT (show ks2.length < 100000 by omega)]
        · rcases (put_mem ks2 _ _).mp hk with z | z
          · exact ⟨x0 :: lr, hlf, z⟩
          · exact kin2 k z
  rw [List.length_map] at p4
  refine ⟨ks2, vs2, xs4, ?_, dt2, kin2, p4.mono (by omega)⟩
  have pr1 := e_par 2 3 (maCons (mVal (mCall (m_law_lots 12) (maCons (gNameA 1) maNil))) (maCons (mVal (mOp ixA (maCons (mVal (mOp dispL (maCons (mVal (mC (.int 1))) (maCons (mVal (mC (.int 3))) (maCons (mVal (mC (.int 50))) (maCons (mVal (mOp mulC (maCons (mVal (mC (.int 8))) (maCons (mVal (mOp powC (maCons (mVal (mC (.int 10))) (maCons (mVal (mC (.int 7))) maNil)))) maNil)))) maNil)))))) (maCons (mVal (mCall m_law_draw (maCons (gNameA 0) (maCons (mVal (mC (.int 4))) maNil)))) maNil)))) maNil)) [some (.l xs), some (.d t), none, none, none, none, none, none, none, none, none] (.l (allL front last)) (.d (.int most)) [some (.l xs1), some (.d t), none, none, none, none, none, none, none, none, none] (by simp -implicitDefEqProofs [e_seq, bS_nx, bS_rt, bS_bk, bS_ct, bS_no, e_skip, e_if, e_set, e_ret, e_retN, e_expr, e_setIx, e_op, e_nil, e_cons, e_val, e_frz, e_arg, gA_d, gA_l, gA_k, gA_t, gA_m, e_name, nA_d, nA_l, nA_k, nA_t, nA_m, e_move, vA_s, e_c, e_conts0, e_conts1, e_contV, e_contR, e_tst, e_tnot, e_tand, e_tor, e_ifE, e_call, e_refs0, e_refsV, e_refsR, e_sr0, e_srV, e_srR, e_ixA, e_ixL, e_ixT, e_at0, e_at1, e_at2, e_at3, e_addI, e_subI, e_gtI, e_ltI, e_leI, e_intI, e_intB, e_setM, e_putL, e_ix30, e_ix31, e_ix32, e_for, e_seqI, e_asl, e_ast, e_gset, e_yes, wipeL, unwipe, e_frzd, e_frzl, e_frzm, e_frzk, e_frzt, e_max2, e_min2, e_datas0, e_datas1, e_dispL, e_dispT, e_outs0, e_outsD, e_outsL, e_outsT, e_outsK, e_slotC, e_fn, fin_rt, fin_nx, e_eqAS, e_neAS, e_eqAI, e_neAI, e_eqAB, e_neAB, e_meth, e_methO, e_isLl, e_isLd, e_tuL, e_tuD, e_tuT, e_liL, e_liD, e_liT, e_lenT, e_lenD, e_lenO, eq, pow107, m8, e1, e2]) (by simp) (by simp)
  have pr2 := e_par 4 5 (maCons (mVal mNewT) (maCons (mVal mNewT) maNil)) [some (.l xs1), some (.d t), some (.l (allL front last)), some (.d (.int most)), none, none, none, none, none, none, none] (.t [] []) (.t [] []) [some (.l xs1), some (.d t), some (.l (allL front last)), some (.d (.int most)), none, none, none, none, none, none, none] rfl (by simp) (by simp)
  have mi : miSeq (mCall m_law_splits (maCons (gNameA 1) maNil)) [some (.l xs2), some (.d t), some (.d (.lst (allL front last))), some (.d (.int most)), some (.t ks vs), some (.t [] []), y6, none, none, none, none] = some (qs.map lotD, [some (.l xs2), some (.d t), some (.d (.lst (allL front last))), some (.d (.int most)), some (.t ks vs), some (.t [] []), y6, none, none, none, none]) := by
    simp -implicitDefEqProofs [e_seq, bS_nx, bS_rt, bS_bk, bS_ct, bS_no, e_skip, e_if, e_set, e_ret, e_retN, e_expr, e_setIx, e_op, e_nil, e_cons, e_val, e_frz, e_arg, gA_d, gA_l, gA_k, gA_t, gA_m, e_name, nA_d, nA_l, nA_k, nA_t, nA_m, e_move, vA_s, e_c, e_conts0, e_conts1, e_contV, e_contR, e_tst, e_tnot, e_tand, e_tor, e_ifE, e_call, e_refs0, e_refsV, e_refsR, e_sr0, e_srV, e_srR, e_ixA, e_ixL, e_ixT, e_at0, e_at1, e_at2, e_at3, e_addI, e_subI, e_gtI, e_ltI, e_leI, e_intI, e_intB, e_setM, e_putL, e_ix30, e_ix31, e_ix32, e_for, e_seqI, e_asl, e_ast, e_gset, e_yes, wipeL, unwipe, e_frzd, e_frzl, e_frzm, e_frzk, e_frzt, e_max2, e_min2, e_datas0, e_datas1, e_dispL, e_dispT, e_outs0, e_outsD, e_outsL, e_outsT, e_outsK, e_slotC, e_fn, fin_rt, fin_nx, e_eqAS, e_neAS, e_eqAI, e_neAI, e_eqAB, e_neAB, e_meth, e_methO, e_isLl, e_isLd, e_tuL, e_tuD, e_tuT, e_liL, e_liD, e_liT, e_lenT, e_lenD, e_lenO, es]
  simp -implicitDefEqProofs [m_law_doubled, e_seq, bS_nx, bS_rt, bS_bk, bS_ct, bS_no, e_skip, e_if, e_set, e_ret, e_retN, e_expr, e_setIx, e_op, e_nil, e_cons, e_val, e_frz, e_arg, gA_d, gA_l, gA_k, gA_t, gA_m, e_name, nA_d, nA_l, nA_k, nA_t, nA_m, e_move, vA_s, e_c, e_conts0, e_conts1, e_contV, e_contR, e_tst, e_tnot, e_tand, e_tor, e_ifE, e_call, e_refs0, e_refsV, e_refsR, e_sr0, e_srV, e_srR, e_ixA, e_ixL, e_ixT, e_at0, e_at1, e_at2, e_at3, e_addI, e_subI, e_gtI, e_ltI, e_leI, e_intI, e_intB, e_setM, e_putL, e_ix30, e_ix31, e_ix32, e_for, e_asl, e_ast, e_gset, e_yes, wipeL, unwipe, e_frzd, e_frzl, e_frzm, e_frzk, e_frzt, e_max2, e_min2, e_datas0, e_datas1, e_dispL, e_dispT, e_outs0, e_outsD, e_outsL, e_outsT, e_outsK, e_slotC, e_fn, fin_rt, fin_nx, e_eqAS, e_neAS, e_eqAI, e_neAI, e_eqAB, e_neAB, e_meth, e_methO, e_isLl, e_isLd, e_tuL, e_tuD, e_tuT, e_liL, e_liD, e_liT, e_lenT, e_lenD, e_lenO, pr1, pr2, e3, mi, e5, show ∀ L, miSeq (mName 2) L = (mName 2 L).bind fun p => (asSeqD (.d (frz p.1))).bind fun xs => some (xs, p.2) from fun L => e_seqI _ L]
/-! ### distances -/
theorem asInts_map (ns : List Int) : asInts (ns.map .int) = some ns := by
  induction ns with
  | nil => rfl
  | cons n r ih => rw [List.map_cons, asInts, ih]; rfl
theorem e_sumI (ns : List Int) : sumC [.l (ns.map .int)] = some (.d (.int ns.sum)) := by
  have : asL (.l (ns.map .int)) = some (ns.map .int) := rfl
  unfold sumC onInts
  simp only [this, asInts_map]
  rfl
def valI (ks : List (List Key)) (vs : List D) (k : List Key) : Int := match getP ks vs k with
  | some (.int i) => i
  | _ => 0
def sepB (a b : PySem.Str) (l : List PySem.Str) : Bool := decide (a ∈ l) != decide (b ∈ l)
def disOf (ls : List (List PySem.Str)) (vs : List D) (a b : PySem.Str) : Int := ((ls.filter (sepB a b)).map fun l => valI (ls.map keyOf) vs (keyOf l)).sum / 2
theorem lots_of {front : List (List PySem.Str)} : ∀ (ks : List (List Key)), (∀ k ∈ ks, ∃ l ∈ front, k = keyOf l) → ks.Nodup → ∃ ls : List (List PySem.Str), ks = ls.map keyOf ∧ (∀ l ∈ ls, l ∈ front) ∧ ls.Nodup
  | [], _, _ => ⟨[], rfl, by simp, List.nodup_nil⟩
  | k :: ks, h, nd => by
    rw [List.nodup_cons] at nd
    obtain ⟨ls, e, h1, h2⟩ := lots_of ks (fun q hq => h q (List.mem_cons_of_mem _ hq)) nd.2
    obtain ⟨l, hl, e2⟩ := h k (List.mem_cons_self ..)
    refine ⟨l :: ls, by rw [e, e2]; rfl, fun q hq => ?_, List.nodup_cons.mpr ⟨fun z => nd.1 ?_, h2⟩⟩
    · rcases List.mem_cons.mp hq with z | z
      · exact z ▸ hl
      · exact h1 q z
    · rw [e, e2]
      exact List.mem_map_of_mem z
theorem sum_le {B : Int} : ∀ (l : List Int), (∀ x ∈ l, 0 ≤ x ∧ x ≤ B) → 0 ≤ l.sum ∧ l.sum ≤ l.length * B
  | [], _ => by simp
  | x :: l, h => by
    obtain ⟨h1, h2⟩ := sum_le l fun y hy => h y (List.mem_cons_of_mem _ hy)
    obtain ⟨h3, h4⟩ := h x (List.mem_cons_self ..)
    rw [List.sum_cons, List.length_cons]
    have : ((l.length + 1 : Nat) : Int) * B = l.length * B + B := by push_cast; rw [Int.add_mul, Int.one_mul]
    omega
theorem valI_ok {V : Int → Prop} {ks : List (List Key)} {vs : List D} (h : DT V ks vs) {k : List Key} (hk : k ∈ ks) : V (valI ks vs k) ∧ getP ks vs k = some (.int (valI ks vs k)) := by
  obtain ⟨i, hi, e⟩ := h.val k hk
  unfold valI
  rw [e]
  exact ⟨hi, rfl⟩
theorem dis_ok {P : PySem.Str → Prop} {K m : Nat} {front ls : List (List PySem.Str)} {vs : List D} (h : DT DV (ls.map keyOf) vs) (lf : ∀ l ∈ ls, l ∈ front) (nd : ls.Nodup) (fr : LOk P K m front) (hK : K ≤ 10) (a b : PySem.Str) : 0 ≤ disOf ls vs a b ∧ disOf ls vs a b ≤ 1000000000 := by
  have hs := sum_le (B := 160000001) ((ls.filter (sepB a b)).map fun l => valI (ls.map keyOf) vs (keyOf l)) fun x hx => by
    obtain ⟨l, hl, rfl⟩ := List.mem_map.mp hx
    exact (valI_ok h (List.mem_map_of_mem (List.mem_filter.mp hl).1)).1
  have hc : (ls.filter (sepB a b)).length ≤ ((front.filter fun l => decide (l.length ≠ 1)) ++ [[a], [b]]).length := by
    refine nodup_sub_len (nd.filter _) fun l hl => ?_
    obtain ⟨h1, h2⟩ := List.mem_filter.mp hl
    by_cases e : l.length = 1
    · match l, e with
      | [x], _ =>
        refine List.mem_append.mpr (.inr ?_)
        have : sepB a b [x] = true := h2
        by_cases xa : a = x
        · subst xa; simp
        · by_cases xb : b = x
          · subst xb; simp
          · exfalso
            unfold sepB at this
            rw [decide_eq_false (by simpa using xa), decide_eq_false (by simpa using xb)] at this
            cases this
    · exact List.mem_append.mpr (.inl (List.mem_filter.mpr ⟨lf l h1, by simpa using e⟩))
  rw [List.length_append] at hc
  have := fr.big
  simp only [List.length_cons, List.length_nil] at hc
  rw [List.length_map] at hs
  unfold disOf
  obtain ⟨s1, s2⟩ := hs
  have hc2 : (ls.filter (sepB a b)).length ≤ 12 := by omega
  have : ((ls.filter (sepB a b)).length : Int) * 160000001 ≤ 12 * 160000001 := Int.mul_le_mul_of_nonneg_right (by omega) (by decide)
  omega
theorem dis_sym (ls : List (List PySem.Str)) (vs : List D) (a b : PySem.Str) : disOf ls vs a b = disOf ls vs b a := by
  have : sepB a b = sepB b a := by
    funext l
    unfold sepB
    cases decide (a ∈ l) <;> cases decide (b ∈ l) <;> rfl
  unfold disOf
  rw [this]
theorem dis_self (ls : List (List PySem.Str)) (vs : List D) (a : PySem.Str) : disOf ls vs a a = 0 := by
  have : ls.filter (sepB a a) = [] := by
    rw [List.filter_eq_nil_iff]
    intro l _
    unfold sepB
    simp
  unfold disOf
  rw [this]
  rfl
def disM (ws : List PySem.Str) (ls : List (List PySem.Str)) (vs : List D) : Mat := fun i j => disOf ls vs (ws.getD i (mkS [])) (ws.getD j (mkS []))
theorem distances_ok {P : PySem.Str → Prop} {K m : Nat} {front : List (List PySem.Str)} (ws : List PySem.Str) (h2 : ws.length ≤ 26) {ks : List (List Key)} {vs : List D} (h : DT DV ks vs) (hf : ∀ k ∈ ks, ∃ l ∈ front, k = keyOf l) (fr : LOk P K m front) (hK : K ≤ 10) (hm : m ≤ 26) :
    ∃ f cs', m_law_distances [.d (.tup (ws.map .str)), .t ks vs] = some (.d (distD ws f), cs') ∧ cs'.length = 2 ∧ MatOk ws.length f := by
  obtain ⟨ls, rfl, lf, nd⟩ := lots_of ks hf h.nd
  have ll : ls.length ≤ 36 := Nat.le_trans (nodup_sub_len nd lf) (by have := fr.len; omega)
  have lln : ls.length < sizeLine := Nat.lt_of_le_of_lt ll (by decide)
  have kd : keysOfD (.dt (ls.map keyOf) vs) = some (ls.map lotD) := by
    show some ((ls.map keyOf).map fun k => D.tup (k.map unkey)) = _
    rw [List.map_map]
    congr 1
    apply List.map_congr_left
    intro l _
    simp [keyOf, lotD, unkey, Function.comp_def]
  have d2 : ∀ z : Int, fdivC [.d (.int z), .d (.int 2)] = some (.d (.int (z / 2))) := fun z => e_fdivI (by decide) (by decide)
  obtain ⟨L', e3, c1, y3, y4, y5, rfl, hc1⟩ := for_inv (mt := gSet 3) (body := b_law_distances_2) (fun i L => ∃ c1 y3 y4 y5, L = [some (.d (.tup (ws.map .str))), some c1, some (.l (((rowsOf ws.length (disM ws ls vs)).map .tup).take i)), y3, y4, y5, none] ∧ (c1 = .t (ls.map keyOf) vs ∨ c1 = .d (.dt (ls.map keyOf) vs))) (ws.map .str)
    (L := [some (.d (.tup (ws.map .str))), some (.t (ls.map keyOf) vs), some (.l []), none, none, none, none]) ⟨_, none, none, none, rfl, .inl rfl⟩ fun i x L hx ⟨c1, y3, y4, y5, hL, hc1⟩ => by
      subst hL
      rw [List.getElem?_map] at hx
      obtain ⟨a, ha, rfl⟩ := Option.map_eq_some_iff.mp hx
      have hi := (List.getElem?_eq_some_iff.mp ha).1
      obtain ⟨L', e4, c2, y5', rfl, hc2⟩ := for_inv (mt := gSet 5) (body := b_law_distances_1) (fun j L => ∃ c1 y5, L = [some (.d (.tup (ws.map .str))), some c1, some (.l (((rowsOf ws.length (disM ws ls vs)).map .tup).take i)), some (.d (.str a)), some (.l (((List.range ws.length).map fun j => D.int (disM ws ls vs i j)).take j)), y5, none] ∧ (c1 = .t (ls.map keyOf) vs ∨ c1 = .d (.dt (ls.map keyOf) vs))) (ws.map .str)
        (L := [some (.d (.tup (ws.map .str))), some c1, some (.l (((rowsOf ws.length (disM ws ls vs)).map .tup).take i)), some (.d (.str a)), some (.l []), y5, none]) ⟨c1, y5, rfl, hc1⟩ fun j x L hx ⟨c1, y5, hL, hc1⟩ => by
          subst hL
          rw [List.getElem?_map] at hx
          obtain ⟨b, hb, rfl⟩ := Option.map_eq_some_iff.mp hx
          have hj := (List.getElem?_eq_some_iff.mp hb).1
          have lk : lkL 1 [some (.d (.tup (ws.map .str))), some c1, some (.l (((rowsOf ws.length (disM ws ls vs)).map .tup).take i)), some (.d (.str a)), some (.l (((List.range ws.length).map fun j => D.int (disM ws ls vs i j)).take j)), some (.d (.str b)), none] = some [some (.d (.tup (ws.map .str))), some (.d (.dt (ls.map keyOf) vs)), some (.l (((rowsOf ws.length (disM ws ls vs)).map .tup).take i)), some (.d (.str a)), some (.l (((List.range ws.length).map fun j => D.int (disM ws ls vs i j)).take j)), some (.d (.str b)), none] := by
            rcases hc1 with rfl | rfl <;> rfl
          have lc := lc_sel (j := 6) (tst := tstM (mOp neA (maCons (mVal (mOp inA (maCons (gNameA 3) (maCons (gNameA 6) maNil)))) (maCons (mVal (mOp inA (maCons (gNameA 5) (maCons (gNameA 6) maNil)))) maNil)))) (elt := mOp ixA (maCons (gNameA 1) (maCons (gNameA 6) maNil))) (L := [some (.d (.tup (ws.map .str))), some (.d (.dt (ls.map keyOf) vs)), some (.l (((rowsOf ws.length (disM ws ls vs)).map .tup).take i)), some (.d (.str a)), some (.l (((List.range ws.length).map fun j => D.int (disM ws ls vs i j)).take j)), some (.d (.str b)), none]) lotD (fun l => D.int (valI (ls.map keyOf) vs (keyOf l))) (sepB a b) rfl ls [] fun l hl => by
            have inE : ∀ x : PySem.Str, inA [.d (.str x), .d (lotD l)] = some (.d (.bl (decide (x ∈ l)))) := fun x => e_inStrs x l
            have ix : ixA [.d (.dt (ls.map keyOf) vs), .d (lotD l)] = some (.d (.int (valI (ls.map keyOf) vs (keyOf l)))) := by
              rw [e_ixDt, (valI_ok h (List.mem_map_of_mem hl)).2]; rfl
            exact ⟨by simp -implicitDefEqProofs [e_seq, bS_nx, bS_rt, bS_bk, bS_ct, bS_no, e_skip, e_if, e_set, e_ret, e_retN, e_expr, e_setIx, e_op, e_nil, e_cons, e_val, e_frz, e_arg, gA_d, gA_l, gA_k, gA_t, gA_m, e_name, nA_d, nA_l, nA_k, nA_t, nA_m, e_move, vA_s, e_c, e_conts0, e_conts1, e_contV, e_contR, e_tst, e_tnot, e_tand, e_tor, e_ifE, e_call, e_refs0, e_refsV, e_refsR, e_sr0, e_srV, e_srR, e_ixA, e_ixL, e_at0, e_at1, e_at2, e_at3, e_addI, e_subI, e_gtI, e_ltI, e_leI, e_intI, e_intB, e_setM, e_putL, e_ix30, e_ix31, e_ix32, e_for, e_seqI, e_asl, e_ast, e_gset, e_yes, wipeL, unwipe, e_frzd, e_frzl, e_frzm, e_frzk, e_frzt, e_max2, e_min2, e_datas0, e_datas1, e_dispL, e_dispT, e_outs0, e_outsD, e_outsL, e_outsT, e_outsK, e_slotC, e_fn, fin_rt, fin_nx, e_eqAS, e_neAS, e_eqAI, e_neAI, e_eqAB, e_neAB, e_meth, e_methO, e_isLl, e_isLd, e_tuL, e_tuD, e_tuT, e_liL, e_liD, e_liT, e_lenT, e_lenD, e_lenO, inE, sepB], fun _ => ⟨.d (.int (valI (ls.map keyOf) vs (keyOf l))), by simp -implicitDefEqProofs [e_seq, bS_nx, bS_rt, bS_bk, bS_ct, bS_no, e_skip, e_if, e_set, e_ret, e_retN, e_expr, e_setIx, e_op, e_nil, e_cons, e_val, e_frz, e_arg, gA_d, gA_l, gA_k, gA_t, gA_m, e_name, nA_d, nA_l, nA_k, nA_t, nA_m, e_move, vA_s, e_c, e_conts0, e_conts1, e_contV, e_contR, e_tst, e_tnot, e_tand, e_tor, e_ifE, e_call, e_refs0, e_refsV, e_refsR, e_sr0, e_srV, e_srR, e_ixA, e_ixL, e_at0, e_at1, e_at2, e_at3, e_addI, e_subI, e_gtI, e_ltI, e_leI, e_intI, e_intB, e_setM, e_putL, e_ix30, e_ix31, e_ix32, e_for, e_seqI, e_asl, e_ast, e_gset, e_yes, wipeL, unwipe, e_frzd, e_frzl, e_frzm, e_frzk, e_frzt, e_max2, e_min2, e_datas0, e_datas1, e_dispL, e_dispT, e_outs0, e_outsD, e_outsL, e_outsT, e_outsK, e_slotC, e_fn, fin_rt, fin_nx, e_eqAS, e_neAS, e_eqAI, e_neAI, e_eqAB, e_neAB, e_meth, e_methO, e_isLl, e_isLd, e_tuL, e_tuD, e_tuT, e_liL, e_liD, e_liT, e_lenT, e_lenD, e_lenO, ix], rfl⟩⟩
          rw [List.nil_append] at lc
          have sm : sumC [.l ((ls.filter (sepB a b)).map fun l => D.int (valI (ls.map keyOf) vs (keyOf l)))] = some (.d (.int ((ls.filter (sepB a b)).map fun l => valI (ls.map keyOf) vs (keyOf l)).sum)) := by
            rw [← e_sumI, List.map_map]
            rfl
          have mk : miKeys 1 [some (.d (.tup (ws.map .str))), some (.d (.dt (ls.map keyOf) vs)), some (.l (((rowsOf ws.length (disM ws ls vs)).map .tup).take i)), some (.d (.str a)), some (.l (((List.range ws.length).map fun j => D.int (disM ws ls vs i j)).take j)), some (.d (.str b)), none] = some (ls.map lotD, [some (.d (.tup (ws.map .str))), some (.d (.dt (ls.map keyOf) vs)), some (.l (((rowsOf ws.length (disM ws ls vs)).map .tup).take i)), some (.d (.str a)), some (.l (((List.range ws.length).map fun j => D.int (disM ws ls vs i j)).take j)), some (.d (.str b)), none]) := by
            simp [miKeys, kd]
          have ap : appendM [.l (((List.range ws.length).map fun j => D.int (disM ws ls vs i j)).take j), .d (.int (disOf ls vs a b))] = some (.d .non, [.l (((List.range ws.length).map fun j => D.int (disM ws ls vs i j)).take (j + 1)), .d (.int (disOf ls vs a b))]) := by
            rw [e_append (by simp; omega), List.take_add_one]
            have : ((List.range ws.length).map fun j => D.int (disM ws ls vs i j))[j]? = some (.int (disOf ls vs a b)) := by
              have ga : ws.getD i (mkS []) = a := by rw [List.getD_eq_getElem?_getD, ha]; rfl
              have gb : ws.getD j (mkS []) = b := by rw [List.getD_eq_getElem?_getD, hb]; rfl
              have e0 : ((List.range ws.length).map fun j => D.int (disM ws ls vs i j))[j]? = some (.int (disM ws ls vs i j)) := by simp [hj]
              rw [e0]
              unfold disM
              rw [ga, gb]
            rw [this]; rfl
          refine ⟨_, _, rfl, ?_, .d (.dt (ls.map keyOf) vs), some (.d (.str b)), rfl, .inr rfl⟩
          show b_law_distances_1 [some (.d (.tup (ws.map .str))), some c1, some (.l (((rowsOf ws.length (disM ws ls vs)).map .tup).take i)), some (.d (.str a)), some (.l (((List.range ws.length).map fun j => D.int (disM ws ls vs i j)).take j)), some (.d (.str b)), none] = _
          have ap' := ap
          unfold disOf at ap'
          simp -implicitDefEqProofs [b_law_distances_1, e_seq, bS_nx, bS_rt, bS_bk, bS_ct, bS_no, e_skip, e_if, e_set, e_ret, e_retN, e_expr, e_setIx, e_op, e_nil, e_cons, e_val, e_frz, e_arg, gA_d, gA_l, gA_k, gA_t, gA_m, e_name, nA_d, nA_l, nA_k, nA_t, nA_m, e_move, vA_s, e_c, e_conts0, e_conts1, e_contV, e_contR, e_tst, e_tnot, e_tand, e_tor, e_ifE, e_call, e_refs0, e_refsV, e_refsR, e_sr0, e_srV, e_srR, e_ixA, e_ixL, e_at0, e_at1, e_at2, e_at3, e_addI, e_subI, e_gtI, e_ltI, e_leI, e_intI, e_intB, e_setM, e_putL, e_ix30, e_ix31, e_ix32, e_for, e_seqI, e_asl, e_ast, e_gset, e_yes, wipeL, unwipe, e_frzd, e_frzl, e_frzm, e_frzk, e_frzt, e_max2, e_min2, e_datas0, e_datas1, e_dispL, e_dispT, e_outs0, e_outsD, e_outsL, e_outsT, e_outsK, e_slotC, e_fn, fin_rt, fin_nx, e_eqAS, e_neAS, e_eqAI, e_neAI, e_eqAB, e_neAB, e_meth, e_methO, e_isLl, e_isLd, e_tuL, e_tuD, e_tuT, e_liL, e_liD, e_liT, e_lenT, e_lenD, e_lenO, mLk, lk, e_lc, mk, lc, lln, sm, d2, ap']
      rw [List.length_map] at e4
      have tk : ((List.range ws.length).map fun j => D.int (disM ws ls vs i j)).take ws.length = (List.range ws.length).map fun j => D.int (disM ws ls vs i j) := List.take_of_length_le (by simp)
      rw [tk] at e4
      have ap : appendM [.l (((rowsOf ws.length (disM ws ls vs)).map .tup).take i), .d (.tup ((List.range ws.length).map fun j => D.int (disM ws ls vs i j)))] = some (.d .non, [.l (((rowsOf ws.length (disM ws ls vs)).map .tup).take (i + 1)), .d (.tup ((List.range ws.length).map fun j => D.int (disM ws ls vs i j)))]) := by
        rw [e_append (by simp; omega), List.take_add_one, List.getElem?_map, rowsOf_get hi]; rfl
      refine ⟨_, _, rfl, ?_, c2, some (.d (.str a)), some (.l ((List.range ws.length).map fun j => D.int (disM ws ls vs i j))), y5', rfl, hc2⟩
      simp -implicitDefEqProofs [b_law_distances_2, e_seq, bS_nx, bS_rt, bS_bk, bS_ct, bS_no, e_skip, e_if, e_set, e_ret, e_retN, e_expr, e_setIx, e_op, e_nil, e_cons, e_val, e_frz, e_arg, gA_d, gA_l, gA_k, gA_t, gA_m, e_name, nA_d, nA_l, nA_k, nA_t, nA_m, e_move, vA_s, e_c, e_conts0, e_conts1, e_contV, e_contR, e_tst, e_tnot, e_tand, e_tor, e_ifE, e_call, e_refs0, e_refsV, e_refsR, e_sr0, e_srV, e_srR, e_ixA, e_ixL, e_at0, e_at1, e_at2, e_at3, e_addI, e_subI, e_gtI, e_ltI, e_leI, e_intI, e_intB, e_setM, e_putL, e_ix30, e_ix31, e_ix32, e_for, e_seqI, e_asl, e_ast, e_gset, e_yes, wipeL, unwipe, e_frzd, e_frzl, e_frzm, e_frzk, e_frzt, e_max2, e_min2, e_datas0, e_datas1, e_dispL, e_dispT, e_outs0, e_outsD, e_outsL, e_outsT, e_outsK, e_slotC, e_fn, fin_rt, fin_nx, e_eqAS, e_neAS, e_eqAI, e_neAI, e_eqAB, e_neAB, e_meth, e_methO, e_isLl, e_isLd, e_tuL, e_tuD, e_tuT, e_liL, e_liD, e_liT, e_lenT, e_lenD, e_lenO, e4, ap, -List.map_take]
  rw [List.length_map] at e3
  have tk : ((rowsOf ws.length (disM ws ls vs)).map D.tup).take ws.length = (rowsOf ws.length (disM ws ls vs)).map .tup := List.take_of_length_le (by simp [rowsOf])
  rw [tk] at e3
  have res : m_law_distances [.d (.tup (ws.map .str)), .t (ls.map keyOf) vs] = some (.d (distD ws (disM ws ls vs)), [.d (.tup (ws.map .str)), c1]) := by
    simp -implicitDefEqProofs [m_law_distances, e_seq, bS_nx, bS_rt, bS_bk, bS_ct, bS_no, e_skip, e_if, e_set, e_ret, e_retN, e_expr, e_setIx, e_op, e_nil, e_cons, e_val, e_frz, e_arg, gA_d, gA_l, gA_k, gA_t, gA_m, e_name, nA_d, nA_l, nA_k, nA_t, nA_m, e_move, vA_s, e_c, e_conts0, e_conts1, e_contV, e_contR, e_tst, e_tnot, e_tand, e_tor, e_ifE, e_call, e_refs0, e_refsV, e_refsR, e_sr0, e_srV, e_srR, e_ixA, e_ixL, e_ixT, e_at0, e_at1, e_at2, e_at3, e_addI, e_subI, e_gtI, e_ltI, e_leI, e_intI, e_intB, e_setM, e_putL, e_ix30, e_ix31, e_ix32, e_for, e_seqI, e_asl, e_ast, e_gset, e_yes, wipeL, unwipe, e_frzd, e_frzl, e_frzm, e_frzk, e_frzt, e_max2, e_min2, e_datas0, e_datas1, e_dispL, e_dispT, e_outs0, e_outsD, e_outsL, e_outsT, e_outsK, e_slotC, e_fn, fin_rt, fin_nx, e_eqAS, e_neAS, e_eqAI, e_neAI, e_eqAB, e_neAB, e_meth, e_methO, e_isLl, e_isLd, e_tuL, e_tuD, e_tuT, e_liL, e_liD, e_liT, e_lenT, e_lenD, e_lenO, e3]
    rfl
  refine ⟨_, _, res, rfl, fun i j hi hj => ?_⟩
  obtain ⟨q1, q2⟩ := dis_ok h lf nd fr hK (ws.getD i (mkS [])) (ws.getD j (mkS []))
  exact ⟨q1, q2, dis_sym _ _ _ _, dis_self _ _ _⟩
/-! ### one number changed -/
def rowD (n : Nat) (f : Mat) (i : Nat) : D := .tup ((List.range n).map fun j => .int (f i j))
theorem dist_ix0 (ws : List PySem.Str) (f : Mat) : ixA [.d (distD ws f), .d (.int 0)] = some (.d (.tup (ws.map .str))) := by simp -implicitDefEqProofs [distD, e_seq, bS_nx, bS_rt, bS_bk, bS_ct, bS_no, e_skip, e_if, e_set, e_ret, e_retN, e_expr, e_setIx, e_op, e_nil, e_cons, e_val, e_frz, e_arg, gA_d, gA_l, gA_k, gA_t, gA_m, e_name, nA_d, nA_l, nA_k, nA_t, nA_m, e_move, vA_s, e_c, e_conts0, e_conts1, e_contV, e_contR, e_tst, e_tnot, e_tand, e_tor, e_ifE, e_call, e_refs0, e_refsV, e_refsR, e_sr0, e_srV, e_srR, e_ixA, e_ixL, e_ixT, e_at0, e_at1, e_at2, e_at3, e_addI, e_subI, e_gtI, e_ltI, e_leI, e_intI, e_intB, e_setM, e_putL, e_ix30, e_ix31, e_ix32, e_for, e_seqI, e_asl, e_ast, e_gset, e_yes, wipeL, unwipe, e_frzd, e_frzl, e_frzm, e_frzk, e_frzt, e_max2, e_min2, e_datas0, e_datas1, e_dispL, e_dispT, e_outs0, e_outsD, e_outsL, e_outsT, e_outsK, e_slotC, e_fn, fin_rt, fin_nx, e_eqAS, e_neAS, e_eqAI, e_neAI, e_eqAB, e_neAB, e_meth, e_methO, e_isLl, e_isLd, e_tuL, e_tuD, e_tuT, e_liL, e_liD, e_liT, e_lenT, e_lenD, e_lenO]
theorem dist_ix1 (ws : List PySem.Str) (f : Mat) : ixA [.d (distD ws f), .d (.int 1)] = some (.d (.tup ((rowsOf ws.length f).map .tup))) := by simp -implicitDefEqProofs [distD, e_seq, bS_nx, bS_rt, bS_bk, bS_ct, bS_no, e_skip, e_if, e_set, e_ret, e_retN, e_expr, e_setIx, e_op, e_nil, e_cons, e_val, e_frz, e_arg, gA_d, gA_l, gA_k, gA_t, gA_m, e_name, nA_d, nA_l, nA_k, nA_t, nA_m, e_move, vA_s, e_c, e_conts0, e_conts1, e_contV, e_contR, e_tst, e_tnot, e_tand, e_tor, e_ifE, e_call, e_refs0, e_refsV, e_refsR, e_sr0, e_srV, e_srR, e_ixA, e_ixL, e_ixT, e_at0, e_at1, e_at2, e_at3, e_addI, e_subI, e_gtI, e_ltI, e_leI, e_intI, e_intB, e_setM, e_putL, e_ix30, e_ix31, e_ix32, e_for, e_seqI, e_asl, e_ast, e_gset, e_yes, wipeL, unwipe, e_frzd, e_frzl, e_frzm, e_frzk, e_frzt, e_max2, e_min2, e_datas0, e_datas1, e_dispL, e_dispT, e_outs0, e_outsD, e_outsL, e_outsT, e_outsK, e_slotC, e_fn, fin_rt, fin_nx, e_eqAS, e_neAS, e_eqAI, e_neAI, e_eqAB, e_neAB, e_meth, e_methO, e_isLl, e_isLd, e_tuL, e_tuD, e_tuT, e_liL, e_liD, e_liT, e_lenT, e_lenD, e_lenO]
theorem rows_get (n : Nat) (f : Mat) (i : Nat) (h : i < n) : ((rowsOf n f).map D.tup)[i]? = some (rowD n f i) := by
  rw [List.getElem?_map, rowsOf_get h]; rfl
theorem rows_ix {n : Nat} {f : Mat} {i : Nat} (h : i < n) : ixA [.d (.tup ((rowsOf n f).map .tup)), .d (.int i)] = some (.d (rowD n f i)) := by
  rw [e_ixT, atI_ge (k := i) rfl (by rw [List.length_map, rowsOf_len]; exact h), rows_get n f i h]; rfl
theorem row_ix {n : Nat} {f : Mat} {i j : Nat} (h : j < n) : ixA [.d (rowD n f i), .d (.int j)] = some (.d (.int (f i j))) := by
  unfold rowD
  rw [e_ixT, atI_ge (k := j) rfl (by simpa using h)]
  simp [h]
theorem near_ok {n : Nat} {xs : List D} (p : PotL n xs) (ws : List PySem.Str) (f : Mat) (mo : MatOk ws.length f) (h1 : 1 ≤ ws.length) (h2 : ws.length ≤ 26) (hn : n < 1000000000000) :
    ∃ g xs', m_law_near [.l xs, .d (distD ws f)] = some (.d (distD ws g), [.l xs', .d (distD ws f)]) ∧ MatOk ws.length g ∧ PotL (n + 3) xs' := by
  by_cases c : ws.length = 1
  · refine ⟨f, xs, ?_, mo, p.mono (by omega)⟩
    have c' : ((ws.length : Nat) : Int) = 1 := by omega
    simp -implicitDefEqProofs [m_law_near, e_seq, bS_nx, bS_rt, bS_bk, bS_ct, bS_no, e_skip, e_if, e_set, e_ret, e_retN, e_expr, e_setIx, e_op, e_nil, e_cons, e_val, e_frz, e_arg, gA_d, gA_l, gA_k, gA_t, gA_m, e_name, nA_d, nA_l, nA_k, nA_t, nA_m, e_move, vA_s, e_c, e_conts0, e_conts1, e_contV, e_contR, e_tst, e_tnot, e_tand, e_tor, e_ifE, e_call, e_refs0, e_refsV, e_refsR, e_sr0, e_srV, e_srR, e_ixA, e_ixL, e_ixT, e_at0, e_at1, e_at2, e_at3, e_addI, e_subI, e_gtI, e_ltI, e_leI, e_intI, e_intB, e_setM, e_putL, e_ix30, e_ix31, e_ix32, e_for, e_seqI, e_asl, e_ast, e_gset, e_yes, wipeL, unwipe, e_frzd, e_frzl, e_frzm, e_frzk, e_frzt, e_max2, e_min2, e_datas0, e_datas1, e_dispL, e_dispT, e_outs0, e_outsD, e_outsL, e_outsT, e_outsK, e_slotC, e_fn, fin_rt, fin_nx, e_eqAS, e_neAS, e_eqAI, e_neAI, e_eqAB, e_neAB, e_meth, e_methO, e_isLl, e_isLd, e_tuL, e_tuD, e_tuT, e_liL, e_liD, e_liT, e_lenT, e_lenD, e_lenO, dist_ix0, c']
  · obtain ⟨d, xs1, e1, d1, d2, p1⟩ := drawB (many := (ws.length : Int) - 1) p (by omega) (by omega) (by omega)
    obtain ⟨i, hi⟩ : ∃ i : Nat, 1 + d = (i : Int) := ⟨(1 + d).toNat, by omega⟩
    obtain ⟨d', xs2, e2, d3, d4, p2⟩ := drawB (many := (i : Int)) p1 (by omega) (by omega) (by omega)
    obtain ⟨j, hj⟩ : ∃ j : Nat, d' = (j : Int) := ⟨d'.toNat, by omega⟩
    subst hj
    obtain ⟨d5, xs3, e3, d6, d7, p3⟩ := drawB (many := 4) p2 (by omega) (by decide) (by decide)
    obtain ⟨z, hz, e4⟩ := ix_mem (xs := [.int 1, .int 2, .int (-1), .int (-2)]) d6 (by simpa using d7)
    have hst : ∃ st : Int, z = .int st := by
      simp only [List.mem_cons, List.not_mem_nil, or_false] at hz
      rcases hz with rfl | rfl | rfl | rfl <;> exact ⟨_, rfl⟩
    obtain ⟨st, rfl⟩ := hst
    have c' : ¬ ((ws.length : Nat) : Int) = 1 := by omega
    obtain ⟨v, hv⟩ : ∃ v : Int, v = (if (if f i j + st > 0 then f i j + st else 0) < 1000000000 then (if f i j + st > 0 then f i j + st else 0) else 1000000000) := ⟨_, rfl⟩
    have hv0 : 0 ≤ v ∧ v ≤ 1000000000 := by rw [hv]; split <;> split <;> omega
    refine ⟨up2 f i j v, xs3, ?_, up2_ok mo (by omega) (by omega) (by omega) hv0.1 hv0.2, p3⟩
    have w := with_ok ws f i j v (by omega) (by omega) (by omega)
    rw [hv] at w
    have pr := e_par 4 5 (maCons (mVal (mCall m_law_draw (maCons (gNameA 0) (maCons (gNameA 3) maNil)))) (maCons (mVal (mOp ixA (maCons (mVal (mOp dispL (maCons (mVal (mC (.int 1))) (maCons (mVal (mC (.int 2))) (maCons (mVal (mOp negC (maCons (mVal (mC (.int 1))) maNil))) (maCons (mVal (mOp negC (maCons (mVal (mC (.int 2))) maNil))) maNil)))))) (maCons (mVal (mCall m_law_draw (maCons (gNameA 0) (maCons (mVal (mC (.int 4))) maNil)))) maNil)))) maNil)) [some (.l xs1), some (.d (distD ws f)), some (.d (.tup (ws.map .str))), some (.d (.int i)), none, none] (.d (.int j)) (.d (.int st)) [some (.l xs3), some (.d (distD ws f)), some (.d (.tup (ws.map .str))), some (.d (.int i)), none, none] (by simp -implicitDefEqProofs [e_seq, bS_nx, bS_rt, bS_bk, bS_ct, bS_no, e_skip, e_if, e_set, e_ret, e_retN, e_expr, e_setIx, e_op, e_nil, e_cons, e_val, e_frz, e_arg, gA_d, gA_l, gA_k, gA_t, gA_m, e_name, nA_d, nA_l, nA_k, nA_t, nA_m, e_move, vA_s, e_c, e_conts0, e_conts1, e_contV, e_contR, e_tst, e_tnot, e_tand, e_tor, e_ifE, e_call, e_refs0, e_refsV, e_refsR, e_sr0, e_srV, e_srR, e_ixL, e_ixT, e_at0, e_at1, e_at2, e_at3, e_addI, e_subI, e_gtI, e_ltI, e_leI, e_intI, e_intB, e_setM, e_putL, e_ix30, e_ix31, e_ix32, e_for, e_seqI, e_asl, e_ast, e_gset, e_yes, wipeL, unwipe, e_frzd, e_frzl, e_frzm, e_frzk, e_frzt, e_max2, e_min2, e_datas0, e_datas1, e_dispL, e_dispT, e_outs0, e_outsD, e_outsL, e_outsT, e_outsK, e_slotC, e_fn, fin_rt, fin_nx, e_eqAS, e_neAS, e_eqAI, e_neAI, e_eqAB, e_neAB, e_meth, e_methO, e_isLl, e_isLd, e_tuL, e_tuD, e_tuT, e_liL, e_liD, e_liT, e_lenT, e_lenD, e_lenO, e_negI, e2, e3, e4]) (by simp) (by simp)
    simp -implicitDefEqProofs [m_law_near, e_seq, bS_nx, bS_rt, bS_bk, bS_ct, bS_no, e_skip, e_if, e_set, e_ret, e_retN, e_expr, e_setIx, e_op, e_nil, e_cons, e_val, e_frz, e_arg, gA_d, gA_l, gA_k, gA_t, gA_m, e_name, nA_d, nA_l, nA_k, nA_t, nA_m, e_move, vA_s, e_c, e_conts0, e_conts1, e_contV, e_contR, e_tst, e_tnot, e_tand, e_tor, e_ifE, e_call, e_refs0, e_refsV, e_refsR, e_sr0, e_srV, e_srR, e_ixA, e_ixL, e_at0, e_at1, e_at2, e_at3, e_addI, e_subI, e_gtI, e_ltI, e_leI, e_intI, e_intB, e_setM, e_putL, e_ix30, e_ix31, e_ix32, e_for, e_seqI, e_asl, e_ast, e_gset, e_yes, wipeL, unwipe, e_frzd, e_frzl, e_frzm, e_frzk, e_frzt, e_max2, e_min2, e_datas0, e_datas1, e_dispL, e_dispT, e_outs0, e_outsD, e_outsL, e_outsT, e_outsK, e_slotC, e_fn, fin_rt, fin_nx, e_eqAS, e_neAS, e_eqAI, e_neAI, e_eqAB, e_neAB, e_meth, e_methO, e_isLl, e_isLd, e_tuL, e_tuD, e_tuT, e_liL, e_liD, e_liT, e_lenT, e_lenD, e_lenO, dist_ix0, dist_ix1, c', e1, hi, pr, pow109, rows_ix (show i < ws.length by omega), row_ix (show j < ws.length by omega), w]
    rw [hv]
/-! ### the table -/
abbrev KV := List (List Key) × List D
def tput (T : KV) (a b : PySem.Str) (v : Int) : KV := (putKs T.1 [.inr a, .inr b], putXs T.1 T.2 [.inr a, .inr b] (.int v))
def nm (ws : List PySem.Str) (i : Nat) : PySem.Str := ws.getD i (mkS [])
def tabR (ws : List PySem.Str) (f : Mat) (i : Nat) : Nat → KV → KV
  | 0, T => T
  | j + 1, T => tput (tabR ws f i j T) (nm ws i) (nm ws j) (f i j)
def tabA (ws : List PySem.Str) (f : Mat) : Nat → KV
  | 0 => ([], [])
  | i + 1 => tabR ws f i ws.length (tabA ws f i)
def tab (ws : List PySem.Str) (f : Mat) : KV := tabA ws f ws.length
theorem nm_get {ws : List PySem.Str} {i : Nat} {w : PySem.Str} (h : ws[i]? = some w) : nm ws i = w := by
  unfold nm
  rw [List.getD_eq_getElem?_getD, h]; rfl
theorem nm_inj {ws : List PySem.Str} (nd : ws.Nodup) {i j : Nat} (hi : i < ws.length) (hj : j < ws.length) (h : nm ws i = nm ws j) : i = j := by
  have e1 := nm_get (List.getElem?_eq_getElem hi)
  have e2 := nm_get (List.getElem?_eq_getElem hj)
  rw [e1, e2] at h
  have pw := List.pairwise_iff_getElem.mp nd
  rcases Nat.lt_trichotomy i j with z | z | z
  · exact absurd h (pw i j hi hj z)
  · exact z
  · exact absurd h.symm (pw j i hj hi z)
theorem nm_mem {ws : List PySem.Str} {i : Nat} (hi : i < ws.length) : nm ws i ∈ ws := by
  rw [nm_get (List.getElem?_eq_getElem hi)]
  exact List.getElem_mem _
theorem tabR_len (ws : List PySem.Str) (f : Mat) (i : Nat) (T : KV) (h : T.1.length = T.2.length) : ∀ j, (tabR ws f i j T).1.length = (tabR ws f i j T).2.length ∧ (tabR ws f i j T).1.length ≤ T.1.length + j
  | 0 => ⟨h, Nat.le_refl _⟩
  | j + 1 => by
    obtain ⟨a, b⟩ := tabR_len ws f i T h j
    refine ⟨put_len _ _ _ _ a, ?_⟩
    have := put_le (tabR ws f i j T).1 [Sum.inr (nm ws i), Sum.inr (nm ws j)]
    show (putKs _ _).length ≤ _
    omega
theorem tabA_len (ws : List PySem.Str) (f : Mat) (hw : ws.length ≤ 26) : ∀ i, (tabA ws f i).1.length = (tabA ws f i).2.length ∧ (tabA ws f i).1.length ≤ 26 * i
  | 0 => ⟨rfl, Nat.le_refl _⟩
  | i + 1 => by
    obtain ⟨a, b⟩ := tabA_len ws f hw i
    obtain ⟨c, d⟩ := tabR_len ws f i _ a ws.length
    exact ⟨c, by show (tabR ws f i ws.length (tabA ws f i)).1.length ≤ _; omega⟩
theorem tabR_get {ws : List PySem.Str} (nd : ws.Nodup) (f : Mat) {i p q : Nat} (T : KV) (h : T.1.length = T.2.length) (hi : i < ws.length) (hp : p < ws.length) (hq : q < ws.length) : ∀ j, j ≤ ws.length →
    getP (tabR ws f i j T).1 (tabR ws f i j T).2 [.inr (nm ws p), .inr (nm ws q)] = if p = i ∧ q < j then some (.int (f i q)) else getP T.1 T.2 [.inr (nm ws p), .inr (nm ws q)]
  | 0, _ => by rw [if_neg (by omega)]; rfl
  | j + 1, hj => by
    have ih := tabR_get nd f T h hi hp hq j (by omega)
    have ln := (tabR_len ws f i T h j).1
    show getP (putKs _ _) (putXs _ _ _ _) _ = _
    rw [get_put _ _ _ _ _ ln, ih]
    by_cases e : p = i ∧ q = j
    · obtain ⟨rfl, rfl⟩ := e
      rw [if_pos rfl, if_pos ⟨rfl, by omega⟩]
    · rw [if_neg (fun z => e ?_)]
      · by_cases e2 : p = i ∧ q < j
        · rw [if_pos e2, if_pos ⟨e2.1, by omega⟩]
        · rw [if_neg e2, if_neg (by omega)]
      · simp only [List.cons.injEq, Sum.inr.injEq, and_true] at z
        exact ⟨(nm_inj nd hi hp z.1).symm, (nm_inj nd (by omega) hq z.2).symm⟩
theorem tabA_get {ws : List PySem.Str} (nd : ws.Nodup) (hw : ws.length ≤ 26) (f : Mat) {p q : Nat} (hp : p < ws.length) (hq : q < ws.length) : ∀ i, i ≤ ws.length → p < i → getP (tabA ws f i).1 (tabA ws f i).2 [.inr (nm ws p), .inr (nm ws q)] = some (.int (f p q))
  | 0, _, h => absurd h (by omega)
  | i + 1, hi, h => by
    show getP (tabR ws f i ws.length (tabA ws f i)).1 _ _ = _
    rw [show (tabA ws f (i + 1)) = tabR ws f i ws.length (tabA ws f i) from rfl, tabR_get nd f _ (tabA_len ws f hw i).1 (by omega) hp hq ws.length (Nat.le_refl _)]
    by_cases e : p = i
    · subst e; rw [if_pos ⟨rfl, hq⟩]
    · rw [if_neg (fun z => e z.1)]
      exact tabA_get nd hw f hp hq i (by omega) (by omega)
theorem tab_ix {ws : List PySem.Str} (nd : ws.Nodup) (hw : ws.length ≤ 26) (f : Mat) {p q : Nat} (hp : p < ws.length) (hq : q < ws.length) : ixA [.t (tab ws f).1 (tab ws f).2, .d (.tup [.str (nm ws p), .str (nm ws q)])] = some (.d (.int (f p q))) := by
  have := e_ixT' (tab ws f).1 (tab ws f).2 [nm ws p, nm ws q]
  rw [show keyOf [nm ws p, nm ws q] = [.inr (nm ws p), .inr (nm ws q)] from rfl] at this
  unfold tab at this ⊢
  rw [tabA_get nd hw f hp hq ws.length (Nat.le_refl _) hp] at this
  exact this
theorem put_tput (T : KV) (a b : PySem.Str) (v : Int) (h : T.1.length < 100000) : putC (.t T.1 T.2) (.d (.tup [.str a, .str b])) (.int v) = some (.t (tput T a b v).1 (tput T a b v).2) := e_putT (l := [a, b]) h
theorem zipD_len : ∀ {xs ys : List D}, xs.length = ys.length → (zipD xs ys).length = xs.length
  | [], [], _ => rfl
  | x :: xs, y :: ys, h => by simp [zipD, zipD_len (xs := xs) (ys := ys) (by simpa using h)]
theorem e_zip (ms : MA) (L L' : Ls) (xs ys : List D) (h : ms L = some ([.val (.d (.tup xs)), .val (.d (.tup ys))], L')) : miZip ms L = some (zipD xs ys, L') := by
  unfold miZip
  rw [h]
theorem ltable_ok {ws : List PySem.Str} (h1 : 1 ≤ ws.length) (hw : ws.length ≤ 26) (f : Mat) :
    m_law_table [.d (distD ws f)] = some (.t (tab ws f).1 (tab ws f).2, [.d (distD ws f)]) := by
  have zl : (zipD (ws.map .str) ((rowsOf ws.length f).map .tup)).length = ws.length := by rw [zipD_len (by simp [rowsOf]), List.length_map]
  obtain ⟨L', e3, y1, y2, y3, y4, rfl⟩ := for_inv (mt := gUnp 2 (gsCons (gSet 2) (gsCons (gSet 3) gsNil))) (body := b_law_table_2) (fun i L => ∃ y1 y2 y3 y4, L = [some (.d (distD ws f)), some (.t (tabA ws f i).1 (tabA ws f i).2), y1, y2, y3, y4]) (zipD (ws.map .str) ((rowsOf ws.length f).map .tup))
    (L := [some (.d (distD ws f)), some (.t [] []), none, none, none, none]) ⟨none, none, none, none, rfl⟩ fun i x L hx ⟨y1, y2, y3, y4, hL⟩ => by
      subst hL
      have hi : i < ws.length := by rw [← zl]; exact (List.getElem?_eq_some_iff.mp hx).1
      obtain ⟨u, v, hu, hv, rfl⟩ := zipD_get hx
      rw [List.getElem?_map, List.getElem?_eq_getElem hi] at hu
      obtain rfl := Option.some.inj hu
      rw [rows_get _ _ _ hi] at hv
      obtain rfl := Option.some.inj hv
      have gi : nm ws i = ws[i] := nm_get (List.getElem?_eq_getElem hi)
      have zl2 : (zipD (ws.map .str) ((List.range ws.length).map fun j => .int (f i j))).length = ws.length := by rw [zipD_len (by simp), List.length_map]
      have al := tabA_len ws f hw i
      obtain ⟨L', e4, z3, z4, rfl⟩ := for_inv (mt := gUnp 2 (gsCons (gSet 4) (gsCons (gSet 5) gsNil))) (body := b_law_table_1) (fun j L => ∃ y3 y4, L = [some (.d (distD ws f)), some (.t (tabR ws f i j (tabA ws f i)).1 (tabR ws f i j (tabA ws f i)).2), some (.d (.str ws[i])), some (.d (rowD ws.length f i)), y3, y4]) (zipD (ws.map .str) ((List.range ws.length).map fun j => .int (f i j)))
        (L := [some (.d (distD ws f)), some (.t (tabA ws f i).1 (tabA ws f i).2), some (.d (.str ws[i])), some (.d (rowD ws.length f i)), y3, y4]) ⟨y3, y4, rfl⟩ fun j x L hx ⟨y3, y4, hL⟩ => by
          subst hL
          have hj : j < ws.length := by rw [← zl2]; exact (List.getElem?_eq_some_iff.mp hx).1
          obtain ⟨u, v, hu, hv, rfl⟩ := zipD_get hx
          rw [List.getElem?_map, List.getElem?_eq_getElem hj] at hu
          obtain rfl := Option.some.inj hu
          have hv' : v = .int (f i j) := by
            rw [List.getElem?_map, List.getElem?_range hj] at hv
            exact (Option.some.inj hv).symm
          subst hv'
          have gj : nm ws j = ws[j] := nm_get (List.getElem?_eq_getElem hj)
          have rl := tabR_len ws f i (tabA ws f i) al.1 j
          have pt := put_tput (tabR ws f i j (tabA ws f i)) ws[i] ws[j] (f i j) (by omega)
          have st : tabR ws f i (j + 1) (tabA ws f i) = tput (tabR ws f i j (tabA ws f i)) ws[i] ws[j] (f i j) := by
            show tput _ (nm ws i) (nm ws j) _ = _
            rw [gi, gj]
          refine ⟨_, _, rfl, ?_, some (.d (.str ws[j])), some (.d (.int (f i j))), rfl⟩
          rw [st]
          show b_law_table_1 [some (.d (distD ws f)), some (.t (tabR ws f i j (tabA ws f i)).1 (tabR ws f i j (tabA ws f i)).2), some (.d (.str ws[i])), some (.d (rowD ws.length f i)), some (.d (.str ws[j])), some (.d (.int (f i j)))] = _
          simp -implicitDefEqProofs [b_law_table_1, e_seq, bS_nx, bS_rt, bS_bk, bS_ct, bS_no, e_skip, e_if, e_set, e_ret, e_retN, e_expr, e_setIx, e_op, e_nil, e_cons, e_val, e_frz, e_arg, gA_d, gA_l, gA_k, gA_t, gA_m, e_name, nA_d, nA_l, nA_k, nA_t, nA_m, e_move, vA_s, e_c, e_conts0, e_conts1, e_contV, e_contR, e_tst, e_tnot, e_tand, e_tor, e_ifE, e_call, e_refs0, e_refsV, e_refsR, e_sr0, e_srV, e_srR, e_ixA, e_ixL, e_ixT, e_at0, e_at1, e_at2, e_at3, e_addI, e_subI, e_gtI, e_ltI, e_leI, e_intI, e_intB, e_setM, e_putL, e_ix30, e_ix31, e_ix32, e_for, e_seqI, e_asl, e_ast, e_gset, e_yes, wipeL, unwipe, e_frzd, e_frzl, e_frzm, e_frzk, e_frzt, e_max2, e_min2, e_datas0, e_datas1, e_dispL, e_dispT, e_outs0, e_outsD, e_outsL, e_outsT, e_outsK, e_slotC, e_fn, fin_rt, fin_nx, e_eqAS, e_neAS, e_eqAI, e_neAI, e_eqAB, e_neAB, e_meth, e_methO, e_isLl, e_isLd, e_tuL, e_tuD, e_tuT, e_liL, e_liD, e_liT, e_lenT, e_lenD, e_lenO, pt]
      rw [zl2] at e4
      refine ⟨_, _, rfl, ?_, some (.d (.str ws[i])), some (.d (rowD ws.length f i)), z3, z4, rfl⟩
      show b_law_table_2 [some (.d (distD ws f)), some (.t (tabA ws f i).1 (tabA ws f i).2), some (.d (.str ws[i])), some (.d (rowD ws.length f i)), y3, y4] = _
      have zz := e_zip (maCons (mVal (mOp ixA (maCons (gNameA 0) (maCons (mVal (mC (.int 0))) maNil)))) (maCons (mVal (mName 3)) maNil)) [some (.d (distD ws f)), some (.t (tabA ws f i).1 (tabA ws f i).2), some (.d (.str ws[i])), some (.d (rowD ws.length f i)), y3, y4] [some (.d (distD ws f)), some (.t (tabA ws f i).1 (tabA ws f i).2), some (.d (.str ws[i])), some (.d (rowD ws.length f i)), y3, y4] (ws.map .str) ((List.range ws.length).map fun j => .int (f i j)) (by simp -implicitDefEqProofs [e_seq, bS_nx, bS_rt, bS_bk, bS_ct, bS_no, e_skip, e_if, e_set, e_ret, e_retN, e_expr, e_setIx, e_op, e_nil, e_cons, e_val, e_frz, e_arg, gA_d, gA_l, gA_k, gA_t, gA_m, e_name, nA_d, nA_l, nA_k, nA_t, nA_m, e_move, vA_s, e_c, e_conts0, e_conts1, e_contV, e_contR, e_tst, e_tnot, e_tand, e_tor, e_ifE, e_call, e_refs0, e_refsV, e_refsR, e_sr0, e_srV, e_srR, e_ixA, e_ixL, e_at0, e_at1, e_at2, e_at3, e_addI, e_subI, e_gtI, e_ltI, e_leI, e_intI, e_intB, e_setM, e_putL, e_ix30, e_ix31, e_ix32, e_for, e_seqI, e_asl, e_ast, e_gset, e_yes, wipeL, unwipe, e_frzd, e_frzl, e_frzm, e_frzk, e_frzt, e_max2, e_min2, e_datas0, e_datas1, e_dispL, e_dispT, e_outs0, e_outsD, e_outsL, e_outsT, e_outsK, e_slotC, e_fn, fin_rt, fin_nx, e_eqAS, e_neAS, e_eqAI, e_neAI, e_eqAB, e_neAB, e_meth, e_methO, e_isLl, e_isLd, e_tuL, e_tuD, e_tuT, e_liL, e_liD, e_liT, e_lenT, e_lenD, e_lenO, dist_ix0, rowD])
      unfold b_law_table_2
      rw [e_for, zz]
      exact e4
  rw [zl] at e3
  have zz := e_zip (maCons (mVal (mOp ixA (maCons (gNameA 0) (maCons (mVal (mC (.int 0))) maNil)))) (maCons (mVal (mOp ixA (maCons (gNameA 0) (maCons (mVal (mC (.int 1))) maNil)))) maNil)) [some (.d (distD ws f)), some (.t [] []), none, none, none, none] [some (.d (distD ws f)), some (.t [] []), none, none, none, none] (ws.map .str) ((rowsOf ws.length f).map .tup) (by simp -implicitDefEqProofs [e_seq, bS_nx, bS_rt, bS_bk, bS_ct, bS_no, e_skip, e_if, e_set, e_ret, e_retN, e_expr, e_setIx, e_op, e_nil, e_cons, e_val, e_frz, e_arg, gA_d, gA_l, gA_k, gA_t, gA_m, e_name, nA_d, nA_l, nA_k, nA_t, nA_m, e_move, vA_s, e_c, e_conts0, e_conts1, e_contV, e_contR, e_tst, e_tnot, e_tand, e_tor, e_ifE, e_call, e_refs0, e_refsV, e_refsR, e_sr0, e_srV, e_srR, e_ixA, e_ixL, e_at0, e_at1, e_at2, e_at3, e_addI, e_subI, e_gtI, e_ltI, e_leI, e_intI, e_intB, e_setM, e_putL, e_ix30, e_ix31, e_ix32, e_for, e_seqI, e_asl, e_ast, e_gset, e_yes, wipeL, unwipe, e_frzd, e_frzl, e_frzm, e_frzk, e_frzt, e_max2, e_min2, e_datas0, e_datas1, e_dispL, e_dispT, e_outs0, e_outsD, e_outsL, e_outsT, e_outsK, e_slotC, e_fn, fin_rt, fin_nx, e_eqAS, e_neAS, e_eqAI, e_neAI, e_eqAB, e_neAB, e_meth, e_methO, e_isLl, e_isLd, e_tuL, e_tuD, e_tuT, e_liL, e_liD, e_liT, e_lenT, e_lenD, e_lenO, dist_ix0, dist_ix1])
  simp -implicitDefEqProofs [m_law_table, e_seq, bS_nx, bS_rt, bS_bk, bS_ct, bS_no, e_skip, e_if, e_set, e_ret, e_retN, e_expr, e_setIx, e_op, e_nil, e_cons, e_val, e_frz, e_arg, gA_d, gA_l, gA_k, gA_t, gA_m, e_name, nA_d, nA_l, nA_k, nA_t, nA_m, e_move, vA_s, e_c, e_conts0, e_conts1, e_contV, e_contR, e_tst, e_tnot, e_tand, e_tor, e_ifE, e_call, e_refs0, e_refsV, e_refsR, e_sr0, e_srV, e_srR, e_ixA, e_ixL, e_at0, e_at1, e_at2, e_at3, e_addI, e_subI, e_gtI, e_ltI, e_leI, e_intI, e_intB, e_setM, e_putL, e_ix30, e_ix31, e_ix32, e_for, e_seqI, e_asl, e_ast, e_gset, e_yes, wipeL, unwipe, e_frzd, e_frzl, e_frzm, e_frzk, e_frzt, e_max2, e_min2, e_datas0, e_datas1, e_dispL, e_dispT, e_outs0, e_outsD, e_outsL, e_outsT, e_outsK, e_slotC, e_fn, fin_rt, fin_nx, e_eqAS, e_neAS, e_eqAI, e_neAI, e_eqAB, e_neAB, e_meth, e_methO, e_isLl, e_isLd, e_tuL, e_tuD, e_tuT, e_liL, e_liD, e_liT, e_lenT, e_lenD, e_lenO, mNewT, zz, e3]
  exact ⟨rfl, rfl⟩
theorem table_of_ok {ws : List PySem.Str} (h1 : 1 ≤ ws.length) (hw : ws.length ≤ 26) (f : Mat) :
    mtable_of [.d (distD ws f)] = some (.t (tab ws f).1 (tab ws f).2, [.d (distD ws f)]) := by
  have zl : (zipD (ws.map .str) ((rowsOf ws.length f).map .tup)).length = ws.length := by rw [zipD_len (by simp [rowsOf]), List.length_map]
  obtain ⟨L', e3, y1, y2, y3, y4, rfl⟩ := for_inv (mt := gUnp 2 (gsCons (gSet 4) (gsCons (gSet 5) gsNil))) (body := btable_of_2) (fun i L => ∃ y1 y2 y3 y4, L = [some (.d (distD ws f)), some (.d (.tup (ws.map .str))), some (.d (.tup ((rowsOf ws.length f).map .tup))), some (.t (tabA ws f i).1 (tabA ws f i).2), y1, y2, y3, y4]) (zipD (ws.map .str) ((rowsOf ws.length f).map .tup))
    (L := [some (.d (distD ws f)), some (.d (.tup (ws.map .str))), some (.d (.tup ((rowsOf ws.length f).map .tup))), some (.t [] []), none, none, none, none]) ⟨none, none, none, none, rfl⟩ fun i x L hx ⟨y1, y2, y3, y4, hL⟩ => by
      subst hL
      have hi : i < ws.length := by rw [← zl]; exact (List.getElem?_eq_some_iff.mp hx).1
      obtain ⟨u, v, hu, hv, rfl⟩ := zipD_get hx
      rw [List.getElem?_map, List.getElem?_eq_getElem hi] at hu
      obtain rfl := Option.some.inj hu
      rw [rows_get _ _ _ hi] at hv
      obtain rfl := Option.some.inj hv
      have gi : nm ws i = ws[i] := nm_get (List.getElem?_eq_getElem hi)
      have zl2 : (zipD (ws.map .str) ((List.range ws.length).map fun j => .int (f i j))).length = ws.length := by rw [zipD_len (by simp), List.length_map]
      have al := tabA_len ws f hw i
      obtain ⟨L', e4, z3, z4, rfl⟩ := for_inv (mt := gUnp 2 (gsCons (gSet 6) (gsCons (gSet 7) gsNil))) (body := btable_of_1) (fun j L => ∃ y3 y4, L = [some (.d (distD ws f)), some (.d (.tup (ws.map .str))), some (.d (.tup ((rowsOf ws.length f).map .tup))), some (.t (tabR ws f i j (tabA ws f i)).1 (tabR ws f i j (tabA ws f i)).2), some (.d (.str ws[i])), some (.d (rowD ws.length f i)), y3, y4]) (zipD (ws.map .str) ((List.range ws.length).map fun j => .int (f i j)))
        (L := [some (.d (distD ws f)), some (.d (.tup (ws.map .str))), some (.d (.tup ((rowsOf ws.length f).map .tup))), some (.t (tabA ws f i).1 (tabA ws f i).2), some (.d (.str ws[i])), some (.d (rowD ws.length f i)), y3, y4]) ⟨y3, y4, rfl⟩ fun j x L hx ⟨y3, y4, hL⟩ => by
          subst hL
          have hj : j < ws.length := by rw [← zl2]; exact (List.getElem?_eq_some_iff.mp hx).1
          obtain ⟨u, v, hu, hv, rfl⟩ := zipD_get hx
          rw [List.getElem?_map, List.getElem?_eq_getElem hj] at hu
          obtain rfl := Option.some.inj hu
          have hv' : v = .int (f i j) := by
            rw [List.getElem?_map, List.getElem?_range hj] at hv
            exact (Option.some.inj hv).symm
          subst hv'
          have gj : nm ws j = ws[j] := nm_get (List.getElem?_eq_getElem hj)
          have rl := tabR_len ws f i (tabA ws f i) al.1 j
          have pt := put_tput (tabR ws f i j (tabA ws f i)) ws[i] ws[j] (f i j) (by omega)
          have st : tabR ws f i (j + 1) (tabA ws f i) = tput (tabR ws f i j (tabA ws f i)) ws[i] ws[j] (f i j) := by
            show tput _ (nm ws i) (nm ws j) _ = _
            rw [gi, gj]
          refine ⟨_, _, rfl, ?_, some (.d (.str ws[j])), some (.d (.int (f i j))), rfl⟩
          rw [st]
          show btable_of_1 [some (.d (distD ws f)), some (.d (.tup (ws.map .str))), some (.d (.tup ((rowsOf ws.length f).map .tup))), some (.t (tabR ws f i j (tabA ws f i)).1 (tabR ws f i j (tabA ws f i)).2), some (.d (.str ws[i])), some (.d (rowD ws.length f i)), some (.d (.str ws[j])), some (.d (.int (f i j)))] = _
          simp -implicitDefEqProofs [btable_of_1, e_seq, bS_nx, bS_rt, bS_bk, bS_ct, bS_no, e_skip, e_if, e_set, e_ret, e_retN, e_expr, e_setIx, e_op, e_nil, e_cons, e_val, e_frz, e_arg, gA_d, gA_l, gA_k, gA_t, gA_m, e_name, nA_d, nA_l, nA_k, nA_t, nA_m, e_move, vA_s, e_c, e_conts0, e_conts1, e_contV, e_contR, e_tst, e_tnot, e_tand, e_tor, e_ifE, e_call, e_refs0, e_refsV, e_refsR, e_sr0, e_srV, e_srR, e_ixA, e_ixL, e_ixT, e_at0, e_at1, e_at2, e_at3, e_addI, e_subI, e_gtI, e_ltI, e_leI, e_intI, e_intB, e_setM, e_putL, e_ix30, e_ix31, e_ix32, e_for, e_seqI, e_asl, e_ast, e_gset, e_yes, wipeL, unwipe, e_frzd, e_frzl, e_frzm, e_frzk, e_frzt, e_max2, e_min2, e_datas0, e_datas1, e_dispL, e_dispT, e_outs0, e_outsD, e_outsL, e_outsT, e_outsK, e_slotC, e_fn, fin_rt, fin_nx, e_eqAS, e_neAS, e_eqAI, e_neAI, e_eqAB, e_neAB, e_meth, e_methO, e_isLl, e_isLd, e_tuL, e_tuD, e_tuT, e_liL, e_liD, e_liT, e_lenT, e_lenD, e_lenO, pt]
      rw [zl2] at e4
      refine ⟨_, _, rfl, ?_, some (.d (.str ws[i])), some (.d (rowD ws.length f i)), z3, z4, rfl⟩
      show btable_of_2 [some (.d (distD ws f)), some (.d (.tup (ws.map .str))), some (.d (.tup ((rowsOf ws.length f).map .tup))), some (.t (tabA ws f i).1 (tabA ws f i).2), some (.d (.str ws[i])), some (.d (rowD ws.length f i)), y3, y4] = _
      have zz := e_zip (maCons (mVal (mName 1)) (maCons (mVal (mName 5)) maNil)) [some (.d (distD ws f)), some (.d (.tup (ws.map .str))), some (.d (.tup ((rowsOf ws.length f).map .tup))), some (.t (tabA ws f i).1 (tabA ws f i).2), some (.d (.str ws[i])), some (.d (rowD ws.length f i)), y3, y4] [some (.d (distD ws f)), some (.d (.tup (ws.map .str))), some (.d (.tup ((rowsOf ws.length f).map .tup))), some (.t (tabA ws f i).1 (tabA ws f i).2), some (.d (.str ws[i])), some (.d (rowD ws.length f i)), y3, y4] (ws.map .str) ((List.range ws.length).map fun j => .int (f i j)) (by simp -implicitDefEqProofs [e_seq, bS_nx, bS_rt, bS_bk, bS_ct, bS_no, e_skip, e_if, e_set, e_ret, e_retN, e_expr, e_setIx, e_op, e_nil, e_cons, e_val, e_frz, e_arg, gA_d, gA_l, gA_k, gA_t, gA_m, e_name, nA_d, nA_l, nA_k, nA_t, nA_m, e_move, vA_s, e_c, e_conts0, e_conts1, e_contV, e_contR, e_tst, e_tnot, e_tand, e_tor, e_ifE, e_call, e_refs0, e_refsV, e_refsR, e_sr0, e_srV, e_srR, e_ixA, e_ixL, e_at0, e_at1, e_at2, e_at3, e_addI, e_subI, e_gtI, e_ltI, e_leI, e_intI, e_intB, e_setM, e_putL, e_ix30, e_ix31, e_ix32, e_for, e_seqI, e_asl, e_ast, e_gset, e_yes, wipeL, unwipe, e_frzd, e_frzl, e_frzm, e_frzk, e_frzt, e_max2, e_min2, e_datas0, e_datas1, e_dispL, e_dispT, e_outs0, e_outsD, e_outsL, e_outsT, e_outsK, e_slotC, e_fn, fin_rt, fin_nx, e_eqAS, e_neAS, e_eqAI, e_neAI, e_eqAB, e_neAB, e_meth, e_methO, e_isLl, e_isLd, e_tuL, e_tuD, e_tuT, e_liL, e_liD, e_liT, e_lenT, e_lenD, e_lenO, dist_ix0, rowD])
      unfold btable_of_2
      rw [e_for, zz]
      exact e4
  rw [zl] at e3
  have zz := e_zip (maCons (mVal (mName 1)) (maCons (mVal (mName 2)) maNil)) [some (.d (distD ws f)), some (.d (.tup (ws.map .str))), some (.d (.tup ((rowsOf ws.length f).map .tup))), some (.t [] []), none, none, none, none] [some (.d (distD ws f)), some (.d (.tup (ws.map .str))), some (.d (.tup ((rowsOf ws.length f).map .tup))), some (.t [] []), none, none, none, none] (ws.map .str) ((rowsOf ws.length f).map .tup) (by simp -implicitDefEqProofs [e_seq, bS_nx, bS_rt, bS_bk, bS_ct, bS_no, e_skip, e_if, e_set, e_ret, e_retN, e_expr, e_setIx, e_op, e_nil, e_cons, e_val, e_frz, e_arg, gA_d, gA_l, gA_k, gA_t, gA_m, e_name, nA_d, nA_l, nA_k, nA_t, nA_m, e_move, vA_s, e_c, e_conts0, e_conts1, e_contV, e_contR, e_tst, e_tnot, e_tand, e_tor, e_ifE, e_call, e_refs0, e_refsV, e_refsR, e_sr0, e_srV, e_srR, e_ixA, e_ixL, e_at0, e_at1, e_at2, e_at3, e_addI, e_subI, e_gtI, e_ltI, e_leI, e_intI, e_intB, e_setM, e_putL, e_ix30, e_ix31, e_ix32, e_for, e_seqI, e_asl, e_ast, e_gset, e_yes, wipeL, unwipe, e_frzd, e_frzl, e_frzm, e_frzk, e_frzt, e_max2, e_min2, e_datas0, e_datas1, e_dispL, e_dispT, e_outs0, e_outsD, e_outsL, e_outsT, e_outsK, e_slotC, e_fn, fin_rt, fin_nx, e_eqAS, e_neAS, e_eqAI, e_neAI, e_eqAB, e_neAB, e_meth, e_methO, e_isLl, e_isLd, e_tuL, e_tuD, e_tuT, e_liL, e_liD, e_liT, e_lenT, e_lenD, e_lenO, dist_ix0, dist_ix1])
  have un : mUnp (gUnp 2 (gsCons (gSet 1) (gsCons (gSet 2) gsNil))) (mName 0) [some (.d (distD ws f)), none, none, none, none, none, none, none] = some (.nx [some (.d (distD ws f)), some (.d (.tup (ws.map .str))), some (.d (.tup ((rowsOf ws.length f).map .tup))), none, none, none, none, none]) := rfl
  simp -implicitDefEqProofs [mtable_of, e_seq, bS_nx, bS_rt, bS_bk, bS_ct, bS_no, e_skip, e_if, e_set, e_ret, e_retN, e_expr, e_setIx, e_op, e_nil, e_cons, e_val, e_frz, e_arg, gA_d, gA_l, gA_k, gA_t, gA_m, e_name, nA_d, nA_l, nA_k, nA_t, nA_m, e_move, vA_s, e_c, e_conts0, e_conts1, e_contV, e_contR, e_tst, e_tnot, e_tand, e_tor, e_ifE, e_call, e_refs0, e_refsV, e_refsR, e_sr0, e_srV, e_srR, e_ixA, e_ixL, e_at0, e_at1, e_at2, e_at3, e_addI, e_subI, e_gtI, e_ltI, e_leI, e_intI, e_intB, e_setM, e_putL, e_ix30, e_ix31, e_ix32, e_for, e_seqI, e_asl, e_ast, e_gset, e_yes, wipeL, unwipe, e_frzd, e_frzl, e_frzm, e_frzk, e_frzt, e_max2, e_min2, e_datas0, e_datas1, e_dispL, e_dispT, e_outs0, e_outsD, e_outsL, e_outsT, e_outsK, e_slotC, e_fn, fin_rt, fin_nx, e_eqAS, e_neAS, e_eqAI, e_neAI, e_eqAB, e_neAB, e_meth, e_methO, e_isLl, e_isLd, e_tuL, e_tuD, e_tuT, e_liL, e_liD, e_liT, e_lenT, e_lenD, e_lenO, un, mNewT, zz, e3]
  exact ⟨rfl, rfl⟩
/-! ### names and distances are valid -/
theorem e_andV (a b : ME) (L : Ls) : mAndV a b L = (a L).bind fun p => match p.1 with | .d (.bl true) => b p.2 | .d (.bl false) => some (.d (.bl false), p.2) | _ => none := by
  unfold mAndV
  cases a L with
  | none => rfl
  | some p =>
    obtain ⟨c, L1⟩ := p
    cases c with
    | d x => cases x with
      | bl k => cases k <;> rfl
      | _ => rfl
    | _ => rfl
theorem e_notV (a : ME) (L : Ls) : mNotV a L = (a L).bind fun p => match p.1 with | .d (.bl k) => some (.d (.bl !k), p.2) | _ => none := by
  unfold mNotV
  cases a L with
  | none => rfl
  | some p =>
    obtain ⟨c, L1⟩ := p
    cases c with
    | d x => cases x <;> rfl
    | _ => rfl
theorem e_str (e : ME) (L : Ls) (z : PySem.Str) (L' : Ls) (h : e L = some (.d (.str z), L')) : miStr e L = some (signs z, L') := by
  unfold miStr
  rw [h]
theorem e_lenS {l : List Nat} (h : l.length ≤ 1000) : lenC [.d (.str (mkS l))] = some (.d (.int l.length)) := by
  have e : lenN (.d (.str (mkS l))) = some l.length := by
    show (if (mkS l).length ≤ sizeLine then some (mkS l).length else none) = _
    rw [mkS_len, if_pos (Nat.le_trans h (by decide))]
  simp [lenC, e]
theorem asBls_true : ∀ xs : List D, (∀ x ∈ xs, x = .bl true) → asBls xs = some (xs.map fun _ => true)
  | [], _ => rfl
  | x :: xs, h => by
    rw [h x (List.mem_cons_self ..), List.map_cons, asBls, asBls_true xs fun y hy => h y (List.mem_cons_of_mem _ hy)]
    rfl
theorem all_true {xs : List D} (h : ∀ x ∈ xs, x = .bl true) : allC [.l xs] = some (.d (.bl true)) := by
  have : asL (.l xs) = some xs := rfl
  unfold allC onBls
  simp only [this, asBls_true xs h]
  simp
theorem asBls_map (bs : List Bool) : asBls (bs.map .bl) = some bs := by
  induction bs with
  | nil => rfl
  | cons b r ih => rw [List.map_cons, asBls, ih]; rfl
theorem e_all (bs : List Bool) : allC [.l (bs.map .bl)] = some (.d (.bl (bs.all id))) := by
  have : asL (.l (bs.map .bl)) = some (bs.map .bl) := rfl
  unfold allC onBls
  simp only [this, asBls_map]
theorem isi_tt (xs : List D) : isiC [.d (.tup xs), .d (.ty "tuple")] = some (.d (.bl true)) := rfl
theorem isi_dist (ws : List PySem.Str) (f : Mat) : isiC [.d (distD ws f), .d (.ty "tuple")] = some (.d (.bl true)) := rfl
theorem isi_ii (i : Int) : isiC [.d (.int i), .d (.ty "int")] = some (.d (.bl true)) := rfl
theorem isi_ib (i : Int) : isiC [.d (.int i), .d (.ty "bool")] = some (.d (.bl false)) := rfl
theorem isi_is (i : Int) : isiC [.d (.int i), .d (.ty "str")] = some (.d (.bl false)) := rfl
theorem isi_ns : isiC [.d .non, .d (.ty "str")] = some (.d (.bl false)) := rfl
theorem isi_nt : isiC [.d .non, .d (.ty "tuple")] = some (.d (.bl false)) := rfl
theorem isi_it (i : Int) : isiC [.d (.int i), .d (.ty "tuple")] = some (.d (.bl false)) := rfl
theorem isi_st (w : PySem.Str) : isiC [.d (.str w), .d (.ty "tuple")] = some (.d (.bl false)) := rfl
theorem isi_lt (xs : List D) : isiC [.d (.lst xs), .d (.ty "tuple")] = some (.d (.bl false)) := rfl
theorem isi_kt (ks xs) : isiC [.d (.dk ks xs), .d (.ty "tuple")] = some (.d (.bl false)) := rfl
theorem le_sign (a b : Nat) : leC [.d (.str (mkS [a])), .d (.str (mkS [b]))] = some (.d (.bl (decide (a ≤ b)))) := by
  show some (C.d (D.bl (!decide ([b] < [a])))) = _
  congr 3
  by_cases h : a ≤ b
  · have : ¬ [b] < [a] := by
      intro z
      rw [List.cons_lt_cons_iff] at z
      rcases z with z | z
      · omega
      · exact absurd z.2 (List.lt_irrefl _)
    simp [h, this]
  · have : [b] < [a] := by
      rw [List.cons_lt_cons_iff]; left; omega
    simp [h, this]
theorem lc_allT {α : Type} {j : Nat} {elt : ME} {L : Ls} (g : α → D) (hj : L[j]? = some none) (xs : List α) (h : ∀ a ∈ xs, elt (L.set j (some (.d (g a)))) = some (.d (.bl true), L.set j (some (.d (g a))))) :
    ∃ r, lcM [j] (gSet j) tYesM elt (xs.map g) [] L = some (r, L) ∧ allC [.l r] = some (.d (.bl true)) :=
  ⟨_, lc_sel g (fun _ => .bl true) (fun _ => true) hj xs [] fun a ha => ⟨rfl, fun _ => ⟨_, h a ha, rfl⟩⟩, all_true fun x hx => by
    rw [List.nil_append] at hx
    obtain ⟨_, _, rfl⟩ := List.mem_map.mp hx; rfl⟩
theorem word_true {w : PySem.Str} (h : WOk w) : mis_word [.d (.str w)] = some (.d (.bl true), [.d (.str w)]) := by
  obtain ⟨l, rfl, h1, h2, h3⟩ := h
  have hl : 1 ≤ l.length := List.length_pos_iff.mpr h2
  obtain ⟨r, lc, al⟩ := lc_allT (α := Nat) (j := 1) (elt := mChain leC leC (mVal (mC (.str "a"))) (gNameA 1) (mVal (mC (.str "z")))) (L := [some (.d (.str (mkS l))), none]) (fun c => D.str ⟨#[c]⟩) rfl l fun c hc => by
    obtain ⟨q1, q2⟩ := h1 c hc
    have a1 : leC [.d (.str "a"), .d (.str ⟨#[c]⟩)] = some (.d (.bl true)) := by
      have := le_sign 97 c
      rw [decide_eq_true q1] at this
      exact this
    have a2 : leC [.d (.str ⟨#[c]⟩), .d (.str "z")] = some (.d (.bl true)) := by
      have := le_sign c 122
      rw [decide_eq_true q2] at this
      exact this
    simp -implicitDefEqProofs [e_seq, bS_nx, bS_rt, bS_bk, bS_ct, bS_no, e_skip, e_if, e_set, e_ret, e_retN, e_expr, e_setIx, e_op, e_nil, e_cons, e_val, e_frz, e_arg, gA_d, gA_l, gA_k, gA_t, gA_m, e_name, nA_d, nA_l, nA_k, nA_t, nA_m, e_move, vA_s, e_c, e_conts0, e_conts1, e_contV, e_contR, e_tst, e_tnot, e_tand, e_tor, e_ifE, e_call, e_refs0, e_refsV, e_refsR, e_sr0, e_srV, e_srR, e_ixA, e_ixL, e_ixT, e_at0, e_at1, e_at2, e_at3, e_addI, e_subI, e_gtI, e_ltI, e_leI, e_intI, e_intB, e_setM, e_putL, e_ix30, e_ix31, e_ix32, e_for, e_seqI, e_asl, e_ast, e_gset, e_yes, wipeL, unwipe, e_frzd, e_frzl, e_frzm, e_frzk, e_frzt, e_max2, e_min2, e_datas0, e_datas1, e_dispL, e_dispT, e_outs0, e_outsD, e_outsL, e_outsT, e_outsK, e_slotC, e_fn, fin_rt, fin_nx, e_eqAS, e_neAS, e_eqAI, e_neAI, e_eqAB, e_neAB, e_meth, e_methO, e_isLl, e_isLd, e_tuL, e_tuD, e_tuT, e_liL, e_liD, e_liT, e_lenT, e_lenD, e_lenO, e_chain, a1, a2]
  have sg : signs (mkS l) = l.map fun c => D.str ⟨#[c]⟩ := rfl
  have ms := e_str (mName 0) [some (.d (.str (mkS l))), none] (mkS l) [some (.d (.str (mkS l))), none] rfl
  have ln : l.length < sizeLine := Nat.lt_of_le_of_lt h3 (by decide)
  have le1 : leC [.d (.int 1), .d (.int l.length)] = some (.d (.bl true)) := by rw [e_leI, decide_eq_true (by omega)]
  have le2 : leC [.d (.int l.length), .d (.int 8)] = some (.d (.bl true)) := by rw [e_leI, decide_eq_true (by omega)]
  simp -implicitDefEqProofs [mis_word, e_seq, bS_nx, bS_rt, bS_bk, bS_ct, bS_no, e_skip, e_if, e_set, e_ret, e_retN, e_expr, e_setIx, e_op, e_nil, e_cons, e_val, e_frz, e_arg, gA_d, gA_l, gA_k, gA_t, gA_m, e_name, nA_d, nA_l, nA_k, nA_t, nA_m, e_move, vA_s, e_c, e_conts0, e_conts1, e_contV, e_contR, e_tst, e_tnot, e_tand, e_tor, e_ifE, e_call, e_refs0, e_refsV, e_refsR, e_sr0, e_srV, e_srR, e_ixA, e_ixL, e_ixT, e_at0, e_at1, e_at2, e_at3, e_addI, e_subI, e_gtI, e_ltI, e_intI, e_intB, e_setM, e_putL, e_ix30, e_ix31, e_ix32, e_for, e_seqI, e_asl, e_ast, e_gset, e_yes, wipeL, unwipe, e_frzd, e_frzl, e_frzm, e_frzk, e_frzt, e_max2, e_min2, e_datas0, e_datas1, e_dispL, e_dispT, e_outs0, e_outsD, e_outsL, e_outsT, e_outsK, e_slotC, e_fn, fin_rt, fin_nx, e_eqAS, e_neAS, e_eqAI, e_neAI, e_eqAB, e_neAB, e_meth, e_methO, e_isLl, e_isLd, e_tuL, e_tuD, e_tuT, e_liL, e_liD, e_liT, e_lenT, e_lenD, e_lenO, e_andV, isi_str_str, e_chain, e_lenS (show l.length ≤ 1000 by omega), le1, le2, e_lc, ms, sg, ln, lc, al]
theorem word_len {l : List Nat} (h : l.length = 0 ∨ 8 < l.length) (h2 : l.length ≤ 1000) : mis_word [.d (.str (mkS l))] = some (.d (.bl false), [.d (.str (mkS l))]) := by
  rcases h with h | h
  · have le1 : leC [.d (.int 1), .d (.int l.length)] = some (.d (.bl false)) := by rw [e_leI, decide_eq_false (by omega)]
    simp -implicitDefEqProofs [mis_word, e_seq, bS_nx, bS_rt, bS_bk, bS_ct, bS_no, e_skip, e_if, e_set, e_ret, e_retN, e_expr, e_setIx, e_op, e_nil, e_cons, e_val, e_frz, e_arg, gA_d, gA_l, gA_k, gA_t, gA_m, e_name, nA_d, nA_l, nA_k, nA_t, nA_m, e_move, vA_s, e_c, e_conts0, e_conts1, e_contV, e_contR, e_tst, e_tnot, e_tand, e_tor, e_ifE, e_call, e_refs0, e_refsV, e_refsR, e_sr0, e_srV, e_srR, e_ixA, e_ixL, e_ixT, e_at0, e_at1, e_at2, e_at3, e_addI, e_subI, e_gtI, e_ltI, e_intI, e_intB, e_setM, e_putL, e_ix30, e_ix31, e_ix32, e_for, e_seqI, e_asl, e_ast, e_gset, e_yes, wipeL, unwipe, e_frzd, e_frzl, e_frzm, e_frzk, e_frzt, e_max2, e_min2, e_datas0, e_datas1, e_dispL, e_dispT, e_outs0, e_outsD, e_outsL, e_outsT, e_outsK, e_slotC, e_fn, fin_rt, fin_nx, e_eqAS, e_neAS, e_eqAI, e_neAI, e_eqAB, e_neAB, e_meth, e_methO, e_isLl, e_isLd, e_tuL, e_tuD, e_tuT, e_liL, e_liD, e_liT, e_lenT, e_lenD, e_lenO, e_andV, isi_str_str, e_chain, e_lenS h2, le1]
  · have le1 : leC [.d (.int 1), .d (.int l.length)] = some (.d (.bl true)) := by rw [e_leI, decide_eq_true (by omega)]
    have le2 : leC [.d (.int l.length), .d (.int 8)] = some (.d (.bl false)) := by rw [e_leI, decide_eq_false (by omega)]
    simp -implicitDefEqProofs [mis_word, e_seq, bS_nx, bS_rt, bS_bk, bS_ct, bS_no, e_skip, e_if, e_set, e_ret, e_retN, e_expr, e_setIx, e_op, e_nil, e_cons, e_val, e_frz, e_arg, gA_d, gA_l, gA_k, gA_t, gA_m, e_name, nA_d, nA_l, nA_k, nA_t, nA_m, e_move, vA_s, e_c, e_conts0, e_conts1, e_contV, e_contR, e_tst, e_tnot, e_tand, e_tor, e_ifE, e_call, e_refs0, e_refsV, e_refsR, e_sr0, e_srV, e_srR, e_ixA, e_ixL, e_ixT, e_at0, e_at1, e_at2, e_at3, e_addI, e_subI, e_gtI, e_ltI, e_intI, e_intB, e_setM, e_putL, e_ix30, e_ix31, e_ix32, e_for, e_seqI, e_asl, e_ast, e_gset, e_yes, wipeL, unwipe, e_frzd, e_frzl, e_frzm, e_frzk, e_frzt, e_max2, e_min2, e_datas0, e_datas1, e_dispL, e_dispT, e_outs0, e_outsD, e_outsL, e_outsT, e_outsK, e_slotC, e_fn, fin_rt, fin_nx, e_eqAS, e_neAS, e_eqAI, e_neAI, e_eqAB, e_neAB, e_meth, e_methO, e_isLl, e_isLd, e_tuL, e_tuD, e_tuT, e_liL, e_liD, e_liT, e_lenT, e_lenD, e_lenO, e_andV, isi_str_str, e_chain, e_lenS h2, le1, le2]
theorem word_non : mis_word [.d .non] = some (.d (.bl false), [.d .non]) := by
  simp -implicitDefEqProofs [mis_word, e_seq, bS_nx, bS_rt, bS_bk, bS_ct, bS_no, e_skip, e_if, e_set, e_ret, e_retN, e_expr, e_setIx, e_op, e_nil, e_cons, e_val, e_frz, e_arg, gA_d, gA_l, gA_k, gA_t, gA_m, e_name, nA_d, nA_l, nA_k, nA_t, nA_m, e_move, vA_s, e_c, e_conts0, e_conts1, e_contV, e_contR, e_tst, e_tnot, e_tand, e_tor, e_ifE, e_call, e_refs0, e_refsV, e_refsR, e_sr0, e_srV, e_srR, e_ixA, e_ixL, e_ixT, e_at0, e_at1, e_at2, e_at3, e_addI, e_subI, e_gtI, e_ltI, e_leI, e_intI, e_intB, e_setM, e_putL, e_ix30, e_ix31, e_ix32, e_for, e_seqI, e_asl, e_ast, e_gset, e_yes, wipeL, unwipe, e_frzd, e_frzl, e_frzm, e_frzk, e_frzt, e_max2, e_min2, e_datas0, e_datas1, e_dispL, e_dispT, e_outs0, e_outsD, e_outsL, e_outsT, e_outsK, e_slotC, e_fn, fin_rt, fin_nx, e_eqAS, e_neAS, e_eqAI, e_neAI, e_eqAB, e_neAB, e_meth, e_methO, e_isLl, e_isLd, e_tuL, e_tuD, e_tuT, e_liL, e_liD, e_liT, e_lenT, e_lenD, e_lenO, e_andV, isi_ns]
theorem tuple_of (n : Nat) (xs : List D) : mis_tuple_of [.d (.int n), .d (.tup xs)] = some (.d (.bl (decide (xs.length = n))), [.d (.int n), .d (.tup xs)]) := by
  have : decide ((xs.length : Int) = n) = decide (xs.length = n) := by
    by_cases h : xs.length = n
    · subst h; simp
    · rw [decide_eq_false h, decide_eq_false (by omega)]
  simp -implicitDefEqProofs [mis_tuple_of, e_seq, bS_nx, bS_rt, bS_bk, bS_ct, bS_no, e_skip, e_if, e_set, e_ret, e_retN, e_expr, e_setIx, e_op, e_nil, e_cons, e_val, e_frz, e_arg, gA_d, gA_l, gA_k, gA_t, gA_m, e_name, nA_d, nA_l, nA_k, nA_t, nA_m, e_move, vA_s, e_c, e_conts0, e_conts1, e_contV, e_contR, e_tst, e_tnot, e_tand, e_tor, e_ifE, e_call, e_refs0, e_refsV, e_refsR, e_sr0, e_srV, e_srR, e_ixA, e_ixL, e_ixT, e_at0, e_at1, e_at2, e_at3, e_addI, e_subI, e_gtI, e_ltI, e_leI, e_intI, e_intB, e_setM, e_putL, e_ix30, e_ix31, e_ix32, e_for, e_seqI, e_asl, e_ast, e_gset, e_yes, wipeL, unwipe, e_frzd, e_frzl, e_frzm, e_frzk, e_frzt, e_max2, e_min2, e_datas0, e_datas1, e_dispL, e_dispT, e_outs0, e_outsD, e_outsL, e_outsT, e_outsK, e_slotC, e_fn, fin_rt, fin_nx, e_eqAS, e_neAS, e_neAI, e_eqAB, e_neAB, e_meth, e_methO, e_isLl, e_isLd, e_tuL, e_tuD, e_tuT, e_liL, e_liD, e_liT, e_lenT, e_lenD, e_lenO, e_andV, isi_tt, e_eqAI, this, -decide_eq_decide]
theorem eq_empty {xs : List D} (h : okD (.tup xs) = true) (ne : xs ≠ []) : eqA [.d (.tup xs), .d (.tup [])] = some (.d (.bl false)) := by
  have a1 : eqSC [.d (.tup xs), .d (.tup [])] = none := rfl
  have h0 : okD (.tup []) = true := by decide
  have e : PyData.eqv (toPy (.tup xs)) (toPy (.tup [])) = false := by
    cases xs with
    | nil => exact absurd rfl ne
    | cons x r => simp [toPy, toPys, PyData.eqv, PyData.eqvAll]
  simp only [eqA, orC, a1, eqC, eqB, frz, h, h0, Bool.and_self, if_true, Option.map_some, e]
theorem names_nice {ws : List PySem.Str} (h : ∀ w ∈ ws, WOk w) : Nice 1 (ws.length * 9) (.tup (ws.map .str)) := nice_lot (P := WOk) (fun _ h => h) h
theorem lt_asc {a b : PySem.Str} (h : leS a b) (ne : a ≠ b) : ltC [.d (.str a), .d (.str b)] = some (.d (.bl true)) := by
  show some (C.d (D.bl (decide (a.cps.toList < b.cps.toList)))) = _
  have : a.cps.toList < b.cps.toList := by
    rcases List.le_iff_lt_or_eq.mp h with z | z
    · exact z
    · exact absurd (PySem.W.str_of_cps z) ne
  rw [decide_eq_true this]
theorem lot_true {many : Nat} {ws : List PySem.Str} (N : NamesOk many ws) (h1 : 1 ≤ many) (h2 : many ≤ 26) : mis_lot [.d (.tup (ws.map .str))] = some (.d (.bl true), [.d (.tup (ws.map .str))]) := by
  have wl := N.len
  have ne : ws.map D.str ≠ [] := fun z => by rw [List.map_eq_nil_iff] at z; rw [z] at wl; simp at wl; omega
  have eq0 := eq_empty ((names_nice N.ok).okD (by decide)) ne
  obtain ⟨r1, lc, al⟩ := lc_allT (j := 1) (elt := mCall mis_word (maCons (gNameA 1) maNil)) (L := [some (.d (.tup (ws.map .str))), none, none, none]) D.str rfl ws fun w hw => by simp -implicitDefEqProofs [e_seq, bS_nx, bS_rt, bS_bk, bS_ct, bS_no, e_skip, e_if, e_set, e_ret, e_retN, e_expr, e_setIx, e_op, e_nil, e_cons, e_val, e_frz, e_arg, gA_d, gA_l, gA_k, gA_t, gA_m, e_name, nA_d, nA_l, nA_k, nA_t, nA_m, e_move, vA_s, e_c, e_conts0, e_conts1, e_contV, e_contR, e_tst, e_tnot, e_tand, e_tor, e_ifE, e_call, e_refs0, e_refsV, e_refsR, e_sr0, e_srV, e_srR, e_ixA, e_ixL, e_ixT, e_at0, e_at1, e_at2, e_at3, e_addI, e_subI, e_gtI, e_ltI, e_leI, e_intI, e_intB, e_setM, e_putL, e_ix30, e_ix31, e_ix32, e_for, e_seqI, e_asl, e_ast, e_gset, e_yes, wipeL, unwipe, e_frzd, e_frzl, e_frzm, e_frzk, e_frzt, e_max2, e_min2, e_datas0, e_datas1, e_dispL, e_dispT, e_outs0, e_outsD, e_outsL, e_outsT, e_outsK, e_slotC, e_fn, fin_rt, fin_nx, e_eqAS, e_neAS, e_eqAI, e_neAI, e_eqAB, e_neAB, e_meth, e_methO, e_isLl, e_isLd, e_tuL, e_tuD, e_tuT, e_liL, e_liD, e_liT, e_lenT, e_lenD, e_lenO, word_true (N.ok w hw)]
  have ln : ws.length < sizeLine := Nat.lt_of_le_of_lt (show ws.length ≤ 26 by omega) (by decide)
  match ws, ne, N, lc, ln, eq0 with
  | w0 :: wr, ne, N, lc, ln, eq0 =>
    have sl : cutD (D.str w0 :: wr.map .str) (some 1) none = wr.map .str := cut_from1 _ _
    have zz := e_zip (maCons (mVal (mName 0)) (maCons (mVal (mFrz (mSl (gNameA 0) (moSome (mC (.int 1))) moNone))) maNil)) [some (.d (.tup ((w0 :: wr).map .str))), none, none, none] [some (.d (.tup ((w0 :: wr).map .str))), none, none, none] ((w0 :: wr).map .str) (wr.map .str) (by simp -implicitDefEqProofs [e_seq, bS_nx, bS_rt, bS_bk, bS_ct, bS_no, e_skip, e_if, e_set, e_ret, e_retN, e_expr, e_setIx, e_op, e_nil, e_cons, e_val, e_frz, e_arg, gA_d, gA_l, gA_k, gA_t, gA_m, e_name, nA_d, nA_l, nA_k, nA_t, nA_m, e_move, vA_s, e_c, e_conts0, e_conts1, e_contV, e_contR, e_tst, e_tnot, e_tand, e_tor, e_ifE, e_call, e_refs0, e_refsV, e_refsR, e_sr0, e_srV, e_srR, e_ixA, e_ixL, e_ixT, e_at0, e_at1, e_at2, e_at3, e_addI, e_subI, e_gtI, e_ltI, e_leI, e_intI, e_intB, e_setM, e_putL, e_ix30, e_ix31, e_ix32, e_for, e_seqI, e_asl, e_ast, e_gset, e_yes, wipeL, unwipe, e_frzd, e_frzl, e_frzm, e_frzk, e_frzt, e_max2, e_min2, e_datas0, e_datas1, e_dispL, e_dispT, e_outs0, e_outsD, e_outsL, e_outsT, e_outsK, e_slotC, e_fn, fin_rt, fin_nx, e_eqAS, e_neAS, e_eqAI, e_neAI, e_eqAB, e_neAB, e_meth, e_methO, e_isLl, e_isLd, e_tuL, e_tuD, e_tuT, e_liL, e_liD, e_liT, e_lenT, e_lenD, e_lenO, e_sl, e_moN, e_moS, e_slT, sl])
    obtain ⟨r, lz, hr⟩ : ∃ r, lcM [2, 3] (gUnp 2 (gsCons (gSet 2) (gsCons (gSet 3) gsNil))) tYesM (mOp ltC (maCons (gNameA 2) (maCons (gNameA 3) maNil))) (zipD ((w0 :: wr).map .str) (wr.map .str)) [] [some (.d (.tup ((w0 :: wr).map .str))), none, none, none] = some (r, [some (.d (.tup ((w0 :: wr).map .str))), none, none, none]) ∧ ∀ x ∈ r, x = .bl true := by
      obtain ⟨acc, L', e, h1, h2⟩ := lc_inv (vs := [2, 3]) (mt := gUnp 2 (gsCons (gSet 2) (gsCons (gSet 3) gsNil))) (tst := tYesM) (elt := mOp ltC (maCons (gNameA 2) (maCons (gNameA 3) maNil))) (fun k acc L' => L' = [some (.d (.tup ((w0 :: wr).map .str))), none, none, none] ∧ ∀ x ∈ acc, x = D.bl true) (zipD ((w0 :: wr).map .str) (wr.map .str)) 0 [] _ ⟨rfl, by simp⟩ fun i x acc L' hx ⟨hL, hacc⟩ => by
        subst hL
        obtain ⟨u, v, hu, hv, rfl⟩ := zipD_get hx
        rw [List.getElem?_map] at hu hv
        obtain ⟨a, ha, rfl⟩ := Option.map_eq_some_iff.mp hu
        obtain ⟨b, hb, rfl⟩ := Option.map_eq_some_iff.mp hv
        have hb' : (w0 :: wr)[i + 1]? = some b := by simpa using hb
        have i1 := (List.getElem?_eq_some_iff.mp ha)
        have i2 := (List.getElem?_eq_some_iff.mp hb')
        have lt : ltC [.d (.str a), .d (.str b)] = some (.d (.bl true)) := by
          obtain ⟨j1, rfl⟩ := i1
          obtain ⟨j2, rfl⟩ := i2
          exact lt_asc (List.pairwise_iff_getElem.mp N.asc i (i + 1) j1 j2 (by omega)) (List.pairwise_iff_getElem.mp N.nd i (i + 1) j1 j2 (by omega))
        refine ⟨_, true, _, rfl, rfl, fun _ => ⟨.d (.bl true), [some (.d (.tup ((w0 :: wr).map .str))), none, some (.d (.str a)), some (.d (.str b))], ?_, rfl, ?_⟩, fun z => absurd z (by simp)⟩
        · simp -implicitDefEqProofs [e_seq, bS_nx, bS_rt, bS_bk, bS_ct, bS_no, e_skip, e_if, e_set, e_ret, e_retN, e_expr, e_setIx, e_op, e_nil, e_cons, e_val, e_frz, e_arg, gA_d, gA_l, gA_k, gA_t, gA_m, e_name, nA_d, nA_l, nA_k, nA_t, nA_m, e_move, vA_s, e_c, e_conts0, e_conts1, e_contV, e_contR, e_tst, e_tnot, e_tand, e_tor, e_ifE, e_call, e_refs0, e_refsV, e_refsR, e_sr0, e_srV, e_srR, e_ixA, e_ixL, e_ixT, e_at0, e_at1, e_at2, e_at3, e_addI, e_subI, e_gtI, e_ltI, e_leI, e_intI, e_intB, e_setM, e_putL, e_ix30, e_ix31, e_ix32, e_for, e_seqI, e_asl, e_ast, e_gset, e_yes, wipeL, unwipe, e_frzd, e_frzl, e_frzm, e_frzk, e_frzt, e_max2, e_min2, e_datas0, e_datas1, e_dispL, e_dispT, e_outs0, e_outsD, e_outsL, e_outsT, e_outsK, e_slotC, e_fn, fin_rt, fin_nx, e_eqAS, e_neAS, e_eqAI, e_neAI, e_eqAB, e_neAB, e_meth, e_methO, e_isLl, e_isLd, e_tuL, e_tuD, e_tuT, e_liL, e_liD, e_liT, e_lenT, e_lenD, e_lenO, lt]
        · intro x hx
          rcases List.mem_append.mp hx with q | q
          · exact hacc x q
          · exact List.mem_singleton.mp q
      subst h1
      exact ⟨acc, e, h2⟩
    have zl : (zipD ((w0 :: wr).map .str) (wr.map .str)).length < sizeLine := by
      refine Nat.lt_of_le_of_lt ?_ ln
      have : ∀ xs ys : List D, (zipD xs ys).length ≤ xs.length := fun xs => by
        induction xs with
        | nil => intro ys; simp [zipD]
        | cons x xs ih =>
          intro ys
          cases ys with
          | nil => simp [zipD]
          | cons y ys => simp only [zipD, List.length_cons]; have := ih ys; omega
      have := this ((w0 :: wr).map .str) (wr.map .str)
      rwa [List.length_map] at this
    have fl : ((w0 :: wr).map D.str).length < sizeLine := by rw [List.length_map]; exact ln
    unfold mis_lot
    rw [e_fn 1 4 [0] _ [.d (.tup ((w0 :: wr).map .str))] rfl]
    have c1 : mIf (tOrM (tNotM (tstM (mOp isiC (maCons (gNameA 0) (maCons (mVal (mC (.ty "tuple"))) maNil))))) (tOrM (tstM (mOp eqA (maCons (gNameA 0) (maCons (mVal (mOp dispT maNil)) maNil)))) (tNotM (tstM (mOp allC (maCons (mVal (mLc [1] (miSeq (mName 0)) (gSet 1) tYesM (mCall mis_word (maCons (gNameA 1) maNil)))) maNil)))))) (mRet (mC (.bl false))) mSkip [some (.d (.tup ((w0 :: wr).map .str))), none, none, none] = some (.nx [some (.d (.tup ((w0 :: wr).map .str))), none, none, none]) := by
      have ln' : wr.length + 1 < sizeLine := ln
      simp -implicitDefEqProofs [e_seq, bS_nx, bS_rt, bS_bk, bS_ct, bS_no, e_skip, e_if, e_set, e_ret, e_retN, e_expr, e_setIx, e_op, e_nil, e_cons, e_val, e_frz, e_arg, gA_d, gA_l, gA_k, gA_t, gA_m, e_name, nA_d, nA_l, nA_k, nA_t, nA_m, e_move, vA_s, e_c, e_conts0, e_conts1, e_contV, e_contR, e_tst, e_tnot, e_tand, e_tor, e_ifE, e_call, e_refs0, e_refsV, e_refsR, e_sr0, e_srV, e_srR, e_ixA, e_ixL, e_ixT, e_at0, e_at1, e_at2, e_at3, e_addI, e_subI, e_gtI, e_ltI, e_leI, e_intI, e_intB, e_setM, e_putL, e_ix30, e_ix31, e_ix32, e_for, e_seqI, e_asl, e_ast, e_gset, e_yes, wipeL, unwipe, e_frzd, e_frzl, e_frzm, e_frzk, e_frzt, e_max2, e_min2, e_datas0, e_datas1, e_dispL, e_dispT, e_outs0, e_outsD, e_outsL, e_outsT, e_outsK, e_slotC, e_fn, fin_rt, fin_nx, e_eqAS, e_neAS, e_eqAI, e_neAI, e_eqAB, e_neAB, e_meth, e_methO, e_isLl, e_isLd, e_tuL, e_tuD, e_tuT, e_liL, e_liD, e_liT, e_lenT, e_lenD, e_lenO, isi_tt, eq0, e_lc, ln', lc, al, -List.map_cons]
    have c2 : mRet (mOp allC (maCons (mVal (mLc [2, 3] (miZip (maCons (mVal (mName 0)) (maCons (mVal (mFrz (mSl (gNameA 0) (moSome (mC (.int 1))) moNone))) maNil))) (gUnp 2 (gsCons (gSet 2) (gsCons (gSet 3) gsNil))) tYesM (mOp ltC (maCons (gNameA 2) (maCons (gNameA 3) maNil))))) maNil)) [some (.d (.tup ((w0 :: wr).map .str))), none, none, none] = some (.rt (.d (.bl true)) [some (.d (.tup ((w0 :: wr).map .str))), none, none, none]) := by
      have la := all_true hr
      simp -implicitDefEqProofs [e_seq, bS_nx, bS_rt, bS_bk, bS_ct, bS_no, e_skip, e_if, e_set, e_ret, e_retN, e_expr, e_setIx, e_op, e_nil, e_cons, e_val, e_frz, e_arg, gA_d, gA_l, gA_k, gA_t, gA_m, e_name, nA_d, nA_l, nA_k, nA_t, nA_m, e_move, vA_s, e_c, e_conts0, e_conts1, e_contV, e_contR, e_tst, e_tnot, e_tand, e_tor, e_ifE, e_call, e_refs0, e_refsV, e_refsR, e_sr0, e_srV, e_srR, e_ixA, e_ixL, e_ixT, e_at0, e_at1, e_at2, e_at3, e_addI, e_subI, e_gtI, e_ltI, e_leI, e_intI, e_intB, e_setM, e_putL, e_ix30, e_ix31, e_ix32, e_for, e_seqI, e_asl, e_ast, e_gset, e_yes, wipeL, unwipe, e_frzd, e_frzl, e_frzm, e_frzk, e_frzt, e_max2, e_min2, e_datas0, e_datas1, e_dispL, e_dispT, e_outs0, e_outsD, e_outsL, e_outsT, e_outsK, e_slotC, e_fn, fin_rt, fin_nx, e_eqAS, e_neAS, e_eqAI, e_neAI, e_eqAB, e_neAB, e_meth, e_methO, e_isLl, e_isLd, e_tuL, e_tuD, e_tuT, e_liL, e_liD, e_liT, e_lenT, e_lenD, e_lenO, e_lc, zz, zl, lz, la, -List.map_cons]
    show fin _ _ (mSeq _ _ [some (.d (.tup ((w0 :: wr).map .str))), none, none, none]) = _
    rw [e_seq, c1, bS_nx, c2]
    simp -implicitDefEqProofs [e_seq, bS_nx, bS_rt, bS_bk, bS_ct, bS_no, e_skip, e_if, e_set, e_ret, e_retN, e_expr, e_setIx, e_op, e_nil, e_cons, e_val, e_frz, e_arg, gA_d, gA_l, gA_k, gA_t, gA_m, e_name, nA_d, nA_l, nA_k, nA_t, nA_m, e_move, vA_s, e_c, e_conts0, e_conts1, e_contV, e_contR, e_tst, e_tnot, e_tand, e_tor, e_ifE, e_call, e_refs0, e_refsV, e_refsR, e_sr0, e_srV, e_srR, e_ixA, e_ixL, e_ixT, e_at0, e_at1, e_at2, e_at3, e_addI, e_subI, e_gtI, e_ltI, e_leI, e_intI, e_intB, e_setM, e_putL, e_ix30, e_ix31, e_ix32, e_for, e_seqI, e_asl, e_ast, e_gset, e_yes, wipeL, unwipe, e_frzd, e_frzl, e_frzm, e_frzk, e_frzt, e_max2, e_min2, e_datas0, e_datas1, e_dispL, e_dispT, e_outs0, e_outsD, e_outsL, e_outsT, e_outsK, e_slotC, e_fn, fin_rt, fin_nx, e_eqAS, e_neAS, e_eqAI, e_neAI, e_eqAB, e_neAB, e_meth, e_methO, e_isLl, e_isLd, e_tuL, e_tuD, e_tuT, e_liL, e_liD, e_liT, e_lenT, e_lenD, e_lenO]
theorem isTrue_all {α : Type} {j : Nat} {elt : ME} {L3 : Ls} (ys : List D) (acc : List D) (hj : L3[j]? = some none) (h : ∀ y ∈ ys, elt (L3.set j (some (.d y))) = some (.d (.bl true), L3.set j (some (.d y)))) (ha : ∀ z ∈ acc, z = D.bl true) :
    ∃ acc', lcM [j] (gSet j) tYesM elt ys acc L3 = some (acc', L3) ∧ acc'.length = acc.length + ys.length ∧ ∀ z ∈ acc', z = D.bl true := by
  have := lc_sel (j := j) (tst := tYesM) (elt := elt) (L := L3) (fun y : D => y) (fun _ => D.bl true) (fun _ => true) hj ys acc fun y hy => ⟨rfl, fun _ => ⟨.d (.bl true), h y hy, rfl⟩⟩
  have e : ys.filter (fun _ => true) = ys := List.filter_eq_self.mpr fun _ _ => rfl
  rw [e, List.map_id'] at this
  refine ⟨_, this, by simp, fun z hz => ?_⟩
  rcases List.mem_append.mp hz with q | q
  · exact ha z q
  · obtain ⟨_, _, rfl⟩ := List.mem_map.mp q; rfl
theorem lc2_true {α : Type} {j1 j2 : Nat} {mi1 : MI} {elt : ME} {L : Ls} (g : α → D) (ys : α → List D) (hj1 : L[j1]? = some none) (hj2 : L[j2]? = some none) (hne : j1 ≠ j2) : ∀ (xs : List α) (acc : List D),
    (∀ a ∈ xs, mi1 (L.set j1 (some (.d (g a)))) = some (ys a, L.set j1 (some (.d (g a)))) ∧ (ys a).length ≤ 26 ∧ ∀ y ∈ ys a, elt ((L.set j1 (some (.d (g a)))).set j2 (some (.d y))) = some (.d (.bl true), (L.set j1 (some (.d (g a)))).set j2 (some (.d y)))) →
    acc.length + 26 * xs.length ≤ 10000 → (∀ z ∈ acc, z = D.bl true) → ∃ acc', lc2M [j1, j2] [j2] (gSet j1) tYesM mi1 (gSet j2) tYesM elt (xs.map g) acc L = some (acc', L) ∧ ∀ z ∈ acc', z = D.bl true
  | [], acc, _, _, ha => ⟨acc, rfl, ha⟩
  | a :: xs, acc, h, hl, ha => by
    have l1 : j1 < L.length := (List.getElem?_eq_some_iff.mp hj1).1
    have l2 : j2 < L.length := (List.getElem?_eq_some_iff.mp hj2).1
    obtain ⟨h1, h2, h3⟩ := h a (List.mem_cons_self ..)
    have k2 : (L.set j1 (some (.d (g a))))[j2]? = some none := by rw [List.getElem?_set_ne hne]; exact hj2
    have w1 : wipeL (L.set j1 (some (.d (g a)))) [j2] = L.set j1 (some (.d (g a))) := by
      show (L.set j1 (some (.d (g a)))).set j2 none = _
      apply List.ext_getElem?
      intro i
      by_cases q : j2 = i
      · subst q
        rw [List.getElem?_set_self (by simpa using l2), k2]
      · rw [List.getElem?_set_ne q]
    have w2 : wipeL (L.set j1 (some (.d (g a)))) [j1, j2] = L := by
      show (wipeL (L.set j1 (some (.d (g a)))) [j2]).set j1 none = L
      rw [w1, List.set_set]
      apply List.ext_getElem?
      intro i
      by_cases q : j1 = i
      · subst q
        rw [List.getElem?_set_self l1, hj1]
      · rw [List.getElem?_set_ne q]
    obtain ⟨acc', e1, e2, e3⟩ := isTrue_all (α := α) (ys a) acc k2 h3 ha
    simp only [List.length_cons] at hl
    obtain ⟨acc'', e4, e5⟩ := lc2_true g ys hj1 hj2 hne xs acc' (fun b hb => h b (List.mem_cons_of_mem _ hb)) (by omega) e3
    refine ⟨acc'', ?_, e5⟩
    have es : gSet j1 (g a) L = some (L.set j1 (some (.d (g a)))) := by rw [e_gset, if_pos l1]
    have hs : acc.length + (ys a).length < sizeLine := Nat.lt_of_le_of_lt (show acc.length + (ys a).length ≤ 10000 by omega) (by decide)
    rw [List.map_cons]
    unfold lc2M
    simp only [es, e_yes, h1, hs, if_true, w1, e1, w2, e4]
theorem e_lc2 {j1 j2 : Nat} {mi mi1 : MI} {elt : ME} {L : Ls} {xs acc : List D} (hj1 : L[j1]? = some none) (hj2 : L[j2]? = some none) (h : mi L = some (xs, L)) (h2 : lc2M [j1, j2] [j2] (gSet j1) tYesM mi1 (gSet j2) tYesM elt xs [] L = some (acc, L)) :
    mLc2 [j1, j2] [j2] mi (gSet j1) tYesM mi1 (gSet j2) tYesM elt L = some (.l acc, L) := by
  have l1 : j1 < L.length := (List.getElem?_eq_some_iff.mp hj1).1
  have l2 : j2 < L.length := (List.getElem?_eq_some_iff.mp hj2).1
  have st : ∀ (M : Ls) (j : Nat), M[j]? = some none → M.set j none = M := fun M j hj => by
    have hl : j < M.length := (List.getElem?_eq_some_iff.mp hj).1
    apply List.ext_getElem?
    intro i
    by_cases q : j = i
    · subst q
      rw [List.getElem?_set_self hl, hj]
    · rw [List.getElem?_set_ne q]
  have w : wipeL L [j1, j2] = L := by
    show (L.set j2 none).set j1 none = L
    rw [st L j2 hj2, st L j1 hj1]
  have u : unwipe L L [j1, j2] = L := by
    unfold unwipe unwipe unwipe
    rw [hj1, hj2]
    show (L.set j2 none).set j1 none = L
    rw [st L j2 hj2, st L j1 hj1]
  unfold mLc2
  rw [h]
  show (match lc2M [j1, j2] [j2] (gSet j1) tYesM mi1 (gSet j2) tYesM elt xs [] (wipeL L [j1, j2]) with | some (r, L2) => some (C.l r, unwipe L L2 [j1, j2]) | none => none) = _
  rw [w, h2]
  show some (C.l acc, unwipe L L [j1, j2]) = _
  rw [u]
theorem between_true {v : Int} (h0 : 0 ≤ v) (h1 : v ≤ 1000000000) : mis_between [.d (.int 0), .d (.int v), .d (.int 1000000000)] = some (.d (.bl true), [.d (.int 0), .d (.int v), .d (.int 1000000000)]) := by
  have mi : mis_integer [.d (.int v)] = some (.d (.bl true), [.d (.int v)]) := by
    simp -implicitDefEqProofs [mis_integer, e_seq, bS_nx, bS_rt, bS_bk, bS_ct, bS_no, e_skip, e_if, e_set, e_ret, e_retN, e_expr, e_setIx, e_op, e_nil, e_cons, e_val, e_frz, e_arg, gA_d, gA_l, gA_k, gA_t, gA_m, e_name, nA_d, nA_l, nA_k, nA_t, nA_m, e_move, vA_s, e_c, e_conts0, e_conts1, e_contV, e_contR, e_tst, e_tnot, e_tand, e_tor, e_ifE, e_call, e_refs0, e_refsV, e_refsR, e_sr0, e_srV, e_srR, e_ixA, e_ixL, e_ixT, e_at0, e_at1, e_at2, e_at3, e_addI, e_subI, e_gtI, e_ltI, e_leI, e_intI, e_intB, e_setM, e_putL, e_ix30, e_ix31, e_ix32, e_for, e_seqI, e_asl, e_ast, e_gset, e_yes, wipeL, unwipe, e_frzd, e_frzl, e_frzm, e_frzk, e_frzt, e_max2, e_min2, e_datas0, e_datas1, e_dispL, e_dispT, e_outs0, e_outsD, e_outsL, e_outsT, e_outsK, e_slotC, e_fn, fin_rt, fin_nx, e_eqAS, e_neAS, e_eqAI, e_neAI, e_eqAB, e_neAB, e_meth, e_methO, e_isLl, e_isLd, e_tuL, e_tuD, e_tuT, e_liL, e_liD, e_liT, e_lenT, e_lenD, e_lenO, e_andV, e_notV, isi_ii, isi_ib]
  simp -implicitDefEqProofs [mis_between, e_seq, bS_nx, bS_rt, bS_bk, bS_ct, bS_no, e_skip, e_if, e_set, e_ret, e_retN, e_expr, e_setIx, e_op, e_nil, e_cons, e_val, e_frz, e_arg, gA_d, gA_l, gA_k, gA_t, gA_m, e_name, nA_d, nA_l, nA_k, nA_t, nA_m, e_move, vA_s, e_c, e_conts0, e_conts1, e_contV, e_contR, e_tst, e_tnot, e_tand, e_tor, e_ifE, e_call, e_refs0, e_refsV, e_refsR, e_sr0, e_srV, e_srR, e_ixA, e_ixL, e_ixT, e_at0, e_at1, e_at2, e_at3, e_addI, e_subI, e_gtI, e_ltI, e_leI, e_intI, e_intB, e_setM, e_putL, e_ix30, e_ix31, e_ix32, e_for, e_seqI, e_asl, e_ast, e_gset, e_yes, wipeL, unwipe, e_frzd, e_frzl, e_frzm, e_frzk, e_frzt, e_max2, e_min2, e_datas0, e_datas1, e_dispL, e_dispT, e_outs0, e_outsD, e_outsL, e_outsT, e_outsK, e_slotC, e_fn, fin_rt, fin_nx, e_eqAS, e_neAS, e_eqAI, e_neAI, e_eqAB, e_neAB, e_meth, e_methO, e_isLl, e_isLd, e_tuL, e_tuD, e_tuT, e_liL, e_liD, e_liT, e_lenT, e_lenD, e_lenO, e_andV, mi, e_chain, h0, h1]
theorem rows_true {n : Nat} {f : Mat} (mo : MatOk n f) (h1 : 1 ≤ n) (h2 : n ≤ 26) : mare_rows [.d (.tup ((rowsOf n f).map .tup)), .d (.int n)] = some (.d (.bl true), [.d (.tup ((rowsOf n f).map .tup)), .d (.int n)]) := by
  have t1 : mis_tuple_of [.d (.int n), .d (.tup ((rowsOf n f).map .tup))] = some (.d (.bl true), [.d (.int n), .d (.tup ((rowsOf n f).map .tup))]) := by
    rw [tuple_of, decide_eq_true (by rw [List.length_map, rowsOf_len])]
  have hr : (rowsOf n f).map D.tup = (List.range n).map (rowD n f) := by
    simp [rowsOf, rowD]
  obtain ⟨r1, lc, al⟩ := lc_allT (j := 2) (elt := mCall mis_tuple_of (maCons (gNameA 1) (maCons (gNameA 2) maNil))) (L := [some (.d (.tup ((rowsOf n f).map .tup))), some (.d (.int n)), none, none, none, none]) (rowD n f) rfl (List.range n) fun i hi => by
    have t2 : mis_tuple_of [.d (.int n), .d (rowD n f i)] = some (.d (.bl true), [.d (.int n), .d (rowD n f i)]) := by
      unfold rowD
      rw [tuple_of, decide_eq_true (by simp)]
    simp -implicitDefEqProofs [e_seq, bS_nx, bS_rt, bS_bk, bS_ct, bS_no, e_skip, e_if, e_set, e_ret, e_retN, e_expr, e_setIx, e_op, e_nil, e_cons, e_val, e_frz, e_arg, gA_d, gA_l, gA_k, gA_t, gA_m, e_name, nA_d, nA_l, nA_k, nA_t, nA_m, e_move, vA_s, e_c, e_conts0, e_conts1, e_contV, e_contR, e_tst, e_tnot, e_tand, e_tor, e_ifE, e_call, e_refs0, e_refsV, e_refsR, e_sr0, e_srV, e_srR, e_ixA, e_ixL, e_ixT, e_at0, e_at1, e_at2, e_at3, e_addI, e_subI, e_gtI, e_ltI, e_leI, e_intI, e_intB, e_setM, e_putL, e_ix30, e_ix31, e_ix32, e_for, e_seqI, e_asl, e_ast, e_gset, e_yes, wipeL, unwipe, e_frzd, e_frzl, e_frzm, e_frzk, e_frzt, e_max2, e_min2, e_datas0, e_datas1, e_dispL, e_dispT, e_outs0, e_outsD, e_outsL, e_outsT, e_outsK, e_slotC, e_fn, fin_rt, fin_nx, e_eqAS, e_neAS, e_eqAI, e_neAI, e_eqAB, e_neAB, e_meth, e_methO, e_isLl, e_isLd, e_tuL, e_tuD, e_tuT, e_liL, e_liD, e_liT, e_lenT, e_lenD, e_lenO, t2]
  rw [← hr] at lc
  have ln : (rowsOf n f).length < sizeLine := by rw [rowsOf_len]; exact Nat.lt_of_le_of_lt h2 (by decide)
  have miS : miSeq (mName 0) [some (.d (.tup ((rowsOf n f).map .tup))), some (.d (.int n)), none, none, none, none] = some ((rowsOf n f).map .tup, [some (.d (.tup ((rowsOf n f).map .tup))), some (.d (.int n)), none, none, none, none]) := by simp -implicitDefEqProofs [e_seq, bS_nx, bS_rt, bS_bk, bS_ct, bS_no, e_skip, e_if, e_set, e_ret, e_retN, e_expr, e_setIx, e_op, e_nil, e_cons, e_val, e_frz, e_arg, gA_d, gA_l, gA_k, gA_t, gA_m, e_name, nA_d, nA_l, nA_k, nA_t, nA_m, e_move, vA_s, e_c, e_conts0, e_conts1, e_contV, e_contR, e_tst, e_tnot, e_tand, e_tor, e_ifE, e_call, e_refs0, e_refsV, e_refsR, e_sr0, e_srV, e_srR, e_ixA, e_ixL, e_ixT, e_at0, e_at1, e_at2, e_at3, e_addI, e_subI, e_gtI, e_ltI, e_leI, e_intI, e_intB, e_setM, e_putL, e_ix30, e_ix31, e_ix32, e_for, e_seqI, e_asl, e_ast, e_gset, e_yes, wipeL, unwipe, e_frzd, e_frzl, e_frzm, e_frzk, e_frzt, e_max2, e_min2, e_datas0, e_datas1, e_dispL, e_dispT, e_outs0, e_outsD, e_outsL, e_outsT, e_outsK, e_slotC, e_fn, fin_rt, fin_nx, e_eqAS, e_neAS, e_eqAI, e_neAI, e_eqAB, e_neAB, e_meth, e_methO, e_isLl, e_isLd, e_tuL, e_tuD, e_tuT, e_liL, e_liD, e_liT, e_lenT, e_lenD, e_lenO]
  obtain ⟨a2, l2, al2⟩ := lc2_true (j1 := 2) (j2 := 3) (mi1 := miSeq (mName 2)) (elt := mCall mis_between (maCons (mVal (mC (.int 0))) (maCons (gNameA 3) (maCons (mVal (mC (.int 1000000000))) maNil)))) (L := [some (.d (.tup ((rowsOf n f).map .tup))), some (.d (.int n)), none, none, none, none]) (rowD n f) (fun i => (List.range n).map fun j => .int (f i j)) rfl rfl (by decide) (List.range n) [] (fun i hi => by
    have hi := List.mem_range.mp hi
    refine ⟨by simp -implicitDefEqProofs [e_seq, bS_nx, bS_rt, bS_bk, bS_ct, bS_no, e_skip, e_if, e_set, e_ret, e_retN, e_expr, e_setIx, e_op, e_nil, e_cons, e_val, e_frz, e_arg, gA_d, gA_l, gA_k, gA_t, gA_m, e_name, nA_d, nA_l, nA_k, nA_t, nA_m, e_move, vA_s, e_c, e_conts0, e_conts1, e_contV, e_contR, e_tst, e_tnot, e_tand, e_tor, e_ifE, e_call, e_refs0, e_refsV, e_refsR, e_sr0, e_srV, e_srR, e_ixA, e_ixL, e_ixT, e_at0, e_at1, e_at2, e_at3, e_addI, e_subI, e_gtI, e_ltI, e_leI, e_intI, e_intB, e_setM, e_putL, e_ix30, e_ix31, e_ix32, e_for, e_seqI, e_asl, e_ast, e_gset, e_yes, wipeL, unwipe, e_frzd, e_frzl, e_frzm, e_frzk, e_frzt, e_max2, e_min2, e_datas0, e_datas1, e_dispL, e_dispT, e_outs0, e_outsD, e_outsL, e_outsT, e_outsK, e_slotC, e_fn, fin_rt, fin_nx, e_eqAS, e_neAS, e_eqAI, e_neAI, e_eqAB, e_neAB, e_meth, e_methO, e_isLl, e_isLd, e_tuL, e_tuD, e_tuT, e_liL, e_liD, e_liT, e_lenT, e_lenD, e_lenO, rowD], by simpa using h2, fun y hy => ?_⟩
    obtain ⟨j, hj, rfl⟩ := List.mem_map.mp hy
    have hj := List.mem_range.mp hj
    have bt := between_true (mo i j hi hj).1 (mo i j hi hj).2.1
    simp -implicitDefEqProofs [e_seq, bS_nx, bS_rt, bS_bk, bS_ct, bS_no, e_skip, e_if, e_set, e_ret, e_retN, e_expr, e_setIx, e_op, e_nil, e_cons, e_val, e_frz, e_arg, gA_d, gA_l, gA_k, gA_t, gA_m, e_name, nA_d, nA_l, nA_k, nA_t, nA_m, e_move, vA_s, e_c, e_conts0, e_conts1, e_contV, e_contR, e_tst, e_tnot, e_tand, e_tor, e_ifE, e_call, e_refs0, e_refsV, e_refsR, e_sr0, e_srV, e_srR, e_ixA, e_ixL, e_ixT, e_at0, e_at1, e_at2, e_at3, e_addI, e_subI, e_gtI, e_ltI, e_leI, e_intI, e_intB, e_setM, e_putL, e_ix30, e_ix31, e_ix32, e_for, e_seqI, e_asl, e_ast, e_gset, e_yes, wipeL, unwipe, e_frzd, e_frzl, e_frzm, e_frzk, e_frzt, e_max2, e_min2, e_datas0, e_datas1, e_dispL, e_dispT, e_outs0, e_outsD, e_outsL, e_outsT, e_outsK, e_slotC, e_fn, fin_rt, fin_nx, e_eqAS, e_neAS, e_eqAI, e_neAI, e_eqAB, e_neAB, e_meth, e_methO, e_isLl, e_isLd, e_tuL, e_tuD, e_tuT, e_liL, e_liD, e_liT, e_lenT, e_lenD, e_lenO, bt]) (by simp; omega) (by simp)
  rw [← hr] at l2
  have L2 := e_lc2 (j1 := 2) (j2 := 3) rfl rfl miS l2
  have r1n := e_r1B (maCons (gNameA 1) maNil) [some (.d (.tup ((rowsOf n f).map .tup))), some (.d (.int n)), none, none, none, none] n _ _ rfl rfl (by omega)
  have rng : rngD 0 n = (List.range n).map fun i : Nat => D.int i := by
    apply List.ext_getElem?
    intro i
    cases e : (rngD 0 n)[i]? with
    | none =>
      rw [List.getElem?_eq_none_iff, rngD_len] at e
      rw [List.getElem?_eq_none (by simpa using e)]
    | some x =>
      obtain ⟨rfl, hi⟩ := rngD_get0 _ _ _ e
      simp [hi]
  obtain ⟨a3, l3, al3⟩ := lc2_true (j1 := 4) (j2 := 5) (mi1 := miR1 (maCons (gNameA 1) maNil)) (elt := mOp eqA (maCons (mVal (mOp ixA (maCons (mVal (mOp ixA (maCons (gNameA 0) (maCons (gNameA 4) maNil)))) (maCons (gNameA 5) maNil)))) (maCons (mVal (mIfE (tstM (mOp neA (maCons (gNameA 4) (maCons (gNameA 5) maNil)))) (mOp ixA (maCons (mVal (mOp ixA (maCons (gNameA 0) (maCons (gNameA 5) maNil)))) (maCons (gNameA 4) maNil))) (mC (.int 0)))) maNil))) (L := [some (.d (.tup ((rowsOf n f).map .tup))), some (.d (.int n)), none, none, none, none]) (fun i : Nat => D.int i) (fun _ => rngD 0 n) rfl rfl (by decide) (List.range n) [] (fun i hi => by
    have hi := List.mem_range.mp hi
    refine ⟨e_r1B _ _ n [.val (.d (.int n))] _ rfl rfl (by omega), by rw [rngD_len]; exact h2, fun y hy => ?_⟩
    rw [rng] at hy
    obtain ⟨j, hj, rfl⟩ := List.mem_map.mp hy
    have hj := List.mem_range.mp hj
    obtain ⟨_, _, sy, zd⟩ := mo i j hi hj
    by_cases e : i = j
    · subst e
      simp -implicitDefEqProofs [e_seq, bS_nx, bS_rt, bS_bk, bS_ct, bS_no, e_skip, e_if, e_set, e_ret, e_retN, e_expr, e_setIx, e_op, e_nil, e_cons, e_val, e_frz, e_arg, gA_d, gA_l, gA_k, gA_t, gA_m, e_name, nA_d, nA_l, nA_k, nA_t, nA_m, e_move, vA_s, e_c, e_conts0, e_conts1, e_contV, e_contR, e_tst, e_tnot, e_tand, e_tor, e_ifE, e_call, e_refs0, e_refsV, e_refsR, e_sr0, e_srV, e_srR, e_ixA, e_ixL, e_at0, e_at1, e_at2, e_at3, e_addI, e_subI, e_gtI, e_ltI, e_leI, e_intI, e_intB, e_setM, e_putL, e_ix30, e_ix31, e_ix32, e_for, e_seqI, e_asl, e_ast, e_gset, e_yes, wipeL, unwipe, e_frzd, e_frzl, e_frzm, e_frzk, e_frzt, e_max2, e_min2, e_datas0, e_datas1, e_dispL, e_dispT, e_outs0, e_outsD, e_outsL, e_outsT, e_outsK, e_slotC, e_fn, fin_rt, fin_nx, e_eqAS, e_neAS, e_eqAI, e_neAI, e_eqAB, e_neAB, e_meth, e_methO, e_isLl, e_isLd, e_tuL, e_tuD, e_tuT, e_liL, e_liD, e_liT, e_lenT, e_lenD, e_lenO, rows_ix hi, row_ix hi, zd]
    · have ne : ¬ (i : Int) = j := by omega
      simp -implicitDefEqProofs [e_seq, bS_nx, bS_rt, bS_bk, bS_ct, bS_no, e_skip, e_if, e_set, e_ret, e_retN, e_expr, e_setIx, e_op, e_nil, e_cons, e_val, e_frz, e_arg, gA_d, gA_l, gA_k, gA_t, gA_m, e_name, nA_d, nA_l, nA_k, nA_t, nA_m, e_move, vA_s, e_c, e_conts0, e_conts1, e_contV, e_contR, e_tst, e_tnot, e_tand, e_tor, e_ifE, e_call, e_refs0, e_refsV, e_refsR, e_sr0, e_srV, e_srR, e_ixA, e_ixL, e_at0, e_at1, e_at2, e_at3, e_addI, e_subI, e_gtI, e_ltI, e_leI, e_intI, e_intB, e_setM, e_putL, e_ix30, e_ix31, e_ix32, e_for, e_seqI, e_asl, e_ast, e_gset, e_yes, wipeL, unwipe, e_frzd, e_frzl, e_frzm, e_frzk, e_frzt, e_max2, e_min2, e_datas0, e_datas1, e_dispL, e_dispT, e_outs0, e_outsD, e_outsL, e_outsT, e_outsK, e_slotC, e_fn, fin_rt, fin_nx, e_eqAS, e_neAS, e_eqAI, e_neAI, e_eqAB, e_neAB, e_meth, e_methO, e_isLl, e_isLd, e_tuL, e_tuD, e_tuT, e_liL, e_liD, e_liT, e_lenT, e_lenD, e_lenO, rows_ix hi, rows_ix hj, row_ix hi, row_ix hj, e, ne, sy]) (by simp; omega) (by simp)
  rw [← rng] at l3
  have L3 := e_lc2 (j1 := 4) (j2 := 5) rfl rfl r1n l3
  have A2 := all_true al2
  have A3 := all_true al3
  simp -implicitDefEqProofs [mare_rows, e_seq, bS_nx, bS_rt, bS_bk, bS_ct, bS_no, e_skip, e_if, e_set, e_ret, e_retN, e_expr, e_setIx, e_op, e_nil, e_cons, e_val, e_frz, e_arg, gA_d, gA_l, gA_k, gA_t, gA_m, e_name, nA_d, nA_l, nA_k, nA_t, nA_m, e_move, vA_s, e_c, e_conts0, e_conts1, e_contV, e_contR, e_tst, e_tnot, e_tand, e_tor, e_ifE, e_call, e_refs0, e_refsV, e_refsR, e_sr0, e_srV, e_srR, e_ixA, e_ixL, e_ixT, e_at0, e_at1, e_at2, e_at3, e_addI, e_subI, e_gtI, e_ltI, e_leI, e_intI, e_intB, e_setM, e_putL, e_ix30, e_ix31, e_ix32, e_for, e_seqI, e_asl, e_ast, e_gset, e_yes, wipeL, unwipe, e_frzd, e_frzl, e_frzm, e_frzk, e_frzt, e_max2, e_min2, e_datas0, e_datas1, e_dispL, e_dispT, e_outs0, e_outsD, e_outsL, e_outsT, e_outsK, e_slotC, e_fn, fin_rt, fin_nx, e_eqAS, e_neAS, e_eqAI, e_neAI, e_eqAB, e_neAB, e_meth, e_methO, e_isLl, e_isLd, e_tuL, e_tuD, e_tuT, e_liL, e_liD, e_liT, e_lenT, e_lenD, e_lenO, t1, e_lc, ln, lc, al, L2, A2, L3, A3]
theorem are_true {many : Nat} {ws : List PySem.Str} (N : NamesOk many ws) (h1 : 1 ≤ many) (h2 : many ≤ 12) {f : Mat} (mo : MatOk ws.length f) : mare_distances [.d (distD ws f)] = some (.d (.bl true), [.d (distD ws f)]) := by
  have wl := N.len
  have t1 : mis_tuple_of [.d (.int 2), .d (distD ws f)] = some (.d (.bl true), [.d (.int 2), .d (distD ws f)]) := tuple_of 2 _
  have l1 := lot_true N h1 (by omega)
  have r1 := rows_true mo (by omega) (by omega)
  have c : ¬ ((12 : Int) < ws.length) := by omega
  simp -implicitDefEqProofs [mare_distances, e_seq, bS_nx, bS_rt, bS_bk, bS_ct, bS_no, e_skip, e_if, e_set, e_ret, e_retN, e_expr, e_setIx, e_op, e_nil, e_cons, e_val, e_frz, e_arg, gA_d, gA_l, gA_k, gA_t, gA_m, e_name, nA_d, nA_l, nA_k, nA_t, nA_m, e_move, vA_s, e_c, e_conts0, e_conts1, e_contV, e_contR, e_tst, e_tnot, e_tand, e_tor, e_ifE, e_call, e_refs0, e_refsV, e_refsR, e_sr0, e_srV, e_srR, e_ixA, e_ixL, e_at0, e_at1, e_at2, e_at3, e_addI, e_subI, e_gtI, e_ltI, e_leI, e_intI, e_intB, e_setM, e_putL, e_ix30, e_ix31, e_ix32, e_for, e_seqI, e_asl, e_ast, e_gset, e_yes, wipeL, unwipe, e_frzd, e_frzl, e_frzm, e_frzk, e_frzt, e_max2, e_min2, e_datas0, e_datas1, e_dispL, e_dispT, e_outs0, e_outsD, e_outsL, e_outsT, e_outsK, e_slotC, e_fn, fin_rt, fin_nx, e_eqAS, e_neAS, e_eqAI, e_neAI, e_eqAB, e_neAB, e_meth, e_methO, e_isLl, e_isLd, e_tuL, e_tuD, e_tuT, e_liL, e_liD, e_liT, e_lenT, e_lenD, e_lenO, t1, dist_ix0, dist_ix1, l1, c, r1]
theorem check_true {many : Nat} {ws : List PySem.Str} (N : NamesOk many ws) (h1 : 1 ≤ many) (h2 : many ≤ 12) {f : Mat} (mo : MatOk ws.length f) : mcheck_distances [.d (distD ws f)] = some (.d .non, [.d (distD ws f)]) := by
  simp -implicitDefEqProofs [mcheck_distances, e_seq, bS_nx, bS_rt, bS_bk, bS_ct, bS_no, e_skip, e_if, e_set, e_ret, e_retN, e_expr, e_setIx, e_op, e_nil, e_cons, e_val, e_frz, e_arg, gA_d, gA_l, gA_k, gA_t, gA_m, e_name, nA_d, nA_l, nA_k, nA_t, nA_m, e_move, vA_s, e_c, e_conts0, e_conts1, e_contV, e_contR, e_tst, e_tnot, e_tand, e_tor, e_ifE, e_call, e_refs0, e_refsV, e_refsR, e_sr0, e_srV, e_srR, e_ixA, e_ixL, e_ixT, e_at0, e_at1, e_at2, e_at3, e_addI, e_subI, e_gtI, e_ltI, e_leI, e_intI, e_intB, e_setM, e_putL, e_ix30, e_ix31, e_ix32, e_for, e_seqI, e_asl, e_ast, e_gset, e_yes, wipeL, unwipe, e_frzd, e_frzl, e_frzm, e_frzk, e_frzt, e_max2, e_min2, e_datas0, e_datas1, e_dispL, e_dispT, e_outs0, e_outsD, e_outsL, e_outsT, e_outsK, e_slotC, e_fn, fin_rt, fin_nx, e_eqAS, e_neAS, e_eqAI, e_neAI, e_eqAB, e_neAB, e_meth, e_methO, e_isLl, e_isLd, e_tuL, e_tuD, e_tuT, e_liL, e_liD, e_liT, e_lenT, e_lenD, e_lenO, are_true N h1 h2 mo]
/-! ### fours -/
def TabOk (ws : List PySem.Str) (ks : List (List Key)) (vs : List D) : Prop := ∀ x ∈ ws, ∀ y ∈ ws, ∃ v : Int, ixA [.t ks vs, .d (.tup [.str x, .str y])] = some (.d (.int v))
theorem mem_nm {ws : List PySem.Str} {x : PySem.Str} (h : x ∈ ws) : ∃ i, i < ws.length ∧ nm ws i = x := by
  obtain ⟨i, hi, e⟩ := List.getElem_of_mem h
  exact ⟨i, hi, by rw [nm_get (List.getElem?_eq_getElem hi), e]⟩
theorem tab_ok {ws : List PySem.Str} (nd : ws.Nodup) (hw : ws.length ≤ 26) (f : Mat) : TabOk ws (tab ws f).1 (tab ws f).2 := fun x hx y hy => by
  obtain ⟨i, hi, rfl⟩ := mem_nm hx
  obtain ⟨j, hj, rfl⟩ := mem_nm hy
  exact ⟨_, tab_ix nd hw f hi hj⟩
def cntI (ns : List Int) (m : Int) : Int := ((toPys (ns.map .int)).countP fun z => PyData.eqv z (.int m) : Nat)
theorem e_cntI (ns : List Int) (m : Int) : cntC [.l (ns.map .int), .d (.int m)] = some (.d (.int (cntI ns m))) := by
  have : asL (.l (ns.map .int)) = some (ns.map .int) := rfl
  unfold cntC
  simp only [this, frz, okD_int, okD_ints, Bool.and_self, if_true]
  rfl
theorem e_max3 (a b c : Int) : maxC [.l [.int a, .int b, .int c]] = some (.d (.int (max a (max b c)))) := rfl
theorem bad_both {ws : List PySem.Str} {ks : List (List Key)} {vs : List D} (T : TabOk ws ks vs) {a b c d : PySem.Str} (ha : a ∈ ws) (hb : b ∈ ws) (hc : c ∈ ws) (hd : d ∈ ws) :
    ∃ r : Bool, m_law_bad [.t ks vs, .d (.tup [.str a, .str b, .str c, .str d])] = some (.d (.bl r), [.t ks vs, .d (.tup [.str a, .str b, .str c, .str d])]) ∧ mis_bad_four [.t ks vs, .d (.tup [.str a, .str b, .str c, .str d])] = some (.d (.bl r), [.t ks vs, .d (.tup [.str a, .str b, .str c, .str d])]) := by
  obtain ⟨ab, e1⟩ := T a ha b hb
  obtain ⟨cd, e2⟩ := T c hc d hd
  obtain ⟨ac, e3⟩ := T a ha c hc
  obtain ⟨bd, e4⟩ := T b hb d hd
  obtain ⟨ad, e5⟩ := T a ha d hd
  obtain ⟨bc, e6⟩ := T b hb c hc
  have cn : ∀ m, cntC [.l [.int (ab + cd), .int (ac + bd), .int (ad + bc)], .d (.int m)] = some (.d (.int (cntI [ab + cd, ac + bd, ad + bc] m))) := fun m => e_cntI [ab + cd, ac + bd, ad + bc] m
  have un : mUnp (gUnp 4 (gsCons (gSet 2) (gsCons (gSet 3) (gsCons (gSet 4) (gsCons (gSet 5) gsNil))))) (mName 1) [some (.t ks vs), some (.d (.tup [.str a, .str b, .str c, .str d])), none, none, none, none, none] = some (.nx [some (.t ks vs), some (.d (.tup [.str a, .str b, .str c, .str d])), some (.d (.str a)), some (.d (.str b)), some (.d (.str c)), some (.d (.str d)), none]) := rfl
  refine ⟨decide (cntI [ab + cd, ac + bd, ad + bc] (max (ab + cd) (max (ac + bd) (ad + bc))) = 1), ?_, ?_⟩
  · simp -implicitDefEqProofs [m_law_bad, e_seq, bS_nx, bS_rt, bS_bk, bS_ct, bS_no, e_skip, e_if, e_set, e_ret, e_retN, e_expr, e_setIx, e_op, e_nil, e_cons, e_val, e_frz, e_arg, gA_d, gA_l, gA_k, gA_t, gA_m, e_name, nA_d, nA_l, nA_k, nA_t, nA_m, e_move, vA_s, e_c, e_conts0, e_conts1, e_contV, e_contR, e_tst, e_tnot, e_tand, e_tor, e_ifE, e_call, e_refs0, e_refsV, e_refsR, e_sr0, e_srV, e_srR, e_ixA, e_ixL, e_ixT, e_at0, e_at1, e_at2, e_at3, e_addI, e_subI, e_gtI, e_ltI, e_leI, e_intI, e_intB, e_setM, e_putL, e_ix30, e_ix31, e_ix32, e_for, e_seqI, e_asl, e_ast, e_gset, e_yes, wipeL, unwipe, e_frzd, e_frzl, e_frzm, e_frzk, e_frzt, e_max2, e_min2, e_datas0, e_datas1, e_dispL, e_dispT, e_outs0, e_outsD, e_outsL, e_outsT, e_outsK, e_slotC, e_fn, fin_rt, fin_nx, e_eqAS, e_neAS, e_eqAI, e_neAI, e_eqAB, e_neAB, e_meth, e_methO, e_isLl, e_isLd, e_tuL, e_tuD, e_tuT, e_liL, e_liD, e_liT, e_lenT, e_lenD, e_lenO, un, e1, e2, e3, e4, e5, e6, e_max3, cn]
  · have og : ∀ x y z : Int, mone_is_greatest [.l [.int x, .int y, .int z]] = some (.d (.bl (decide (cntI [x, y, z] (max x (max y z)) = 1))), [.l [.int x, .int y, .int z]]) := fun x y z => by
      have cn : ∀ m, cntC [.l [.int x, .int y, .int z], .d (.int m)] = some (.d (.int (cntI [x, y, z] m))) := fun m => e_cntI [x, y, z] m
      simp -implicitDefEqProofs [mone_is_greatest, e_seq, bS_nx, bS_rt, bS_bk, bS_ct, bS_no, e_skip, e_if, e_set, e_ret, e_retN, e_expr, e_setIx, e_op, e_nil, e_cons, e_val, e_frz, e_arg, gA_d, gA_l, gA_k, gA_t, gA_m, e_name, nA_d, nA_l, nA_k, nA_t, nA_m, e_move, vA_s, e_c, e_conts0, e_conts1, e_contV, e_contR, e_tst, e_tnot, e_tand, e_tor, e_ifE, e_call, e_refs0, e_refsV, e_refsR, e_sr0, e_srV, e_srR, e_ixA, e_ixL, e_ixT, e_at0, e_at1, e_at2, e_at3, e_addI, e_subI, e_gtI, e_ltI, e_leI, e_intI, e_intB, e_setM, e_putL, e_ix30, e_ix31, e_ix32, e_for, e_seqI, e_asl, e_ast, e_gset, e_yes, wipeL, unwipe, e_frzd, e_frzl, e_frzm, e_frzk, e_frzt, e_max2, e_min2, e_datas0, e_datas1, e_dispL, e_dispT, e_outs0, e_outsD, e_outsL, e_outsT, e_outsK, e_slotC, e_fn, fin_rt, fin_nx, e_eqAS, e_neAS, e_eqAI, e_neAI, e_eqAB, e_neAB, e_meth, e_methO, e_isLl, e_isLd, e_tuL, e_tuD, e_tuT, e_liL, e_liD, e_liT, e_lenT, e_lenD, e_lenO, e_max3, cn]
    simp -implicitDefEqProofs [mis_bad_four, e_seq, bS_nx, bS_rt, bS_bk, bS_ct, bS_no, e_skip, e_if, e_set, e_ret, e_retN, e_expr, e_setIx, e_op, e_nil, e_cons, e_val, e_frz, e_arg, gA_d, gA_l, gA_k, gA_t, gA_m, e_name, nA_d, nA_l, nA_k, nA_t, nA_m, e_move, vA_s, e_c, e_conts0, e_conts1, e_contV, e_contR, e_tst, e_tnot, e_tand, e_tor, e_ifE, e_call, e_refs0, e_refsV, e_refsR, e_sr0, e_srV, e_srR, e_ixA, e_ixL, e_ixT, e_at0, e_at1, e_at2, e_at3, e_addI, e_subI, e_gtI, e_ltI, e_leI, e_intI, e_intB, e_setM, e_putL, e_ix30, e_ix31, e_ix32, e_for, e_seqI, e_asl, e_ast, e_gset, e_yes, wipeL, unwipe, e_frzd, e_frzl, e_frzm, e_frzk, e_frzt, e_max2, e_min2, e_datas0, e_datas1, e_dispL, e_dispT, e_outs0, e_outsD, e_outsL, e_outsT, e_outsK, e_slotC, e_fn, fin_rt, fin_nx, e_eqAS, e_neAS, e_eqAI, e_neAI, e_eqAB, e_neAB, e_meth, e_methO, e_isLl, e_isLd, e_tuL, e_tuD, e_tuT, e_liL, e_liD, e_liT, e_lenT, e_lenD, e_lenO, un, e1, e2, e3, e4, e5, e6, og]
def Val4 (ws : List PySem.Str) (v : D) : Prop := ∃ a b c d, a ∈ ws ∧ b ∈ ws ∧ c ∈ ws ∧ d ∈ ws ∧ v = .tup [.str a, .str b, .str c, .str d]
theorem e_r2B (m : MA) (L : Ls) (lo hi : Nat) (avs : List AV) (L' : Ls) (h : m L = some (avs, L')) (h2 : conts L' avs = some [.d (.int lo), .d (.int hi)]) (h3 : lo < 1000000) (h4 : hi < 1000000) : miR2 m L = some (rngD lo (hi - lo), L') := by
  unfold miR2
  rw [h]
  simp only [h2]
  have h62 : (2 : Int) ^ 62 = 4611686018427387904 := by decide
  rw [h62, if_pos (by omega)]
  congr 3
  omega
theorem rngD_getN (lo n i : Nat) (x : D) (h : (rngD lo n)[i]? = some x) : x = .int (lo + i : Nat) ∧ i < n := by
  have hi : i < n := by
    have := (List.getElem?_eq_some_iff.mp h).1
    rwa [rngD_len] at this
  rw [rngD_get lo n i hi] at h
  refine ⟨?_, hi⟩
  rw [← Option.some.inj h]
  push_cast
  rfl
theorem nm_ix {ws : List PySem.Str} {i : Nat} (h : i < ws.length) : ixA [.d (.tup (ws.map .str)), .d (.int i)] = some (.d (.str (nm ws i))) := by
  rw [e_ixT, atI_ge (k := i) rfl (by simpa using h), List.getElem?_map, nm_get (List.getElem?_eq_getElem h), List.getElem?_eq_getElem h]
  rfl
theorem first_four_ok {ws : List PySem.Str} {ks : List (List Key)} {vs : List D} (T : TabOk ws ks vs) (hw : ws.length ≤ 26) :
    ∃ r, m_law_first_four [.d (.tup (ws.map .str)), .t ks vs] = some (.d r, [.d (.tup (ws.map .str)), .t ks vs]) ∧ (r = .non ∨ Val4 ws r) := by
  let R : C → Ls → Prop := fun c L => ∃ v y2 y3 y4 y5 y6, c = .d v ∧ Val4 ws v ∧ L = [some (.d (.tup (ws.map .str))), some (.t ks vs), y2, y3, y4, y5, y6]
  have h1 : ∀ a b c : Nat, a < ws.length → b < ws.length → c < ws.length → ∀ y5 y6,
      (∃ y5' y6', b_law_first_four_2 [some (.d (.tup (ws.map .str))), some (.t ks vs), some (.d (.int a)), some (.d (.int b)), some (.d (.int c)), y5, y6] = some (.nx [some (.d (.tup (ws.map .str))), some (.t ks vs), some (.d (.int a)), some (.d (.int b)), some (.d (.int c)), y5', y6'])) ∨ ∃ r L', b_law_first_four_2 [some (.d (.tup (ws.map .str))), some (.t ks vs), some (.d (.int a)), some (.d (.int b)), some (.d (.int c)), y5, y6] = some (.rt r L') ∧ R r L' := fun a b c ha hb hc y5 y6 => by
    have rr := e_r2B (maCons (gNameA 4) (maCons (mVal (mOp lenC (maCons (gNameA 0) maNil))) maNil)) [some (.d (.tup (ws.map .str))), some (.t ks vs), some (.d (.int a)), some (.d (.int b)), some (.d (.int c)), y5, y6] c ws.length [.val (.d (.int c)), .val (.d (.int ws.length))] [some (.d (.tup (ws.map .str))), some (.t ks vs), some (.d (.int a)), some (.d (.int b)), some (.d (.int c)), y5, y6] (by simp -implicitDefEqProofs [e_seq, bS_nx, bS_rt, bS_bk, bS_ct, bS_no, e_skip, e_if, e_set, e_ret, e_retN, e_expr, e_setIx, e_op, e_nil, e_cons, e_val, e_frz, e_arg, gA_d, gA_l, gA_k, gA_t, gA_m, e_name, nA_d, nA_l, nA_k, nA_t, nA_m, e_move, vA_s, e_c, e_conts0, e_conts1, e_contV, e_contR, e_tst, e_tnot, e_tand, e_tor, e_ifE, e_call, e_refs0, e_refsV, e_refsR, e_sr0, e_srV, e_srR, e_ixA, e_ixL, e_ixT, e_at0, e_at1, e_at2, e_at3, e_addI, e_subI, e_gtI, e_ltI, e_leI, e_intI, e_intB, e_setM, e_putL, e_ix30, e_ix31, e_ix32, e_for, e_seqI, e_asl, e_ast, e_gset, e_yes, wipeL, unwipe, e_frzd, e_frzl, e_frzm, e_frzk, e_frzt, e_max2, e_min2, e_datas0, e_datas1, e_dispL, e_dispT, e_outs0, e_outsD, e_outsL, e_outsT, e_outsK, e_slotC, e_fn, fin_rt, fin_nx, e_eqAS, e_neAS, e_eqAI, e_neAI, e_eqAB, e_neAB, e_meth, e_methO, e_isLl, e_isLd, e_tuL, e_tuD, e_tuT, e_liL, e_liD, e_liT, e_lenT, e_lenD, e_lenO]) rfl (by omega) (by omega)
    have := for_gen (mt := gSet 5) (body := b_law_first_four_1) (fun _ L => ∃ y5 y6, L = [some (.d (.tup (ws.map .str))), some (.t ks vs), some (.d (.int a)), some (.d (.int b)), some (.d (.int c)), y5, y6]) R (rngD c (ws.length - c)) 0 _ ⟨y5, y6, rfl⟩ fun i x L hx ⟨y5, y6, hL⟩ => by
      subst hL
      obtain ⟨rfl, hi⟩ := rngD_getN _ _ _ _ hx
      obtain ⟨r, eb, _⟩ := bad_both T (nm_mem ha) (nm_mem hb) (nm_mem hc) (nm_mem (show c + i < ws.length by omega))
      refine ⟨_, rfl, ?_⟩
      cases r with
      | false =>
        refine .inl ⟨_, ?_, some (.d (.int (c + i : Nat))), some (.d (.tup [.str (nm ws a), .str (nm ws b), .str (nm ws c), .str (nm ws (c + i))])), rfl⟩
        simp -implicitDefEqProofs [b_law_first_four_1, e_seq, bS_nx, bS_rt, bS_bk, bS_ct, bS_no, e_skip, e_if, e_set, e_ret, e_retN, e_expr, e_setIx, e_op, e_nil, e_cons, e_val, e_frz, e_arg, gA_d, gA_l, gA_k, gA_t, gA_m, e_name, nA_d, nA_l, nA_k, nA_t, nA_m, e_move, vA_s, e_c, e_conts0, e_conts1, e_contV, e_contR, e_tst, e_tnot, e_tand, e_tor, e_ifE, e_call, e_refs0, e_refsV, e_refsR, e_sr0, e_srV, e_srR, e_ixA, e_ixL, e_at0, e_at1, e_at2, e_at3, e_addI, e_subI, e_gtI, e_ltI, e_leI, e_intI, e_intB, e_setM, e_putL, e_ix30, e_ix31, e_ix32, e_for, e_seqI, e_asl, e_ast, e_gset, e_yes, wipeL, unwipe, e_frzd, e_frzl, e_frzm, e_frzk, e_frzt, e_max2, e_min2, e_datas0, e_datas1, e_dispL, e_dispT, e_outs0, e_outsD, e_outsL, e_outsT, e_outsK, e_slotC, e_fn, fin_rt, fin_nx, e_eqAS, e_neAS, e_eqAI, e_neAI, e_eqAB, e_neAB, e_meth, e_methO, e_isLl, e_isLd, e_tuL, e_tuD, e_tuT, e_liL, e_liD, e_liT, e_lenT, e_lenD, e_lenO, nm_ix ha, nm_ix hb, nm_ix hc, nm_ix (show c + i < ws.length by omega), eb, -Int.natCast_add]
      | true =>
        refine .inr ⟨.d (.tup [.str (nm ws a), .str (nm ws b), .str (nm ws c), .str (nm ws (c + i))]), [some (.d (.tup (ws.map .str))), some (.t ks vs), some (.d (.int a)), some (.d (.int b)), some (.d (.int c)), some (.d (.int (c + i : Nat))), none], ?_, _, some (.d (.int a)), some (.d (.int b)), some (.d (.int c)), some (.d (.int (c + i : Nat))), none, rfl, ⟨_, _, _, _, nm_mem ha, nm_mem hb, nm_mem hc, nm_mem (show c + i < ws.length by omega), rfl⟩, rfl⟩
        simp -implicitDefEqProofs [b_law_first_four_1, e_seq, bS_nx, bS_rt, bS_bk, bS_ct, bS_no, e_skip, e_if, e_set, e_ret, e_retN, e_expr, e_setIx, e_op, e_nil, e_cons, e_val, e_frz, e_arg, gA_d, gA_l, gA_k, gA_t, gA_m, e_name, nA_d, nA_l, nA_k, nA_t, nA_m, e_move, vA_s, e_c, e_conts0, e_conts1, e_contV, e_contR, e_tst, e_tnot, e_tand, e_tor, e_ifE, e_call, e_refs0, e_refsV, e_refsR, e_sr0, e_srV, e_srR, e_ixA, e_ixL, e_at0, e_at1, e_at2, e_at3, e_addI, e_subI, e_gtI, e_ltI, e_leI, e_intI, e_intB, e_setM, e_putL, e_ix30, e_ix31, e_ix32, e_for, e_seqI, e_asl, e_ast, e_gset, e_yes, wipeL, unwipe, e_frzd, e_frzl, e_frzm, e_frzk, e_frzt, e_max2, e_min2, e_datas0, e_datas1, e_dispL, e_dispT, e_outs0, e_outsD, e_outsL, e_outsT, e_outsK, e_slotC, e_fn, fin_rt, fin_nx, e_eqAS, e_neAS, e_eqAI, e_neAI, e_eqAB, e_neAB, e_meth, e_methO, e_isLl, e_isLd, e_tuL, e_tuD, e_tuT, e_liL, e_liD, e_liT, e_lenT, e_lenD, e_lenO, nm_ix ha, nm_ix hb, nm_ix hc, nm_ix (show c + i < ws.length by omega), eb, -Int.natCast_add]
    unfold b_law_first_four_2
    rw [e_for, rr]
    rcases this with ⟨L', e, y5', y6', rfl⟩ | ⟨r, L', e, h⟩
    · exact .inl ⟨y5', y6', e⟩
    · exact .inr ⟨r, L', e, h⟩
  have h2 : ∀ a b : Nat, a < ws.length → b < ws.length → ∀ y4 y5 y6,
      (∃ y4' y5' y6', b_law_first_four_3 [some (.d (.tup (ws.map .str))), some (.t ks vs), some (.d (.int a)), some (.d (.int b)), y4, y5, y6] = some (.nx [some (.d (.tup (ws.map .str))), some (.t ks vs), some (.d (.int a)), some (.d (.int b)), y4', y5', y6'])) ∨ ∃ r L', b_law_first_four_3 [some (.d (.tup (ws.map .str))), some (.t ks vs), some (.d (.int a)), some (.d (.int b)), y4, y5, y6] = some (.rt r L') ∧ R r L' := fun a b ha hb y4 y5 y6 => by
    have rr := e_r2B (maCons (gNameA 3) (maCons (mVal (mOp lenC (maCons (gNameA 0) maNil))) maNil)) [some (.d (.tup (ws.map .str))), some (.t ks vs), some (.d (.int a)), some (.d (.int b)), y4, y5, y6] b ws.length [.val (.d (.int b)), .val (.d (.int ws.length))] [some (.d (.tup (ws.map .str))), some (.t ks vs), some (.d (.int a)), some (.d (.int b)), y4, y5, y6] (by simp -implicitDefEqProofs [e_seq, bS_nx, bS_rt, bS_bk, bS_ct, bS_no, e_skip, e_if, e_set, e_ret, e_retN, e_expr, e_setIx, e_op, e_nil, e_cons, e_val, e_frz, e_arg, gA_d, gA_l, gA_k, gA_t, gA_m, e_name, nA_d, nA_l, nA_k, nA_t, nA_m, e_move, vA_s, e_c, e_conts0, e_conts1, e_contV, e_contR, e_tst, e_tnot, e_tand, e_tor, e_ifE, e_call, e_refs0, e_refsV, e_refsR, e_sr0, e_srV, e_srR, e_ixA, e_ixL, e_ixT, e_at0, e_at1, e_at2, e_at3, e_addI, e_subI, e_gtI, e_ltI, e_leI, e_intI, e_intB, e_setM, e_putL, e_ix30, e_ix31, e_ix32, e_for, e_seqI, e_asl, e_ast, e_gset, e_yes, wipeL, unwipe, e_frzd, e_frzl, e_frzm, e_frzk, e_frzt, e_max2, e_min2, e_datas0, e_datas1, e_dispL, e_dispT, e_outs0, e_outsD, e_outsL, e_outsT, e_outsK, e_slotC, e_fn, fin_rt, fin_nx, e_eqAS, e_neAS, e_eqAI, e_neAI, e_eqAB, e_neAB, e_meth, e_methO, e_isLl, e_isLd, e_tuL, e_tuD, e_tuT, e_liL, e_liD, e_liT, e_lenT, e_lenD, e_lenO]) rfl (by omega) (by omega)
    have := for_gen (mt := gSet 4) (body := b_law_first_four_2) (fun _ L => ∃ y4 y5 y6, L = [some (.d (.tup (ws.map .str))), some (.t ks vs), some (.d (.int a)), some (.d (.int b)), y4, y5, y6]) R (rngD b (ws.length - b)) 0 _ ⟨y4, y5, y6, rfl⟩ fun i x L hx ⟨y4, y5, y6, hL⟩ => by
      subst hL
      obtain ⟨rfl, hi⟩ := rngD_getN _ _ _ _ hx
      refine ⟨_, rfl, ?_⟩
      rcases h1 a b (b + i) ha hb (by omega) y5 y6 with ⟨z5, z6, e⟩ | ⟨r, L', e, h⟩
      · exact .inl ⟨_, e, _, _, _, rfl⟩
      · exact .inr ⟨r, L', e, h⟩
    unfold b_law_first_four_3
    rw [e_for, rr]
    rcases this with ⟨L', e, y4', y5', y6', rfl⟩ | ⟨r, L', e, h⟩
    · exact .inl ⟨y4', y5', y6', e⟩
    · exact .inr ⟨r, L', e, h⟩
  have h3 : ∀ a : Nat, a < ws.length → ∀ y3 y4 y5 y6,
      (∃ y3' y4' y5' y6', b_law_first_four_4 [some (.d (.tup (ws.map .str))), some (.t ks vs), some (.d (.int a)), y3, y4, y5, y6] = some (.nx [some (.d (.tup (ws.map .str))), some (.t ks vs), some (.d (.int a)), y3', y4', y5', y6'])) ∨ ∃ r L', b_law_first_four_4 [some (.d (.tup (ws.map .str))), some (.t ks vs), some (.d (.int a)), y3, y4, y5, y6] = some (.rt r L') ∧ R r L' := fun a ha y3 y4 y5 y6 => by
    have rr := e_r2B (maCons (gNameA 2) (maCons (mVal (mOp lenC (maCons (gNameA 0) maNil))) maNil)) [some (.d (.tup (ws.map .str))), some (.t ks vs), some (.d (.int a)), y3, y4, y5, y6] a ws.length [.val (.d (.int a)), .val (.d (.int ws.length))] [some (.d (.tup (ws.map .str))), some (.t ks vs), some (.d (.int a)), y3, y4, y5, y6] (by simp -implicitDefEqProofs [e_seq, bS_nx, bS_rt, bS_bk, bS_ct, bS_no, e_skip, e_if, e_set, e_ret, e_retN, e_expr, e_setIx, e_op, e_nil, e_cons, e_val, e_frz, e_arg, gA_d, gA_l, gA_k, gA_t, gA_m, e_name, nA_d, nA_l, nA_k, nA_t, nA_m, e_move, vA_s, e_c, e_conts0, e_conts1, e_contV, e_contR, e_tst, e_tnot, e_tand, e_tor, e_ifE, e_call, e_refs0, e_refsV, e_refsR, e_sr0, e_srV, e_srR, e_ixA, e_ixL, e_ixT, e_at0, e_at1, e_at2, e_at3, e_addI, e_subI, e_gtI, e_ltI, e_leI, e_intI, e_intB, e_setM, e_putL, e_ix30, e_ix31, e_ix32, e_for, e_seqI, e_asl, e_ast, e_gset, e_yes, wipeL, unwipe, e_frzd, e_frzl, e_frzm, e_frzk, e_frzt, e_max2, e_min2, e_datas0, e_datas1, e_dispL, e_dispT, e_outs0, e_outsD, e_outsL, e_outsT, e_outsK, e_slotC, e_fn, fin_rt, fin_nx, e_eqAS, e_neAS, e_eqAI, e_neAI, e_eqAB, e_neAB, e_meth, e_methO, e_isLl, e_isLd, e_tuL, e_tuD, e_tuT, e_liL, e_liD, e_liT, e_lenT, e_lenD, e_lenO]) rfl (by omega) (by omega)
    have := for_gen (mt := gSet 3) (body := b_law_first_four_3) (fun _ L => ∃ y3 y4 y5 y6, L = [some (.d (.tup (ws.map .str))), some (.t ks vs), some (.d (.int a)), y3, y4, y5, y6]) R (rngD a (ws.length - a)) 0 _ ⟨y3, y4, y5, y6, rfl⟩ fun i x L hx ⟨y3, y4, y5, y6, hL⟩ => by
      subst hL
      obtain ⟨rfl, hi⟩ := rngD_getN _ _ _ _ hx
      refine ⟨_, rfl, ?_⟩
      rcases h2 a (a + i) ha (by omega) y4 y5 y6 with ⟨z4, z5, z6, e⟩ | ⟨r, L', e, h⟩
      · exact .inl ⟨_, e, _, _, _, _, rfl⟩
      · exact .inr ⟨r, L', e, h⟩
    unfold b_law_first_four_4
    rw [e_for, rr]
    rcases this with ⟨L', e, y3', y4', y5', y6', rfl⟩ | ⟨r, L', e, h⟩
    · exact .inl ⟨y3', y4', y5', y6', e⟩
    · exact .inr ⟨r, L', e, h⟩
  have rr := e_r1B (maCons (mVal (mOp lenC (maCons (gNameA 0) maNil))) maNil) [some (.d (.tup (ws.map .str))), some (.t ks vs), none, none, none, none, none] ws.length [.val (.d (.int ws.length))] [some (.d (.tup (ws.map .str))), some (.t ks vs), none, none, none, none, none] (by simp -implicitDefEqProofs [e_seq, bS_nx, bS_rt, bS_bk, bS_ct, bS_no, e_skip, e_if, e_set, e_ret, e_retN, e_expr, e_setIx, e_op, e_nil, e_cons, e_val, e_frz, e_arg, gA_d, gA_l, gA_k, gA_t, gA_m, e_name, nA_d, nA_l, nA_k, nA_t, nA_m, e_move, vA_s, e_c, e_conts0, e_conts1, e_contV, e_contR, e_tst, e_tnot, e_tand, e_tor, e_ifE, e_call, e_refs0, e_refsV, e_refsR, e_sr0, e_srV, e_srR, e_ixA, e_ixL, e_ixT, e_at0, e_at1, e_at2, e_at3, e_addI, e_subI, e_gtI, e_ltI, e_leI, e_intI, e_intB, e_setM, e_putL, e_ix30, e_ix31, e_ix32, e_for, e_seqI, e_asl, e_ast, e_gset, e_yes, wipeL, unwipe, e_frzd, e_frzl, e_frzm, e_frzk, e_frzt, e_max2, e_min2, e_datas0, e_datas1, e_dispL, e_dispT, e_outs0, e_outsD, e_outsL, e_outsT, e_outsK, e_slotC, e_fn, fin_rt, fin_nx, e_eqAS, e_neAS, e_eqAI, e_neAI, e_eqAB, e_neAB, e_meth, e_methO, e_isLl, e_isLd, e_tuL, e_tuD, e_tuT, e_liL, e_liD, e_liT, e_lenT, e_lenD, e_lenO]) rfl (by omega)
  have := for_gen (mt := gSet 2) (body := b_law_first_four_4) (fun _ L => ∃ y2 y3 y4 y5 y6, L = [some (.d (.tup (ws.map .str))), some (.t ks vs), y2, y3, y4, y5, y6]) R (rngD 0 ws.length) 0 _ ⟨none, none, none, none, none, rfl⟩ fun i x L hx ⟨y2, y3, y4, y5, y6, hL⟩ => by
    subst hL
    obtain ⟨rfl, hi⟩ := rngD_get0 _ _ _ hx
    refine ⟨_, rfl, ?_⟩
    rcases h3 i hi y3 y4 y5 y6 with ⟨z3, z4, z5, z6, e⟩ | ⟨r, L', e, h⟩
    · exact .inl ⟨_, e, _, _, _, _, _, rfl⟩
    · exact .inr ⟨r, L', e, h⟩
  rcases this with ⟨L', e, y2, y3, y4, y5, y6, rfl⟩ | ⟨r, L', e, v, y2, y3, y4, y5, y6, rfl, hv, rfl⟩
  · refine ⟨.non, ?_, .inl rfl⟩
    simp -implicitDefEqProofs [m_law_first_four, e_seq, bS_nx, bS_rt, bS_bk, bS_ct, bS_no, e_skip, e_if, e_set, e_ret, e_retN, e_expr, e_setIx, e_op, e_nil, e_cons, e_val, e_frz, e_arg, gA_d, gA_l, gA_k, gA_t, gA_m, e_name, nA_d, nA_l, nA_k, nA_t, nA_m, e_move, vA_s, e_c, e_conts0, e_conts1, e_contV, e_contR, e_tst, e_tnot, e_tand, e_tor, e_ifE, e_call, e_refs0, e_refsV, e_refsR, e_sr0, e_srV, e_srR, e_ixA, e_ixL, e_ixT, e_at0, e_at1, e_at2, e_at3, e_addI, e_subI, e_gtI, e_ltI, e_leI, e_intI, e_intB, e_setM, e_putL, e_ix30, e_ix31, e_ix32, e_for, e_seqI, e_asl, e_ast, e_gset, e_yes, wipeL, unwipe, e_frzd, e_frzl, e_frzm, e_frzk, e_frzt, e_max2, e_min2, e_datas0, e_datas1, e_dispL, e_dispT, e_outs0, e_outsD, e_outsL, e_outsT, e_outsK, e_slotC, e_fn, fin_rt, fin_nx, e_eqAS, e_neAS, e_eqAI, e_neAI, e_eqAB, e_neAB, e_meth, e_methO, e_isLl, e_isLd, e_tuL, e_tuD, e_tuT, e_liL, e_liD, e_liT, e_lenT, e_lenD, e_lenO, rr, e]
  · refine ⟨v, ?_, .inr hv⟩
    simp -implicitDefEqProofs [m_law_first_four, e_seq, bS_nx, bS_rt, bS_bk, bS_ct, bS_no, e_skip, e_if, e_set, e_ret, e_retN, e_expr, e_setIx, e_op, e_nil, e_cons, e_val, e_frz, e_arg, gA_d, gA_l, gA_k, gA_t, gA_m, e_name, nA_d, nA_l, nA_k, nA_t, nA_m, e_move, vA_s, e_c, e_conts0, e_conts1, e_contV, e_contR, e_tst, e_tnot, e_tand, e_tor, e_ifE, e_call, e_refs0, e_refsV, e_refsR, e_sr0, e_srV, e_srR, e_ixA, e_ixL, e_ixT, e_at0, e_at1, e_at2, e_at3, e_addI, e_subI, e_gtI, e_ltI, e_leI, e_intI, e_intB, e_setM, e_putL, e_ix30, e_ix31, e_ix32, e_for, e_seqI, e_asl, e_ast, e_gset, e_yes, wipeL, unwipe, e_frzd, e_frzl, e_frzm, e_frzk, e_frzt, e_max2, e_min2, e_datas0, e_datas1, e_dispL, e_dispT, e_outs0, e_outsD, e_outsL, e_outsT, e_outsK, e_slotC, e_fn, fin_rt, fin_nx, e_eqAS, e_neAS, e_eqAI, e_neAI, e_eqAB, e_neAB, e_meth, e_methO, e_isLl, e_isLd, e_tuL, e_tuD, e_tuT, e_liL, e_liD, e_liT, e_lenT, e_lenD, e_lenO, rr, e]
/-! ### things, what is due -/
theorem e_addT {xs ys : List D} (h : xs.length + ys.length ≤ 1000) : addC [.d (.tup xs), .d (.tup ys)] = some (.d (.tup (xs ++ ys))) := by
  have a1 : add1C [.d (.tup xs), .d (.tup ys)] = none := rfl
  have a2 : addSC [.d (.tup xs), .d (.tup ys)] = none := rfl
  have h' : xs.length + ys.length ≤ sizeLine := Nat.le_trans h (by decide)
  simp [addC, orC, a1, a2, addTC, asT, h']
theorem lc_bls {α : Type} {j : Nat} {elt : ME} {L : Ls} (g : α → D) (b : α → Bool) (hj : L[j]? = some none) (xs : List α) (h : ∀ a ∈ xs, elt (L.set j (some (.d (g a)))) = some (.d (.bl (b a)), L.set j (some (.d (g a))))) :
    lcM [j] (gSet j) tYesM elt (xs.map g) [] L = some ((xs.map b).map .bl, L) := by
  have := lc_sel (j := j) (tst := tYesM) (elt := elt) (L := L) g (fun a => .bl (b a)) (fun _ => true) hj xs [] fun a ha => ⟨rfl, fun _ => ⟨_, h a ha, rfl⟩⟩
  rw [List.nil_append] at this
  have e : xs.filter (fun _ => true) = xs := List.filter_eq_self.mpr fun _ _ => rfl
  rw [e] at this
  rw [this, List.map_map]
  rfl
theorem eqLL {xs ys : List D} (h : okD (.lst xs) = true) (g : okD (.lst ys) = true) : ∃ k : Bool, eqA [.l xs, .l ys] = some (.d (.bl k)) ∧ neA [.l xs, .l ys] = some (.d (.bl !k)) := by
  have a1 : eqSC [.l xs, .l ys] = none := rfl
  have a2 : neSC [.l xs, .l ys] = none := rfl
  refine ⟨PyData.eqv (toPy (.lst xs)) (toPy (.lst ys)), ?_, ?_⟩
  · simp only [eqA, orC, a1, eqC, eqB, frz, h, g, Bool.and_self, if_true, Option.map_some]
  · simp only [neA, orC, a2, neC, eqB, frz, h, g, Bool.and_self, if_true, Option.map_some]
theorem e_repr {v : D} (h : okR v = true) : reprC [.d v] = some (.d (.str (reprS v))) := by
  show (if okR v = true then _ else _) = _
  rw [if_pos h]
  rfl
theorem e_reprL {xs : List D} (h : okR (.lst xs) = true) : reprC [.l xs] = some (.d (.str (reprS (.lst xs)))) := by
  show (if okR (.lst xs) = true then _ else _) = _
  rw [if_pos h]
  rfl
def RepOk (v : D) : Prop := ∃ s, reprC [.d v] = some (.d (.str s))
theorem Nice.rep {d w : Nat} {x : D} (h : Nice d w x) (h1 : d ≤ 64) (h2 : w ≤ 1048576) : RepOk x := ⟨_, e_repr (h.okR h1 h2)⟩
def badW (z : PySem.Str) : Prop := ∃ l, z = mkS l ∧ (l.length = 0 ∨ 8 < l.length) ∧ l.length ≤ 1000 ∧ LetL l
inductive Thing (ws : List PySem.Str) : D → Prop
  | four {a b c d : PySem.Str} : a ∈ ws → b ∈ ws → c ∈ ws → d ∈ ws → Thing ws (.tup [.str a, .str b, .str c, .str d])
  | notup {v : D} : isiC [.d v, .d (.ty "tuple")] = some (.d (.bl false)) → RepOk v → Thing ws v
  | short {xs : List D} : xs.length ≠ 4 → RepOk (.tup xs) → Thing ws (.tup xs)
  | lastN {a b c : PySem.Str} : a ∈ ws → b ∈ ws → c ∈ ws → Thing ws (.tup [.str a, .str b, .str c, .non])
  | lastW {a b c z : PySem.Str} : a ∈ ws → b ∈ ws → c ∈ ws → badW z → Thing ws (.tup [.str a, .str b, .str c, .str z])
theorem nice4 {xs : List D} (h : ∀ x ∈ xs, Nice 0 1000 x) : Nice 1 (xs.length * 1001) (.tup xs) := nice_tup h
theorem badW.nice {z : PySem.Str} (h : badW z) : Nice 0 1000 (.str z) := by
  obtain ⟨l, rfl, _, h2, h3⟩ := h
  exact (nice_str h3).mono (Nat.le_refl _) h2
theorem WOk.nice {z : PySem.Str} (h : WOk z) : Nice 0 1000 (.str z) := (nice_word h).mono (Nat.le_refl _) (by decide)
theorem badW.word {z : PySem.Str} (h : badW z) : mis_word [.d (.str z)] = some (.d (.bl false), [.d (.str z)]) := by
  obtain ⟨l, rfl, h1, h2, _⟩ := h
  exact word_len h1 h2
theorem badW.nin {z : PySem.Str} (h : badW z) {ws : List PySem.Str} (ok : ∀ w ∈ ws, WOk w) : z ∉ ws := fun hz => by
  obtain ⟨l, rfl, h1, h2, _⟩ := h
  obtain ⟨m, e, _, h3, h4⟩ := ok _ hz
  have := mkS_inj e
  subst this
  have := List.length_pos_iff.mpr h3
  omega
theorem Thing.rep {ws : List PySem.Str} (ok : ∀ w ∈ ws, WOk w) {v : D} (h : Thing ws v) : RepOk v := by
  cases h with
  | four ha hb hc hd =>
    refine (nice4 fun x hx => ?_).rep (by decide) (by simp)
    simp only [List.mem_cons, List.not_mem_nil, or_false] at hx
    rcases hx with rfl | rfl | rfl | rfl
    · exact (ok _ ha).nice
    · exact (ok _ hb).nice
    · exact (ok _ hc).nice
    · exact (ok _ hd).nice
  | notup _ h => exact h
  | short _ h => exact h
  | lastN ha hb hc =>
    refine (nice4 fun x hx => ?_).rep (by decide) (by simp)
    simp only [List.mem_cons, List.not_mem_nil, or_false] at hx
    rcases hx with rfl | rfl | rfl | rfl
    · exact (ok _ ha).nice
    · exact (ok _ hb).nice
    · exact (ok _ hc).nice
    · exact nice_non.mono (Nat.le_refl _) (by decide)
  | lastW ha hb hc hz =>
    refine (nice4 fun x hx => ?_).rep (by decide) (by simp)
    simp only [List.mem_cons, List.not_mem_nil, or_false] at hx
    rcases hx with rfl | rfl | rfl | rfl
    · exact (ok _ ha).nice
    · exact (ok _ hb).nice
    · exact (ok _ hc).nice
    · exact hz.nice
theorem due_ok {many : Nat} {ws : List PySem.Str} (N : NamesOk many ws) (h1 : 1 ≤ many) (h2 : many ≤ 12) {f : Mat} (mo : MatOk ws.length f) {v : D} (h : Thing ws v) :
    ∃ r : Bool, m_law_due [.d (.tup (ws.map .str)), .t (tab ws f).1 (tab ws f).2, .d v] = some (.d (.bl r), [.d (.tup (ws.map .str)), .t (tab ws f).1 (tab ws f).2, .d v]) ∧ mfour_holds [.d (distD ws f), .d v] = some (.d (.bl r), [.d (distD ws f), .d v]) := by
  have wl := N.len
  have T := tab_ok N.nd (show ws.length ≤ 26 by omega) f
  have ck := check_true N h1 h2 mo
  have tb := table_of_ok (show 1 ≤ ws.length by omega) (show ws.length ≤ 26 by omega) f
  have inE : ∀ x : PySem.Str, inA [.d (.str x), .d (.tup (ws.map .str))] = some (.d (.bl (decide (x ∈ ws)))) := fun x => e_inStrs x ws
  have i4 : (4 : Nat) < sizeLine := by decide
  -- the two comprehensions over four values
  have isStr4 : ∀ (xs : List D) (isS : D → Bool), (∀ x ∈ xs, isiC [.d x, .d (.ty "str")] = some (.d (.bl (isS x)))) → lcM [3] (gSet 3) tYesM (mOp isiC (maCons (gNameA 3) (maCons (mVal (mC (.ty "str"))) maNil))) xs [] [some (.d (.tup (ws.map .str))), some (.t (tab ws f).1 (tab ws f).2), some (.d (.tup xs)), none] = some ((xs.map isS).map .bl, [some (.d (.tup (ws.map .str))), some (.t (tab ws f).1 (tab ws f).2), some (.d (.tup xs)), none]) := fun xs isS h => by
    have := lc_bls (α := D) (j := 3) (elt := mOp isiC (maCons (gNameA 3) (maCons (mVal (mC (.ty "str"))) maNil))) (L := [some (.d (.tup (ws.map .str))), some (.t (tab ws f).1 (tab ws f).2), some (.d (.tup xs)), none]) (fun x => x) isS rfl xs fun x hx => by simp -implicitDefEqProofs [e_seq, bS_nx, bS_rt, bS_bk, bS_ct, bS_no, e_skip, e_if, e_set, e_ret, e_retN, e_expr, e_setIx, e_op, e_nil, e_cons, e_val, e_frz, e_arg, gA_d, gA_l, gA_k, gA_t, gA_m, e_name, nA_d, nA_l, nA_k, nA_t, nA_m, e_move, vA_s, e_c, e_conts0, e_conts1, e_contV, e_contR, e_tst, e_tnot, e_tand, e_tor, e_ifE, e_call, e_refs0, e_refsV, e_refsR, e_sr0, e_srV, e_srR, e_ixA, e_ixL, e_ixT, e_at0, e_at1, e_at2, e_at3, e_addI, e_subI, e_gtI, e_ltI, e_leI, e_intI, e_intB, e_setM, e_putL, e_ix30, e_ix31, e_ix32, e_for, e_seqI, e_asl, e_ast, e_gset, e_yes, wipeL, unwipe, e_frzd, e_frzl, e_frzm, e_frzk, e_frzt, e_max2, e_min2, e_datas0, e_datas1, e_dispL, e_dispT, e_outs0, e_outsD, e_outsL, e_outsT, e_outsK, e_slotC, e_fn, fin_rt, fin_nx, e_eqAS, e_neAS, e_eqAI, e_neAI, e_eqAB, e_neAB, e_meth, e_methO, e_isLl, e_isLd, e_tuL, e_tuD, e_tuT, e_liL, e_liD, e_liT, e_lenT, e_lenD, e_lenO, h x hx]
    rwa [List.map_id'] at this
  have isIn4 : ∀ (qs : List PySem.Str), lcM [3] (gSet 3) tYesM (mOp inA (maCons (gNameA 3) (maCons (gNameA 0) maNil))) (qs.map .str) [] [some (.d (.tup (ws.map .str))), some (.t (tab ws f).1 (tab ws f).2), some (.d (.tup (qs.map .str))), none] = some ((qs.map fun q => decide (q ∈ ws)).map .bl, [some (.d (.tup (ws.map .str))), some (.t (tab ws f).1 (tab ws f).2), some (.d (.tup (qs.map .str))), none]) := fun qs =>
    lc_bls (j := 3) (elt := mOp inA (maCons (gNameA 3) (maCons (gNameA 0) maNil))) (L := [some (.d (.tup (ws.map .str))), some (.t (tab ws f).1 (tab ws f).2), some (.d (.tup (qs.map .str))), none]) D.str (fun q => decide (q ∈ ws)) rfl qs fun x hx => by simp -implicitDefEqProofs [e_seq, bS_nx, bS_rt, bS_bk, bS_ct, bS_no, e_skip, e_if, e_set, e_ret, e_retN, e_expr, e_setIx, e_op, e_nil, e_cons, e_val, e_frz, e_arg, gA_d, gA_l, gA_k, gA_t, gA_m, e_name, nA_d, nA_l, nA_k, nA_t, nA_m, e_move, vA_s, e_c, e_conts0, e_conts1, e_contV, e_contR, e_tst, e_tnot, e_tand, e_tor, e_ifE, e_call, e_refs0, e_refsV, e_refsR, e_sr0, e_srV, e_srR, e_ixA, e_ixL, e_ixT, e_at0, e_at1, e_at2, e_at3, e_addI, e_subI, e_gtI, e_ltI, e_leI, e_intI, e_intB, e_setM, e_putL, e_ix30, e_ix31, e_ix32, e_for, e_seqI, e_asl, e_ast, e_gset, e_yes, wipeL, unwipe, e_frzd, e_frzl, e_frzm, e_frzk, e_frzt, e_max2, e_min2, e_datas0, e_datas1, e_dispL, e_dispT, e_outs0, e_outsD, e_outsL, e_outsT, e_outsK, e_slotC, e_fn, fin_rt, fin_nx, e_eqAS, e_neAS, e_eqAI, e_neAI, e_eqAB, e_neAB, e_meth, e_methO, e_isLl, e_isLd, e_tuL, e_tuD, e_tuT, e_liL, e_liD, e_liT, e_lenT, e_lenD, e_lenO, inE]
  have isWd4 : ∀ (xs : List D) (isW : D → Bool), (∀ x ∈ xs, (isW x = false ∧ mis_word [.d x] = some (.d (.bl false), [.d x])) ∨ (isW x = true ∧ mis_word [.d x] = some (.d (.bl true), [.d x]) ∧ ∃ q ∈ ws, x = .str q)) → lcM [3] (gSet 3) tYesM (mAndV (mCall mis_word (maCons (gNameA 3) maNil)) (mOp inA (maCons (gNameA 3) (maCons (gNameA 2) maNil)))) xs [] [some (.d (distD ws f)), some (.d (.tup xs)), some (.d (.tup (ws.map .str))), none] = some ((xs.map isW).map .bl, [some (.d (distD ws f)), some (.d (.tup xs)), some (.d (.tup (ws.map .str))), none]) := fun xs isW h => by
    have := lc_bls (α := D) (j := 3) (elt := mAndV (mCall mis_word (maCons (gNameA 3) maNil)) (mOp inA (maCons (gNameA 3) (maCons (gNameA 2) maNil)))) (L := [some (.d (distD ws f)), some (.d (.tup xs)), some (.d (.tup (ws.map .str))), none]) (fun x => x) isW rfl xs fun x hx => by
      rcases h x hx with ⟨e1, e2⟩ | ⟨e1, e2, q, hq, rfl⟩
      · simp -implicitDefEqProofs [e_seq, bS_nx, bS_rt, bS_bk, bS_ct, bS_no, e_skip, e_if, e_set, e_ret, e_retN, e_expr, e_setIx, e_op, e_nil, e_cons, e_val, e_frz, e_arg, gA_d, gA_l, gA_k, gA_t, gA_m, e_name, nA_d, nA_l, nA_k, nA_t, nA_m, e_move, vA_s, e_c, e_conts0, e_conts1, e_contV, e_contR, e_tst, e_tnot, e_tand, e_tor, e_ifE, e_call, e_refs0, e_refsV, e_refsR, e_sr0, e_srV, e_srR, e_ixA, e_ixL, e_ixT, e_at0, e_at1, e_at2, e_at3, e_addI, e_subI, e_gtI, e_ltI, e_leI, e_intI, e_intB, e_setM, e_putL, e_ix30, e_ix31, e_ix32, e_for, e_seqI, e_asl, e_ast, e_gset, e_yes, wipeL, unwipe, e_frzd, e_frzl, e_frzm, e_frzk, e_frzt, e_max2, e_min2, e_datas0, e_datas1, e_dispL, e_dispT, e_outs0, e_outsD, e_outsL, e_outsT, e_outsK, e_slotC, e_fn, fin_rt, fin_nx, e_eqAS, e_neAS, e_eqAI, e_neAI, e_eqAB, e_neAB, e_meth, e_methO, e_isLl, e_isLd, e_tuL, e_tuD, e_tuT, e_liL, e_liD, e_liT, e_lenT, e_lenD, e_lenO, e_andV, e1, e2]
      · simp -implicitDefEqProofs [e_seq, bS_nx, bS_rt, bS_bk, bS_ct, bS_no, e_skip, e_if, e_set, e_ret, e_retN, e_expr, e_setIx, e_op, e_nil, e_cons, e_val, e_frz, e_arg, gA_d, gA_l, gA_k, gA_t, gA_m, e_name, nA_d, nA_l, nA_k, nA_t, nA_m, e_move, vA_s, e_c, e_conts0, e_conts1, e_contV, e_contR, e_tst, e_tnot, e_tand, e_tor, e_ifE, e_call, e_refs0, e_refsV, e_refsR, e_sr0, e_srV, e_srR, e_ixA, e_ixL, e_ixT, e_at0, e_at1, e_at2, e_at3, e_addI, e_subI, e_gtI, e_ltI, e_leI, e_intI, e_intB, e_setM, e_putL, e_ix30, e_ix31, e_ix32, e_for, e_seqI, e_asl, e_ast, e_gset, e_yes, wipeL, unwipe, e_frzd, e_frzl, e_frzm, e_frzk, e_frzt, e_max2, e_min2, e_datas0, e_datas1, e_dispL, e_dispT, e_outs0, e_outsD, e_outsL, e_outsT, e_outsK, e_slotC, e_fn, fin_rt, fin_nx, e_eqAS, e_neAS, e_eqAI, e_neAI, e_eqAB, e_neAB, e_meth, e_methO, e_isLl, e_isLd, e_tuL, e_tuD, e_tuT, e_liL, e_liD, e_liT, e_lenT, e_lenD, e_lenO, e_andV, e1, e2, inE, hq]
    rwa [List.map_id'] at this
  have wt : ∀ q ∈ ws, mis_word [.d (.str q)] = some (.d (.bl true), [.d (.str q)]) := fun q hq => word_true (N.ok q hq)
  cases h with
  | notup hv _ =>
    have t4 : mis_tuple_of [.d (.int 4), .d v] = some (.d (.bl false), [.d (.int 4), .d v]) := by simp -implicitDefEqProofs [mis_tuple_of, e_seq, bS_nx, bS_rt, bS_bk, bS_ct, bS_no, e_skip, e_if, e_set, e_ret, e_retN, e_expr, e_setIx, e_op, e_nil, e_cons, e_val, e_frz, e_arg, gA_d, gA_l, gA_k, gA_t, gA_m, e_name, nA_d, nA_l, nA_k, nA_t, nA_m, e_move, vA_s, e_c, e_conts0, e_conts1, e_contV, e_contR, e_tst, e_tnot, e_tand, e_tor, e_ifE, e_call, e_refs0, e_refsV, e_refsR, e_sr0, e_srV, e_srR, e_ixA, e_ixL, e_ixT, e_at0, e_at1, e_at2, e_at3, e_addI, e_subI, e_gtI, e_ltI, e_leI, e_intI, e_intB, e_setM, e_putL, e_ix30, e_ix31, e_ix32, e_for, e_seqI, e_asl, e_ast, e_gset, e_yes, wipeL, unwipe, e_frzd, e_frzl, e_frzm, e_frzk, e_frzt, e_max2, e_min2, e_datas0, e_datas1, e_dispL, e_dispT, e_outs0, e_outsD, e_outsL, e_outsT, e_outsK, e_slotC, e_fn, fin_rt, fin_nx, e_eqAS, e_neAS, e_eqAI, e_neAI, e_eqAB, e_neAB, e_meth, e_methO, e_isLl, e_isLd, e_tuL, e_tuD, e_tuT, e_liL, e_liD, e_liT, e_lenT, e_lenD, e_lenO, e_andV, hv]
    exact ⟨false, by simp -implicitDefEqProofs [m_law_due, e_seq, bS_nx, bS_rt, bS_bk, bS_ct, bS_no, e_skip, e_if, e_set, e_ret, e_retN, e_expr, e_setIx, e_op, e_nil, e_cons, e_val, e_frz, e_arg, gA_d, gA_l, gA_k, gA_t, gA_m, e_name, nA_d, nA_l, nA_k, nA_t, nA_m, e_move, vA_s, e_c, e_conts0, e_conts1, e_contV, e_contR, e_tst, e_tnot, e_tand, e_tor, e_ifE, e_call, e_refs0, e_refsV, e_refsR, e_sr0, e_srV, e_srR, e_ixA, e_ixL, e_ixT, e_at0, e_at1, e_at2, e_at3, e_addI, e_subI, e_gtI, e_ltI, e_leI, e_intI, e_intB, e_setM, e_putL, e_ix30, e_ix31, e_ix32, e_for, e_seqI, e_asl, e_ast, e_gset, e_yes, wipeL, unwipe, e_frzd, e_frzl, e_frzm, e_frzk, e_frzt, e_max2, e_min2, e_datas0, e_datas1, e_dispL, e_dispT, e_outs0, e_outsD, e_outsL, e_outsT, e_outsK, e_slotC, e_fn, fin_rt, fin_nx, e_eqAS, e_neAS, e_eqAI, e_neAI, e_eqAB, e_neAB, e_meth, e_methO, e_isLl, e_isLd, e_tuL, e_tuD, e_tuT, e_liL, e_liD, e_liT, e_lenT, e_lenD, e_lenO, hv], by simp -implicitDefEqProofs [mfour_holds, e_seq, bS_nx, bS_rt, bS_bk, bS_ct, bS_no, e_skip, e_if, e_set, e_ret, e_retN, e_expr, e_setIx, e_op, e_nil, e_cons, e_val, e_frz, e_arg, gA_d, gA_l, gA_k, gA_t, gA_m, e_name, nA_d, nA_l, nA_k, nA_t, nA_m, e_move, vA_s, e_c, e_conts0, e_conts1, e_contV, e_contR, e_tst, e_tnot, e_tand, e_tor, e_ifE, e_call, e_refs0, e_refsV, e_refsR, e_sr0, e_srV, e_srR, e_ixA, e_ixL, e_at0, e_at1, e_at2, e_at3, e_addI, e_subI, e_gtI, e_ltI, e_leI, e_intI, e_intB, e_setM, e_putL, e_ix30, e_ix31, e_ix32, e_for, e_seqI, e_asl, e_ast, e_gset, e_yes, wipeL, unwipe, e_frzd, e_frzl, e_frzm, e_frzk, e_frzt, e_max2, e_min2, e_datas0, e_datas1, e_dispL, e_dispT, e_outs0, e_outsD, e_outsL, e_outsT, e_outsK, e_slotC, e_fn, fin_rt, fin_nx, e_eqAS, e_neAS, e_eqAI, e_neAI, e_eqAB, e_neAB, e_meth, e_methO, e_isLl, e_isLd, e_tuL, e_tuD, e_tuT, e_liL, e_liD, e_liT, e_lenT, e_lenD, e_lenO, ck, dist_ix0, t4]⟩
  | short hl hrp =>
    rename_i xs
    have t4 : mis_tuple_of [.d (.int 4), .d (.tup xs)] = some (.d (.bl false), [.d (.int 4), .d (.tup xs)]) := by
      have := tuple_of 4 xs
      rwa [decide_eq_false hl] at this
    have c : ¬ (xs.length : Int) = 4 := by omega
    exact ⟨false, by simp -implicitDefEqProofs [m_law_due, e_seq, bS_nx, bS_rt, bS_bk, bS_ct, bS_no, e_skip, e_if, e_set, e_ret, e_retN, e_expr, e_setIx, e_op, e_nil, e_cons, e_val, e_frz, e_arg, gA_d, gA_l, gA_k, gA_t, gA_m, e_name, nA_d, nA_l, nA_k, nA_t, nA_m, e_move, vA_s, e_c, e_conts0, e_conts1, e_contV, e_contR, e_tst, e_tnot, e_tand, e_tor, e_ifE, e_call, e_refs0, e_refsV, e_refsR, e_sr0, e_srV, e_srR, e_ixA, e_ixL, e_ixT, e_at0, e_at1, e_at2, e_at3, e_addI, e_subI, e_gtI, e_ltI, e_leI, e_intI, e_intB, e_setM, e_putL, e_ix30, e_ix31, e_ix32, e_for, e_seqI, e_asl, e_ast, e_gset, e_yes, wipeL, unwipe, e_frzd, e_frzl, e_frzm, e_frzk, e_frzt, e_max2, e_min2, e_datas0, e_datas1, e_dispL, e_dispT, e_outs0, e_outsD, e_outsL, e_outsT, e_outsK, e_slotC, e_fn, fin_rt, fin_nx, e_eqAS, e_neAS, e_eqAI, e_neAI, e_eqAB, e_neAB, e_meth, e_methO, e_isLl, e_isLd, e_tuL, e_tuD, e_tuT, e_liL, e_liD, e_liT, e_lenT, e_lenD, e_lenO, isi_tt, c], by simp -implicitDefEqProofs [mfour_holds, e_seq, bS_nx, bS_rt, bS_bk, bS_ct, bS_no, e_skip, e_if, e_set, e_ret, e_retN, e_expr, e_setIx, e_op, e_nil, e_cons, e_val, e_frz, e_arg, gA_d, gA_l, gA_k, gA_t, gA_m, e_name, nA_d, nA_l, nA_k, nA_t, nA_m, e_move, vA_s, e_c, e_conts0, e_conts1, e_contV, e_contR, e_tst, e_tnot, e_tand, e_tor, e_ifE, e_call, e_refs0, e_refsV, e_refsR, e_sr0, e_srV, e_srR, e_ixA, e_ixL, e_at0, e_at1, e_at2, e_at3, e_addI, e_subI, e_gtI, e_ltI, e_leI, e_intI, e_intB, e_setM, e_putL, e_ix30, e_ix31, e_ix32, e_for, e_seqI, e_asl, e_ast, e_gset, e_yes, wipeL, unwipe, e_frzd, e_frzl, e_frzm, e_frzk, e_frzt, e_max2, e_min2, e_datas0, e_datas1, e_dispL, e_dispT, e_outs0, e_outsD, e_outsL, e_outsT, e_outsK, e_slotC, e_fn, fin_rt, fin_nx, e_eqAS, e_neAS, e_eqAI, e_neAI, e_eqAB, e_neAB, e_meth, e_methO, e_isLl, e_isLd, e_tuL, e_tuD, e_tuT, e_liL, e_liD, e_liT, e_lenT, e_lenD, e_lenO, ck, dist_ix0, t4]⟩
  | lastN ha hb hc =>
    rename_i a b c
    have t4 : mis_tuple_of [.d (.int 4), .d (.tup [.str a, .str b, .str c, .non])] = some (.d (.bl true), [.d (.int 4), .d (.tup [.str a, .str b, .str c, .non])]) := tuple_of 4 _
    have s1 := isStr4 [.str a, .str b, .str c, .non] (fun x => match x with | .str _ => true | _ => false) fun x hx => by
      simp only [List.mem_cons, List.not_mem_nil, or_false] at hx
      rcases hx with rfl | rfl | rfl | rfl <;> rfl
    have s2 := isWd4 [.str a, .str b, .str c, .non] (fun x => match x with | .str _ => true | _ => false) fun x hx => by
      simp only [List.mem_cons, List.not_mem_nil, or_false] at hx
      rcases hx with rfl | rfl | rfl | rfl
      · exact .inr ⟨rfl, wt _ ha, _, ha, rfl⟩
      · exact .inr ⟨rfl, wt _ hb, _, hb, rfl⟩
      · exact .inr ⟨rfl, wt _ hc, _, hc, rfl⟩
      · exact .inl ⟨rfl, word_non⟩
    have al : allC [.l [.bl true, .bl true, .bl true, .bl false]] = some (.d (.bl false)) := rfl
    simp only [List.map_cons, List.map_nil] at s1 s2
    exact ⟨false, by simp -implicitDefEqProofs [m_law_due, e_seq, bS_nx, bS_rt, bS_bk, bS_ct, bS_no, e_skip, e_if, e_set, e_ret, e_retN, e_expr, e_setIx, e_op, e_nil, e_cons, e_val, e_frz, e_arg, gA_d, gA_l, gA_k, gA_t, gA_m, e_name, nA_d, nA_l, nA_k, nA_t, nA_m, e_move, vA_s, e_c, e_conts0, e_conts1, e_contV, e_contR, e_tst, e_tnot, e_tand, e_tor, e_ifE, e_call, e_refs0, e_refsV, e_refsR, e_sr0, e_srV, e_srR, e_ixA, e_ixL, e_ixT, e_at0, e_at1, e_at2, e_at3, e_addI, e_subI, e_gtI, e_ltI, e_leI, e_intI, e_intB, e_setM, e_putL, e_ix30, e_ix31, e_ix32, e_for, e_seqI, e_asl, e_ast, e_gset, e_yes, wipeL, unwipe, e_frzd, e_frzl, e_frzm, e_frzk, e_frzt, e_max2, e_min2, e_datas0, e_datas1, e_dispL, e_dispT, e_outs0, e_outsD, e_outsL, e_outsT, e_outsK, e_slotC, e_fn, fin_rt, fin_nx, e_eqAS, e_neAS, e_eqAI, e_neAI, e_eqAB, e_neAB, e_meth, e_methO, e_isLl, e_isLd, e_tuL, e_tuD, e_tuT, e_liL, e_liD, e_liT, e_lenT, e_lenD, e_lenO, isi_tt, e_lc, i4, s1, al], by simp -implicitDefEqProofs [mfour_holds, e_seq, bS_nx, bS_rt, bS_bk, bS_ct, bS_no, e_skip, e_if, e_set, e_ret, e_retN, e_expr, e_setIx, e_op, e_nil, e_cons, e_val, e_frz, e_arg, gA_d, gA_l, gA_k, gA_t, gA_m, e_name, nA_d, nA_l, nA_k, nA_t, nA_m, e_move, vA_s, e_c, e_conts0, e_conts1, e_contV, e_contR, e_tst, e_tnot, e_tand, e_tor, e_ifE, e_call, e_refs0, e_refsV, e_refsR, e_sr0, e_srV, e_srR, e_ixA, e_ixL, e_at0, e_at1, e_at2, e_at3, e_addI, e_subI, e_gtI, e_ltI, e_leI, e_intI, e_intB, e_setM, e_putL, e_ix30, e_ix31, e_ix32, e_for, e_seqI, e_asl, e_ast, e_gset, e_yes, wipeL, unwipe, e_frzd, e_frzl, e_frzm, e_frzk, e_frzt, e_max2, e_min2, e_datas0, e_datas1, e_dispL, e_dispT, e_outs0, e_outsD, e_outsL, e_outsT, e_outsK, e_slotC, e_fn, fin_rt, fin_nx, e_eqAS, e_neAS, e_eqAI, e_neAI, e_eqAB, e_neAB, e_meth, e_methO, e_isLl, e_isLd, e_tuL, e_tuD, e_tuT, e_liL, e_liD, e_liT, e_lenT, e_lenD, e_lenO, ck, dist_ix0, t4, e_lc, i4, s2, al]⟩
  | lastW ha hb hc hz =>
    rename_i a b c z
    have zn := hz.nin N.ok
    have t4 : mis_tuple_of [.d (.int 4), .d (.tup [.str a, .str b, .str c, .str z])] = some (.d (.bl true), [.d (.int 4), .d (.tup [.str a, .str b, .str c, .str z])]) := tuple_of 4 _
    have s1 := isStr4 [.str a, .str b, .str c, .str z] (fun x => true) fun x hx => by
      simp only [List.mem_cons, List.not_mem_nil, or_false] at hx
      rcases hx with rfl | rfl | rfl | rfl <;> rfl
    have s3 := isIn4 [a, b, c, z]
    have s2 := isWd4 [.str a, .str b, .str c, .str z] (fun x => match x with | .str q => decide (q ∈ ws) | _ => false) fun x hx => by
      simp only [List.mem_cons, List.not_mem_nil, or_false] at hx
      rcases hx with rfl | rfl | rfl | rfl
      · exact .inr ⟨decide_eq_true ha, wt _ ha, _, ha, rfl⟩
      · exact .inr ⟨decide_eq_true hb, wt _ hb, _, hb, rfl⟩
      · exact .inr ⟨decide_eq_true hc, wt _ hc, _, hc, rfl⟩
      · exact .inl ⟨decide_eq_false zn, hz.word⟩
    have al : allC [.l [.bl true, .bl true, .bl true, .bl false]] = some (.d (.bl false)) := rfl
    have al2 : allC [.l [.bl true, .bl true, .bl true, .bl true]] = some (.d (.bl true)) := rfl
    simp only [List.map_cons, List.map_nil, ha, hb, hc, zn, decide_true, decide_false] at s1 s2 s3
    exact ⟨false, by simp -implicitDefEqProofs [m_law_due, e_seq, bS_nx, bS_rt, bS_bk, bS_ct, bS_no, e_skip, e_if, e_set, e_ret, e_retN, e_expr, e_setIx, e_op, e_nil, e_cons, e_val, e_frz, e_arg, gA_d, gA_l, gA_k, gA_t, gA_m, e_name, nA_d, nA_l, nA_k, nA_t, nA_m, e_move, vA_s, e_c, e_conts0, e_conts1, e_contV, e_contR, e_tst, e_tnot, e_tand, e_tor, e_ifE, e_call, e_refs0, e_refsV, e_refsR, e_sr0, e_srV, e_srR, e_ixA, e_ixL, e_ixT, e_at0, e_at1, e_at2, e_at3, e_addI, e_subI, e_gtI, e_ltI, e_leI, e_intI, e_intB, e_setM, e_putL, e_ix30, e_ix31, e_ix32, e_for, e_seqI, e_asl, e_ast, e_gset, e_yes, wipeL, unwipe, e_frzd, e_frzl, e_frzm, e_frzk, e_frzt, e_max2, e_min2, e_datas0, e_datas1, e_dispL, e_dispT, e_outs0, e_outsD, e_outsL, e_outsT, e_outsK, e_slotC, e_fn, fin_rt, fin_nx, e_eqAS, e_neAS, e_eqAI, e_neAI, e_eqAB, e_neAB, e_meth, e_methO, e_isLl, e_isLd, e_tuL, e_tuD, e_tuT, e_liL, e_liD, e_liT, e_lenT, e_lenD, e_lenO, isi_tt, e_lc, i4, s1, al2, s3, al], by simp -implicitDefEqProofs [mfour_holds, e_seq, bS_nx, bS_rt, bS_bk, bS_ct, bS_no, e_skip, e_if, e_set, e_ret, e_retN, e_expr, e_setIx, e_op, e_nil, e_cons, e_val, e_frz, e_arg, gA_d, gA_l, gA_k, gA_t, gA_m, e_name, nA_d, nA_l, nA_k, nA_t, nA_m, e_move, vA_s, e_c, e_conts0, e_conts1, e_contV, e_contR, e_tst, e_tnot, e_tand, e_tor, e_ifE, e_call, e_refs0, e_refsV, e_refsR, e_sr0, e_srV, e_srR, e_ixA, e_ixL, e_at0, e_at1, e_at2, e_at3, e_addI, e_subI, e_gtI, e_ltI, e_leI, e_intI, e_intB, e_setM, e_putL, e_ix30, e_ix31, e_ix32, e_for, e_seqI, e_asl, e_ast, e_gset, e_yes, wipeL, unwipe, e_frzd, e_frzl, e_frzm, e_frzk, e_frzt, e_max2, e_min2, e_datas0, e_datas1, e_dispL, e_dispT, e_outs0, e_outsD, e_outsL, e_outsT, e_outsK, e_slotC, e_fn, fin_rt, fin_nx, e_eqAS, e_neAS, e_eqAI, e_neAI, e_eqAB, e_neAB, e_meth, e_methO, e_isLl, e_isLd, e_tuL, e_tuD, e_tuT, e_liL, e_liD, e_liT, e_lenT, e_lenD, e_lenO, ck, dist_ix0, t4, e_lc, i4, s2, al]⟩
  | four ha hb hc hd =>
    rename_i a b c d
    have t4 : mis_tuple_of [.d (.int 4), .d (.tup [.str a, .str b, .str c, .str d])] = some (.d (.bl true), [.d (.int 4), .d (.tup [.str a, .str b, .str c, .str d])]) := tuple_of 4 _
    have s1 := isStr4 [.str a, .str b, .str c, .str d] (fun x => true) fun x hx => by
      simp only [List.mem_cons, List.not_mem_nil, or_false] at hx
      rcases hx with rfl | rfl | rfl | rfl <;> rfl
    have s3 := isIn4 [a, b, c, d]
    have s2 := isWd4 [.str a, .str b, .str c, .str d] (fun x => true) fun x hx => by
      simp only [List.mem_cons, List.not_mem_nil, or_false] at hx
      rcases hx with rfl | rfl | rfl | rfl
      · exact .inr ⟨rfl, wt _ ha, _, ha, rfl⟩
      · exact .inr ⟨rfl, wt _ hb, _, hb, rfl⟩
      · exact .inr ⟨rfl, wt _ hc, _, hc, rfl⟩
      · exact .inr ⟨rfl, wt _ hd, _, hd, rfl⟩
    have al2 : allC [.l [.bl true, .bl true, .bl true, .bl true]] = some (.d (.bl true)) := rfl
    simp only [List.map_cons, List.map_nil, ha, hb, hc, hd, decide_true, decide_false] at s1 s2 s3
    have mem4 : ∀ w ∈ [a, b, c, d], w ∈ ws := fun w hw => by
      simp only [List.mem_cons, List.not_mem_nil, or_false] at hw
      rcases hw with rfl | rfl | rfl | rfl <;> assumption
    obtain ⟨us, es, pm, _⟩ := sort_strs [a, b, c, d] fun w hw => (N.ok w (mem4 w hw)).okD
    have sc : sortC [.d (.tup [.str a, .str b, .str c, .str d])] = some (.l (us.map .str)) := e_sortT _ _ es
    have ok4 : ∀ qs : List PySem.Str, (∀ w ∈ qs, w ∈ ws) → okD (.lst (qs.map .str)) = true := fun qs hq => (nice_lst (d := 0) (w := 8) fun x hx => by
      obtain ⟨q, h, rfl⟩ := List.mem_map.mp hx
      exact nice_word (N.ok q (hq q h))).okD (by decide)
    obtain ⟨k, ek, nk⟩ := eqLL (ok4 [a, b, c, d] mem4) (ok4 us fun w hw => mem4 w (pm.mem_iff.mp hw))
    simp only [List.map_cons, List.map_nil] at ek nk
    obtain ⟨r, b1, b2⟩ := bad_both T ha hb hc hd
    cases k with
    | false => exact ⟨false, by simp -implicitDefEqProofs [m_law_due, e_seq, bS_nx, bS_rt, bS_bk, bS_ct, bS_no, e_skip, e_if, e_set, e_ret, e_retN, e_expr, e_setIx, e_op, e_nil, e_cons, e_val, e_frz, e_arg, gA_d, gA_l, gA_k, gA_t, gA_m, e_name, nA_d, nA_l, nA_k, nA_t, nA_m, e_move, vA_s, e_c, e_conts0, e_conts1, e_contV, e_contR, e_tst, e_tnot, e_tand, e_tor, e_ifE, e_call, e_refs0, e_refsV, e_refsR, e_sr0, e_srV, e_srR, e_ixA, e_ixL, e_ixT, e_at0, e_at1, e_at2, e_at3, e_addI, e_subI, e_gtI, e_ltI, e_leI, e_intI, e_intB, e_setM, e_putL, e_ix30, e_ix31, e_ix32, e_for, e_seqI, e_asl, e_ast, e_gset, e_yes, wipeL, unwipe, e_frzd, e_frzl, e_frzm, e_frzk, e_frzt, e_max2, e_min2, e_datas0, e_datas1, e_dispL, e_dispT, e_outs0, e_outsD, e_outsL, e_outsT, e_outsK, e_slotC, e_fn, fin_rt, fin_nx, e_eqAS, e_neAS, e_eqAI, e_neAI, e_eqAB, e_neAB, e_meth, e_methO, e_isLl, e_isLd, e_tuL, e_tuD, e_tuT, e_liL, e_liD, e_liT, e_lenT, e_lenD, e_lenO, isi_tt, e_lc, i4, s1, al2, s3, sc, nk], by simp -implicitDefEqProofs [mfour_holds, e_seq, bS_nx, bS_rt, bS_bk, bS_ct, bS_no, e_skip, e_if, e_set, e_ret, e_retN, e_expr, e_setIx, e_op, e_nil, e_cons, e_val, e_frz, e_arg, gA_d, gA_l, gA_k, gA_t, gA_m, e_name, nA_d, nA_l, nA_k, nA_t, nA_m, e_move, vA_s, e_c, e_conts0, e_conts1, e_contV, e_contR, e_tst, e_tnot, e_tand, e_tor, e_ifE, e_call, e_refs0, e_refsV, e_refsR, e_sr0, e_srV, e_srR, e_ixA, e_ixL, e_at0, e_at1, e_at2, e_at3, e_addI, e_subI, e_gtI, e_ltI, e_leI, e_intI, e_intB, e_setM, e_putL, e_ix30, e_ix31, e_ix32, e_for, e_seqI, e_asl, e_ast, e_gset, e_yes, wipeL, unwipe, e_frzd, e_frzl, e_frzm, e_frzk, e_frzt, e_max2, e_min2, e_datas0, e_datas1, e_dispL, e_dispT, e_outs0, e_outsD, e_outsL, e_outsT, e_outsK, e_slotC, e_fn, fin_rt, fin_nx, e_eqAS, e_neAS, e_eqAI, e_neAI, e_eqAB, e_neAB, e_meth, e_methO, e_isLl, e_isLd, e_tuL, e_tuD, e_tuT, e_liL, e_liD, e_liT, e_lenT, e_lenD, e_lenO, ck, dist_ix0, t4, e_lc, i4, s2, al2, sc, e_andV, ek]⟩
    | true => exact ⟨r, by simp -implicitDefEqProofs [m_law_due, e_seq, bS_nx, bS_rt, bS_bk, bS_ct, bS_no, e_skip, e_if, e_set, e_ret, e_retN, e_expr, e_setIx, e_op, e_nil, e_cons, e_val, e_frz, e_arg, gA_d, gA_l, gA_k, gA_t, gA_m, e_name, nA_d, nA_l, nA_k, nA_t, nA_m, e_move, vA_s, e_c, e_conts0, e_conts1, e_contV, e_contR, e_tst, e_tnot, e_tand, e_tor, e_ifE, e_call, e_refs0, e_refsV, e_refsR, e_sr0, e_srV, e_srR, e_ixA, e_ixL, e_ixT, e_at0, e_at1, e_at2, e_at3, e_addI, e_subI, e_gtI, e_ltI, e_leI, e_intI, e_intB, e_setM, e_putL, e_ix30, e_ix31, e_ix32, e_for, e_seqI, e_asl, e_ast, e_gset, e_yes, wipeL, unwipe, e_frzd, e_frzl, e_frzm, e_frzk, e_frzt, e_max2, e_min2, e_datas0, e_datas1, e_dispL, e_dispT, e_outs0, e_outsD, e_outsL, e_outsT, e_outsK, e_slotC, e_fn, fin_rt, fin_nx, e_eqAS, e_neAS, e_eqAI, e_neAI, e_eqAB, e_neAB, e_meth, e_methO, e_isLl, e_isLd, e_tuL, e_tuD, e_tuT, e_liL, e_liD, e_liT, e_lenT, e_lenD, e_lenO, isi_tt, e_lc, i4, s1, al2, s3, sc, nk, b1], by simp -implicitDefEqProofs [mfour_holds, e_seq, bS_nx, bS_rt, bS_bk, bS_ct, bS_no, e_skip, e_if, e_set, e_ret, e_retN, e_expr, e_setIx, e_op, e_nil, e_cons, e_val, e_frz, e_arg, gA_d, gA_l, gA_k, gA_t, gA_m, e_name, nA_d, nA_l, nA_k, nA_t, nA_m, e_move, vA_s, e_c, e_conts0, e_conts1, e_contV, e_contR, e_tst, e_tnot, e_tand, e_tor, e_ifE, e_call, e_refs0, e_refsV, e_refsR, e_sr0, e_srV, e_srR, e_ixA, e_ixL, e_at0, e_at1, e_at2, e_at3, e_addI, e_subI, e_gtI, e_ltI, e_leI, e_intI, e_intB, e_setM, e_putL, e_ix30, e_ix31, e_ix32, e_for, e_seqI, e_asl, e_ast, e_gset, e_yes, wipeL, unwipe, e_frzd, e_frzl, e_frzm, e_frzk, e_frzt, e_max2, e_min2, e_datas0, e_datas1, e_dispL, e_dispT, e_outs0, e_outsD, e_outsL, e_outsT, e_outsK, e_slotC, e_fn, fin_rt, fin_nx, e_eqAS, e_neAS, e_eqAI, e_neAI, e_eqAB, e_neAB, e_meth, e_methO, e_isLl, e_isLd, e_tuL, e_tuD, e_tuT, e_liL, e_liD, e_liT, e_lenT, e_lenD, e_lenO, ck, dist_ix0, t4, e_lc, i4, s2, al2, sc, e_andV, ek, tb, b2]⟩
/-! ### the things drawn -/
theorem join4 {a b c d : PySem.Str} (ha : WOk a) (hb : WOk b) (hc : WOk c) (hd : WOk d) : ∃ l, joinC [.d (.str (mkS [])), .d (.tup [.str a, .str b, .str c, .str d])] = some (.d (.str (mkS l))) ∧ LetL l ∧ l.length ≤ 32 := by
  obtain ⟨la, rfl, a1, _, a3⟩ := ha
  obtain ⟨lb, rfl, b1, _, b3⟩ := hb
  obtain ⟨lc, rfl, c1, _, c3⟩ := hc
  obtain ⟨ld, rfl, d1, _, d3⟩ := hd
  refine ⟨la ++ (lb ++ (lc ++ ld)), ?_, fun x hx => ?_, by simp; omega⟩
  · have e1 : asSeq (.d (.tup [.str (mkS la), .str (mkS lb), .str (mkS lc), .str (mkS ld)])) = some [.str (mkS la), .str (mkS lb), .str (mkS lc), .str (mkS ld)] := rfl
    have e2 : asStrs [.str (mkS la), .str (mkS lb), .str (mkS lc), .str (mkS ld)] = some [mkS la, mkS lb, mkS lc, mkS ld] := rfl
    have e3 : Txt.join (mkS []) [mkS la, mkS lb, mkS lc, mkS ld] = mkS (la ++ (lb ++ (lc ++ ld))) := by
      simp [Txt.join, Builtin.Str.glued, mkS]
    unfold joinC
    simp only [e1, e2, e3]
    rw [if_pos]
    simp [mkS_len]
    omega
  · rcases List.mem_append.mp hx with q | q
    · exact a1 x q
    · rcases List.mem_append.mp q with q | q
      · exact b1 x q
      · rcases List.mem_append.mp q with q | q
        · exact c1 x q
        · exact d1 x q
theorem zs_eq : ("zzzzzzzzz" : PySem.Str) = mkS [122, 122, 122, 122, 122, 122, 122, 122, 122] := by decide +kernel
theorem badW_zs : badW (mkS [122, 122, 122, 122, 122, 122, 122, 122, 122]) := ⟨_, rfl, .inr (by decide), by decide, fun c hc => by
  have : c = 122 := by simpa using hc
  subst this; decide⟩
theorem badW_em : badW (mkS []) := ⟨_, rfl, .inl rfl, by decide, fun c hc => absurd hc (by simp)⟩
theorem cut3 (a b c d : D) : cutD [a, b, c, d] none (some 3) = [a, b, c] := rfl
theorem cut1 (a b c d : D) : cutD [a, b, c, d] none (some 1) = [a] := rfl
theorem isN_nn : isNC [.d .non, .d .non] = some (.d (.bl true)) := rfl
theorem isN_tn (xs : List D) : isNC [.d (.tup xs), .d .non] = some (.d (.bl false)) := rfl
theorem rev_t (xs : List D) : revC [.d (.tup xs)] = some (.d (.tup xs.reverse)) := rfl
theorem four_of {us qs : List PySem.Str} (pm : us.Perm qs) (h : qs.length = 4) : ∃ a b c d, us = [a, b, c, d] := by
  have := pm.length_eq
  rw [h] at this
  match us, this with
  | [a, b, c, d], _ => exact ⟨a, b, c, d, rfl⟩
theorem thing_ok {n : Nat} {xs : List D} (p : PotL n xs) (hn : n < 1000000000000) {many : Nat} {ws : List PySem.Str} (N : NamesOk many ws) (h1 : 1 ≤ many) (h2 : many ≤ 12) {ks : List (List Key)} {vs : List D} (T : TabOk ws ks vs) :
    ∃ v xs', m_law_thing [.l xs, .d (.tup (ws.map .str)), .t ks vs] = some (.d v, [.l xs', .d (.tup (ws.map .str)), .t ks vs]) ∧ Thing ws v ∧ PotL (n + 6) xs' := by
  have wl := N.len
  obtain ⟨acc, L', elc, xs1, qs, rfl, rfl, ql, qm, p1⟩ := lc_inv (vs := [7]) (mt := gSet 7) (tst := tYesM) (elt := mOp ixA (maCons (gNameA 1) (maCons (mVal (mCall m_law_draw (maCons (gNameA 0) (maCons (mVal (mOp lenC (maCons (gNameA 1) maNil))) maNil)))) maNil))) (fun k acc L => ∃ xs1 qs, L = [some (.l xs1), some (.d (.tup (ws.map .str))), some (.t ks vs), none, none, none, none, none] ∧ acc = qs.map D.str ∧ qs.length = k ∧ (∀ q ∈ qs, q ∈ ws) ∧ PotL (n + k) xs1) (rngD 0 4) 0 [] [some (.l xs), some (.d (.tup (ws.map .str))), some (.t ks vs), none, none, none, none, none] ⟨xs, [], rfl, rfl, rfl, by simp, p⟩ fun i x acc L hx ⟨xs1, qs, hL, ha, ql, qm, p1⟩ => by
    obtain ⟨rfl, hi⟩ := rngD_get0 _ _ _ hx
    subst hL ha
    obtain ⟨d, xs2, e1, d1, d2, p2⟩ := drawB (many := (ws.length : Int)) p1 (by omega) (by omega) (by omega)
    obtain ⟨x, hx, e2⟩ := ix_memT (xs := ws.map D.str) d1 (by simpa using d2)
    obtain ⟨w, hw, rfl⟩ := List.mem_map.mp hx
    refine ⟨_, true, _, rfl, rfl, fun _ => ⟨.d (.str w), [some (.l xs2), some (.d (.tup (ws.map .str))), some (.t ks vs), none, none, none, none, some (.d (.int i))], ?_, xs2, qs ++ [w], rfl, ?_, ?_, ?_, p2.mono (by omega)⟩, fun z => absurd z (by simp)⟩
    · simp -implicitDefEqProofs [e_seq, bS_nx, bS_rt, bS_bk, bS_ct, bS_no, e_skip, e_if, e_set, e_ret, e_retN, e_expr, e_setIx, e_op, e_nil, e_cons, e_val, e_frz, e_arg, gA_d, gA_l, gA_k, gA_t, gA_m, e_name, nA_d, nA_l, nA_k, nA_t, nA_m, e_move, vA_s, e_c, e_conts0, e_conts1, e_contV, e_contR, e_tst, e_tnot, e_tand, e_tor, e_ifE, e_call, e_refs0, e_refsV, e_refsR, e_sr0, e_srV, e_srR, e_ixA, e_ixL, e_at0, e_at1, e_at2, e_at3, e_addI, e_subI, e_gtI, e_ltI, e_leI, e_intI, e_intB, e_setM, e_putL, e_ix30, e_ix31, e_ix32, e_for, e_seqI, e_asl, e_ast, e_gset, e_yes, wipeL, unwipe, e_frzd, e_frzl, e_frzm, e_frzk, e_frzt, e_max2, e_min2, e_datas0, e_datas1, e_dispL, e_dispT, e_outs0, e_outsD, e_outsL, e_outsT, e_outsK, e_slotC, e_fn, fin_rt, fin_nx, e_eqAS, e_neAS, e_eqAI, e_neAI, e_eqAB, e_neAB, e_meth, e_methO, e_isLl, e_isLd, e_tuL, e_tuD, e_tuT, e_liL, e_liD, e_liT, e_lenT, e_lenD, e_lenO, e1, e2]
    · rw [List.map_append]; rfl
    · rw [List.length_append, ql]; simp
    · intro q hq
      rcases List.mem_append.mp hq with z | z
      · exact qm q z
      · rw [List.mem_singleton.mp z]; exact hw
  rw [rngD_len] at ql p1
  obtain ⟨a, b, c, d, rfl⟩ := four_of (List.Perm.refl qs) (by omega)
  have ma : a ∈ ws := qm a (by simp)
  have mb : b ∈ ws := qm b (by simp)
  have mc : c ∈ ws := qm c (by simp)
  have md : d ∈ ws := qm d (by simp)
  obtain ⟨us, es, pm, _⟩ := sort_strs [a, b, c, d] fun w hw => (N.ok w (qm w hw)).okD
  obtain ⟨a', b', c', d', rfl⟩ := four_of pm rfl
  have us4 : ∀ w ∈ [a', b', c', d'], w ∈ ws := fun w hw => qm w (pm.mem_iff.mp hw)
  have ma' : a' ∈ ws := us4 a' (by simp)
  have mb' : b' ∈ ws := us4 b' (by simp)
  have mc' : c' ∈ ws := us4 c' (by simp)
  have md' : d' ∈ ws := us4 d' (by simp)
  have sc : sortC [.d (.tup [.str a, .str b, .str c, .str d])] = some (.l [.str a', .str b', .str c', .str d']) := e_sortT _ _ es
  obtain ⟨us5, es5, pm5, _⟩ := sort_strs [a, b, c, d, a] fun w hw => (N.ok w (by
    simp only [List.mem_cons, List.not_mem_nil, or_false] at hw
    rcases hw with rfl | rfl | rfl | rfl | rfl <;> assumption)).okD
  have sc5 : sortC [.d (.tup [.str a, .str b, .str c, .str d, .str a])] = some (.l (us5.map .str)) := e_sortT _ _ es5
  have l5 : us5.length = 5 := pm5.length_eq
  have us5m : ∀ w ∈ us5, w ∈ ws := fun w hw => by
    have := pm5.mem_iff.mp hw
    simp only [List.mem_cons, List.not_mem_nil, or_false] at this
    rcases this with rfl | rfl | rfl | rfl | rfl <;> assumption
  obtain ⟨way, xs2, e2, w1, w2, p2⟩ := drawB (many := 12) p1 (by omega) (by decide) (by decide)
  have nw : ∀ w ∈ ws, Nice 0 1000 (.str w) := fun w hw => (N.ok w hw).nice
  have lcE : mSet 3 (mOp tupleC (maCons (mVal (mLc [7] (miR1 (maCons (mVal (mC (.int 4))) maNil)) (gSet 7) tYesM (mOp ixA (maCons (gNameA 1) (maCons (mVal (mCall m_law_draw (maCons (gNameA 0) (maCons (mVal (mOp lenC (maCons (gNameA 1) maNil))) maNil)))) maNil))))) maNil)) [some (.l xs), some (.d (.tup (ws.map .str))), some (.t ks vs), none, none, none, none, none] = some (.nx [some (.l xs1), some (.d (.tup (ws.map .str))), some (.t ks vs), some (.d (.tup [.str a, .str b, .str c, .str d])), none, none, none, none]) := by
    have r4 := e_r1B (maCons (mVal (mC (.int 4))) maNil) [some (.l xs), some (.d (.tup (ws.map .str))), some (.t ks vs), none, none, none, none, none] 4 [.val (.d (.int 4))] _ rfl rfl (by decide)
    have l4 : (rngD 0 4).length < sizeLine := by rw [rngD_len]; decide
    simp -implicitDefEqProofs [e_seq, bS_nx, bS_rt, bS_bk, bS_ct, bS_no, e_skip, e_if, e_set, e_ret, e_retN, e_expr, e_setIx, e_op, e_nil, e_cons, e_val, e_frz, e_arg, gA_d, gA_l, gA_k, gA_t, gA_m, e_name, nA_d, nA_l, nA_k, nA_t, nA_m, e_move, vA_s, e_c, e_conts0, e_conts1, e_contV, e_contR, e_tst, e_tnot, e_tand, e_tor, e_ifE, e_call, e_refs0, e_refsV, e_refsR, e_sr0, e_srV, e_srR, e_ixA, e_ixL, e_ixT, e_at0, e_at1, e_at2, e_at3, e_addI, e_subI, e_gtI, e_ltI, e_leI, e_intI, e_intB, e_setM, e_putL, e_ix30, e_ix31, e_ix32, e_for, e_seqI, e_asl, e_ast, e_gset, e_yes, wipeL, unwipe, e_frzd, e_frzl, e_frzm, e_frzk, e_frzt, e_max2, e_min2, e_datas0, e_datas1, e_dispL, e_dispT, e_outs0, e_outsD, e_outsL, e_outsT, e_outsK, e_slotC, e_fn, fin_rt, fin_nx, e_eqAS, e_neAS, e_eqAI, e_neAI, e_eqAB, e_neAB, e_meth, e_methO, e_isLl, e_isLd, e_tuL, e_tuD, e_tuT, e_liL, e_liD, e_liT, e_lenT, e_lenD, e_lenO, e_lc, r4, l4, elc]
  have wayE : mSet 4 (mCall m_law_draw (maCons (gNameA 0) (maCons (mVal (mC (.int 12))) maNil))) [some (.l xs1), some (.d (.tup (ws.map .str))), some (.t ks vs), some (.d (.tup [.str a, .str b, .str c, .str d])), none, none, none, none] = some (.nx [some (.l xs2), some (.d (.tup (ws.map .str))), some (.t ks vs), some (.d (.tup [.str a, .str b, .str c, .str d])), some (.d (.int way)), none, none, none]) := by
    simp -implicitDefEqProofs [e_seq, bS_nx, bS_rt, bS_bk, bS_ct, bS_no, e_skip, e_if, e_set, e_ret, e_retN, e_expr, e_setIx, e_op, e_nil, e_cons, e_val, e_frz, e_arg, gA_d, gA_l, gA_k, gA_t, gA_m, e_name, nA_d, nA_l, nA_k, nA_t, nA_m, e_move, vA_s, e_c, e_conts0, e_conts1, e_contV, e_contR, e_tst, e_tnot, e_tand, e_tor, e_ifE, e_call, e_refs0, e_refsV, e_refsR, e_sr0, e_srV, e_srR, e_ixA, e_ixL, e_ixT, e_at0, e_at1, e_at2, e_at3, e_addI, e_subI, e_gtI, e_ltI, e_leI, e_intI, e_intB, e_setM, e_putL, e_ix30, e_ix31, e_ix32, e_for, e_seqI, e_asl, e_ast, e_gset, e_yes, wipeL, unwipe, e_frzd, e_frzl, e_frzm, e_frzk, e_frzt, e_max2, e_min2, e_datas0, e_datas1, e_dispL, e_dispT, e_outs0, e_outsD, e_outsL, e_outsT, e_outsK, e_slotC, e_fn, fin_rt, fin_nx, e_eqAS, e_neAS, e_eqAI, e_neAI, e_eqAB, e_neAB, e_meth, e_methO, e_isLl, e_isLd, e_tuL, e_tuD, e_tuT, e_liL, e_liD, e_liT, e_lenT, e_lenD, e_lenO, e2]
  unfold m_law_thing
  rw [e_fn 3 8 [0, 1, 2] _ [.l xs, .d (.tup (ws.map .str)), .t ks vs] rfl]
  show ∃ v xs', fin _ _ (mSeq _ _ [some (.l xs), some (.d (.tup (ws.map .str))), some (.t ks vs), none, none, none, none, none]) = _ ∧ _
  rw [e_seq, lcE, bS_nx, e_seq, wayE, bS_nx]
  by_cases c6 : way < 6
  · refine ⟨.tup [.str a', .str b', .str c', .str d'], xs2, ?_, .four ma' mb' mc' md', p2.mono (by omega)⟩
    simp -implicitDefEqProofs [e_seq, bS_nx, bS_rt, bS_bk, bS_ct, bS_no, e_skip, e_if, e_set, e_ret, e_retN, e_expr, e_setIx, e_op, e_nil, e_cons, e_val, e_frz, e_arg, gA_d, gA_l, gA_k, gA_t, gA_m, e_name, nA_d, nA_l, nA_k, nA_t, nA_m, e_move, vA_s, e_c, e_conts0, e_conts1, e_contV, e_contR, e_tst, e_tnot, e_tand, e_tor, e_ifE, e_call, e_refs0, e_refsV, e_refsR, e_sr0, e_srV, e_srR, e_ixA, e_ixL, e_ixT, e_at0, e_at1, e_at2, e_at3, e_addI, e_subI, e_gtI, e_ltI, e_leI, e_intI, e_intB, e_setM, e_putL, e_ix30, e_ix31, e_ix32, e_for, e_seqI, e_asl, e_ast, e_gset, e_yes, wipeL, unwipe, e_frzd, e_frzl, e_frzm, e_frzk, e_frzt, e_max2, e_min2, e_datas0, e_datas1, e_dispL, e_dispT, e_outs0, e_outsD, e_outsL, e_outsT, e_outsK, e_slotC, e_fn, fin_rt, fin_nx, e_eqAS, e_neAS, e_eqAI, e_neAI, e_eqAB, e_neAB, e_meth, e_methO, e_isLl, e_isLd, e_tuL, e_tuD, e_tuT, e_liL, e_liD, e_liT, e_lenT, e_lenD, e_lenO, c6, sc]
  · by_cases c66 : way = 6
    · obtain ⟨r, ef, hr⟩ := first_four_ok T (show ws.length ≤ 26 by omega)
      rcases hr with rfl | ⟨x, y, z, w, hx, hy, hz, hw, rfl⟩
      · refine ⟨.tup [.str d', .str c', .str b', .str a'], xs2, ?_, .four md' mc' mb' ma', p2.mono (by omega)⟩
        simp -implicitDefEqProofs [e_seq, bS_nx, bS_rt, bS_bk, bS_ct, bS_no, e_skip, e_if, e_set, e_ret, e_retN, e_expr, e_setIx, e_op, e_nil, e_cons, e_val, e_frz, e_arg, gA_d, gA_l, gA_k, gA_t, gA_m, e_name, nA_d, nA_l, nA_k, nA_t, nA_m, e_move, vA_s, e_c, e_conts0, e_conts1, e_contV, e_contR, e_tst, e_tnot, e_tand, e_tor, e_ifE, e_call, e_refs0, e_refsV, e_refsR, e_sr0, e_srV, e_srR, e_ixA, e_ixL, e_ixT, e_at0, e_at1, e_at2, e_at3, e_addI, e_subI, e_gtI, e_ltI, e_leI, e_intI, e_intB, e_setM, e_putL, e_ix30, e_ix31, e_ix32, e_for, e_seqI, e_asl, e_ast, e_gset, e_yes, wipeL, unwipe, e_frzd, e_frzl, e_frzm, e_frzk, e_frzt, e_max2, e_min2, e_datas0, e_datas1, e_dispL, e_dispT, e_outs0, e_outsD, e_outsL, e_outsT, e_outsK, e_slotC, e_fn, fin_rt, fin_nx, e_eqAS, e_neAS, e_eqAI, e_neAI, e_eqAB, e_neAB, e_meth, e_methO, e_isLl, e_isLd, e_tuL, e_tuD, e_tuT, e_liL, e_liD, e_liT, e_lenT, e_lenD, e_lenO, c6, c66, ef, isN_nn, sc, mRev, rev_t]
      · obtain ⟨k, xs3, e3, k1, k2, p3⟩ := drawB (many := 4) p2 (by omega) (by decide) (by decide)
        obtain ⟨v, hv, e4⟩ := ix_mem (xs := [.tup [.str x, .str y, .str z, .str w], .tup [.str w, .str z, .str y, .str x], .lst [.str x, .str y, .str z, .str w], .tup [.str x, .str y, .str z]]) k1 (by simpa using k2)
        refine ⟨v, xs3, ?_, ?_, p3.mono (by omega)⟩
        · simp -implicitDefEqProofs [e_seq, bS_nx, bS_rt, bS_bk, bS_ct, bS_no, e_skip, e_if, e_set, e_ret, e_retN, e_expr, e_setIx, e_op, e_nil, e_cons, e_val, e_frz, e_arg, gA_d, gA_l, gA_k, gA_t, gA_m, e_name, nA_d, nA_l, nA_k, nA_t, nA_m, e_move, vA_s, e_c, e_conts0, e_conts1, e_contV, e_contR, e_tst, e_tnot, e_tand, e_tor, e_ifE, e_call, e_refs0, e_refsV, e_refsR, e_sr0, e_srV, e_srR, e_ixL, e_ixT, e_at0, e_at1, e_at2, e_at3, e_addI, e_subI, e_gtI, e_ltI, e_leI, e_intI, e_intB, e_setM, e_putL, e_ix30, e_ix31, e_ix32, e_for, e_seqI, e_asl, e_ast, e_gset, e_yes, wipeL, unwipe, e_frzd, e_frzl, e_frzm, e_frzk, e_frzt, e_max2, e_min2, e_datas0, e_datas1, e_dispL, e_dispT, e_outs0, e_outsD, e_outsL, e_outsT, e_outsK, e_slotC, e_fn, fin_rt, fin_nx, e_eqAS, e_neAS, e_eqAI, e_neAI, e_eqAB, e_neAB, e_meth, e_methO, e_isLl, e_isLd, e_tuL, e_tuD, e_tuT, e_liL, e_liD, e_liT, e_lenT, e_lenD, e_lenO, c6, c66, ef, isN_tn, mRev, rev_t, e_sl, e_moN, e_moS, e_slT, cut3, e3, e4]
        · simp only [List.mem_cons, List.not_mem_nil, or_false] at hv
          rcases hv with rfl | rfl | rfl | rfl
          · exact .four hx hy hz hw
          · exact .four hw hz hy hx
          · refine .notup rfl ((nice_lst (d := 0) (w := 1000) fun q hq => ?_).rep (by decide) (by simp))
            simp only [List.mem_cons, List.not_mem_nil, or_false] at hq
            rcases hq with rfl | rfl | rfl | rfl
            · exact nw _ hx
            · exact nw _ hy
            · exact nw _ hz
            · exact nw _ hw
          · refine .short (by simp) ((nice4 fun q hq => ?_).rep (by decide) (by simp))
            simp only [List.mem_cons, List.not_mem_nil, or_false] at hq
            rcases hq with rfl | rfl | rfl
            · exact nw _ hx
            · exact nw _ hy
            · exact nw _ hz
    · by_cases c7 : way = 7
      · refine ⟨.tup [.str a, .str b, .str c, .str d], xs2, ?_, .four ma mb mc md, p2.mono (by omega)⟩
        simp -implicitDefEqProofs [e_seq, bS_nx, bS_rt, bS_bk, bS_ct, bS_no, e_skip, e_if, e_set, e_ret, e_retN, e_expr, e_setIx, e_op, e_nil, e_cons, e_val, e_frz, e_arg, gA_d, gA_l, gA_k, gA_t, gA_m, e_name, nA_d, nA_l, nA_k, nA_t, nA_m, e_move, vA_s, e_c, e_conts0, e_conts1, e_contV, e_contR, e_tst, e_tnot, e_tand, e_tor, e_ifE, e_call, e_refs0, e_refsV, e_refsR, e_sr0, e_srV, e_srR, e_ixA, e_ixL, e_ixT, e_at0, e_at1, e_at2, e_at3, e_addI, e_subI, e_gtI, e_ltI, e_leI, e_intI, e_intB, e_setM, e_putL, e_ix30, e_ix31, e_ix32, e_for, e_seqI, e_asl, e_ast, e_gset, e_yes, wipeL, unwipe, e_frzd, e_frzl, e_frzm, e_frzk, e_frzt, e_max2, e_min2, e_datas0, e_datas1, e_dispL, e_dispT, e_outs0, e_outsD, e_outsL, e_outsT, e_outsK, e_slotC, e_fn, fin_rt, fin_nx, e_eqAS, e_neAS, e_eqAI, e_neAI, e_eqAB, e_neAB, e_meth, e_methO, e_isLl, e_isLd, e_tuL, e_tuD, e_tuT, e_liL, e_liD, e_liT, e_lenT, e_lenD, e_lenO, c6, c66, c7]
      · obtain ⟨l, ej, lj, ll⟩ := join4 (N.ok a ma) (N.ok b mb) (N.ok c mc) (N.ok d md)
        obtain ⟨k, xs3, e3, k1, k2, p3⟩ := drawB (many := 12) p2 (by omega) (by decide) (by decide)
        obtain ⟨v, hv, e4⟩ := ix_mem (xs := [.tup [.str a, .str b, .str c], .tup (us5.map .str), .non, .int 0, .str (mkS l), .tup [], .lst [.tup [.str a, .str b, .str c, .str d]], .tup [.str a, .str b, .str c, .str (mkS [])], .dk [] [], .tup [.str a', .str b', .str c', .str (mkS [122, 122, 122, 122, 122, 122, 122, 122, 122])], .tup [.tup [.str a, .str b, .str c, .str d], .tup [.str a, .str b, .str c, .str d]], .tup [.str a', .str b', .str c', .non]]) k1 (by simpa using k2)
        have n4 : Nice 1 4004 (.tup [.str a, .str b, .str c, .str d]) := (nice4 fun q hq => by
          simp only [List.mem_cons, List.not_mem_nil, or_false] at hq
          rcases hq with rfl | rfl | rfl | rfl
          · exact nw _ ma
          · exact nw _ mb
          · exact nw _ mc
          · exact nw _ md).mono (Nat.le_refl _) (by simp)
        refine ⟨v, xs3, ?_, ?_, p3.mono (by omega)⟩
        · have adT : ∀ xs ys : List D, xs.length + ys.length ≤ 1000 → addC [.d (.tup xs), .d (.tup ys)] = some (.d (.tup (xs ++ ys))) := fun xs ys h => e_addT h
          have adL : ∀ xs ys : List D, xs.length + ys.length ≤ 1000000 → addC [.l xs, .l ys] = some (.l (xs ++ ys)) := fun xs ys h => e_addL xs ys h
          have jo : ∀ L : Ls, L[3]? = some (some (.d (.tup [.str a, .str b, .str c, .str d]))) → mMethO isS joinC (mVal (mC (.str (mkS [])))) (maCons (gNameA 3) maNil) L = some (.d (.str (mkS l)), L) := fun L hL => by
            have iss : isS (.d (.str (mkS []))) = true := rfl
            simp -implicitDefEqProofs [e_seq, bS_nx, bS_rt, bS_bk, bS_ct, bS_no, e_skip, e_if, e_set, e_ret, e_retN, e_expr, e_setIx, e_op, e_nil, e_cons, e_val, e_frz, e_arg, gA_d, gA_l, gA_k, gA_t, gA_m, e_name, nA_d, nA_l, nA_k, nA_t, nA_m, e_move, vA_s, e_c, e_conts0, e_conts1, e_contV, e_contR, e_tst, e_tnot, e_tand, e_tor, e_ifE, e_call, e_refs0, e_refsV, e_refsR, e_sr0, e_srV, e_srR, e_ixA, e_ixL, e_ixT, e_at0, e_at1, e_at2, e_at3, e_addI, e_subI, e_gtI, e_ltI, e_leI, e_intI, e_intB, e_setM, e_putL, e_ix30, e_ix31, e_ix32, e_for, e_seqI, e_asl, e_ast, e_gset, e_yes, wipeL, unwipe, e_frzd, e_frzl, e_frzm, e_frzk, e_frzt, e_max2, e_min2, e_datas0, e_datas1, e_dispL, e_dispT, e_outs0, e_outsD, e_outsL, e_outsT, e_outsK, e_slotC, e_fn, fin_rt, fin_nx, e_eqAS, e_neAS, e_eqAI, e_neAI, e_eqAB, e_neAB, e_meth, e_methO, e_isLl, e_isLd, e_tuL, e_tuD, e_tuT, e_liL, e_liD, e_liT, e_lenT, e_lenD, e_lenO, hL, iss, ej]
          have nk : ∀ L : Ls, mNewK L = some (.k [] [], L) := fun _ => rfl
          simp -implicitDefEqProofs [e_seq, bS_nx, bS_rt, bS_bk, bS_ct, bS_no, e_skip, e_if, e_set, e_ret, e_retN, e_expr, e_setIx, e_op, e_nil, e_cons, e_val, e_frz, e_arg, gA_d, gA_l, gA_k, gA_t, gA_m, e_name, nA_d, nA_l, nA_k, nA_t, nA_m, e_move, vA_s, e_c, e_conts0, e_conts1, e_contV, e_contR, e_tst, e_tnot, e_tand, e_tor, e_ifE, e_call, e_refs0, e_refsV, e_refsR, e_sr0, e_srV, e_srR, e_ixL, e_ixT, e_at0, e_at1, e_at2, e_at3, e_addI, e_subI, e_gtI, e_ltI, e_leI, e_intI, e_intB, e_setM, e_putL, e_ix30, e_ix31, e_ix32, e_for, e_seqI, e_asl, e_ast, e_gset, e_yes, wipeL, unwipe, e_frzd, e_frzl, e_frzm, e_frzk, e_frzt, e_max2, e_min2, e_datas0, e_datas1, e_dispL, e_dispT, e_outs0, e_outsD, e_outsL, e_outsT, e_outsK, e_slotC, e_fn, fin_rt, fin_nx, e_eqAS, e_neAS, e_eqAI, e_neAI, e_eqAB, e_neAB, e_meth, e_isLl, e_isLd, e_tuL, e_tuD, e_tuT, e_liL, e_liD, e_liT, e_lenT, e_lenD, e_lenO, c6, c66, c7, e_sl, e_moN, e_moS, e_slT, cut3, cut1, adT, adL, sc, sc5, jo, nk, e_frzk, zs_eq, empty_eq, e3, e4]
        · simp only [List.mem_cons, List.not_mem_nil, or_false] at hv
          rcases hv with rfl | rfl | rfl | rfl | rfl | rfl | rfl | rfl | rfl | rfl | rfl | rfl
          · refine .short (by simp) ((nice4 fun q hq => ?_).rep (by decide) (by simp))
            simp only [List.mem_cons, List.not_mem_nil, or_false] at hq
            rcases hq with rfl | rfl | rfl
            · exact nw _ ma
            · exact nw _ mb
            · exact nw _ mc
          · refine .short (by rw [List.length_map, l5]; decide) ((nice4 fun q hq => ?_).rep (by decide) (by rw [List.length_map, l5]; decide))
            obtain ⟨u, hu, rfl⟩ := List.mem_map.mp hq
            exact nw _ (us5m u hu)
          · exact .notup rfl (nice_non.rep (by decide) (by decide))
          · exact .notup rfl ((nice_int (i := 0) (by decide) (by decide)).rep (by decide) (by decide))
          · exact .notup rfl ((nice_str lj).rep (by decide) (by omega))
          · exact .short (by simp) ((nice4 (xs := []) fun q hq => absurd hq (by simp)).rep (by decide) (by simp))
          · refine .notup rfl ((nice_lst (d := 1) (w := 4004) fun q hq => ?_).rep (by decide) (by simp))
            rw [List.mem_singleton.mp hq]; exact n4
          · exact .lastW ma mb mc badW_em
          · exact .notup rfl ⟨"{}", rfl⟩
          · exact .lastW ma' mb' mc' badW_zs
          · refine .short (by simp) ((nice_tup (d := 1) (w := 4004) fun q hq => ?_).rep (by decide) (by simp))
            simp only [List.mem_cons, List.not_mem_nil, or_false] at hq
            rcases hq with rfl | rfl <;> exact n4
          · exact .lastN ma' mb' mc'
/-! ### the law -/
theorem e_callD {m : FM} {ms : MA} {L L' : Ls} {v dd : D} {c : C} {cs' : List C} (h : ms L = some ([.val (.d v), .val (.d dd)], L')) (hm : m [.d dd, .d v] = some (c, cs')) : mCallD m [1, 0] ms L = some (c, L') := by
  unfold mCallD
  rw [h]
  show (match m [.d dd, .d v] with | some (c, _) => some (c, L') | none => none) = _
  rw [hm]
theorem dist_nice {many : Nat} {ws : List PySem.Str} (N : NamesOk many ws) (h2 : many ≤ 12) {f : Mat} (mo : MatOk ws.length f) : Nice 3 20000 (distD ws f) := by
  have wl := N.len
  have r : Nice 2 9500 (.tup ((rowsOf ws.length f).map .tup)) := by
    have := nice_tup (d := 1) (w := 780) (xs := (rowsOf ws.length f).map .tup) fun x hx => by
      obtain ⟨l, hl, rfl⟩ := List.mem_map.mp hx
      obtain ⟨i, hi, rfl⟩ := List.mem_map.mp hl
      have hi := List.mem_range.mp hi
      have := nice_tup (d := 0) (w := 64) (xs := (List.range ws.length).map fun j => .int (f i j)) fun y hy => by
        obtain ⟨j, hj, rfl⟩ := List.mem_map.mp hy
        have hj := List.mem_range.mp hj
        exact nice_int (mo i j hi hj).1 (mo i j hi hj).2.1
      exact this.mono (Nat.le_refl _) (by rw [List.length_map, List.length_range]; omega)
    exact this.mono (Nat.le_refl _) (by rw [List.length_map, rowsOf_len]; omega)
  have := nice_tup (d := 2) (w := 9500) (xs := [.tup (ws.map .str), .tup ((rowsOf ws.length f).map .tup)]) fun x hx => by
    simp only [List.mem_cons, List.not_mem_nil, or_false] at hx
    rcases hx with rfl | rfl
    · exact (names_nice N.ok).mono (by decide) (by omega)
    · exact r
  exact this.mono (Nat.le_refl _) (by simp)
theorem right_ok {xs : List D} (p : PotL 0 xs) : ∃ xs', m_law_right [.l xs] = some (.d (.bl true), [.l xs']) := by
  obtain ⟨d, xs1, e1, d1, d2, p1⟩ := drawB (many := 7) p (by decide) (by decide) (by decide)
  obtain ⟨many, hm⟩ : ∃ many : Nat, 3 + d = (many : Int) := ⟨(3 + d).toNat, by omega⟩
  obtain ⟨ws, xs2, e2, N, p2⟩ := names_ok p1 (by decide) (show 1 ≤ many by omega) (by omega)
  have wl := N.len
  obtain ⟨f0, xs3, e3, mo0, p3⟩ := any_ok p2 ws (by omega) (by omega) (by omega)
  obtain ⟨d5, xs4, e4, d6, d7, p4⟩ := drawB (many := 3) p3 (by omega) (by decide) (by decide)
  have hdist : ∃ f xs5, MatOk ws.length f ∧ PotL 5000 xs5 ∧ mIf (tstM (mOp gtC (maCons (mVal (mCall m_law_draw (maCons (gNameA 0) (maCons (mVal (mC (.int 3))) maNil)))) (maCons (mVal (mC (.int 0))) maNil))))
    (mSet 2 (mCall m_law_near (maCons (gNameA 0) (maCons (mVal (mCall m_law_distances (maCons (gNameA 1) (maCons (mVal (mCall m_law_doubled (maCons (gNameA 0) (maCons (mVal (mCall m_law_hung (maCons (gNameA 0) (maCons (gNameA 1) maNil)))) maNil)))) maNil)))) maNil))))
    mSkip [some (.l xs3), some (.d (.tup (ws.map .str))), some (.d (distD ws f0)), none, none, none, none, none, none, none] = some (.nx [some (.l xs5), some (.d (.tup (ws.map .str))), some (.d (distD ws f)), none, none, none, none, none, none, none]) := by
    by_cases c : 0 < d5
    · obtain ⟨us, xs5, e5, fo, p5⟩ := hung_ok p4 WOk ws N.ok N.nd (by omega) (by omega) (by omega)
      obtain ⟨front, last, w0, wr, T, fr⟩ := treeL WOk (fun _ h => h) us (ws.length - 1) ws.length fo (by omega) (by omega) (by omega)
      obtain ⟨ks, vs, xs6, e6, dt, kin, p6⟩ := doubled_ok p5 (fun _ h => h) T (by omega) (by omega)
      obtain ⟨f1, cs', e7, cl, mo1⟩ := distances_ok ws (by omega) dt kin fr (by omega) (by omega)
      obtain ⟨f2, xs7, e8, mo2, p7⟩ := near_ok p6 ws f1 mo1 (by omega) (by omega) (by omega)
      refine ⟨f2, xs7, mo2, p7.mono (by omega), ?_⟩
      match cs', cl with
      | [z1, z2], _ => simp -implicitDefEqProofs [e_seq, bS_nx, bS_rt, bS_bk, bS_ct, bS_no, e_skip, e_if, e_set, e_ret, e_retN, e_expr, e_setIx, e_op, e_nil, e_cons, e_val, e_frz, e_arg, gA_d, gA_l, gA_k, gA_t, gA_m, e_name, nA_d, nA_l, nA_k, nA_t, nA_m, e_move, vA_s, e_c, e_conts0, e_conts1, e_contV, e_contR, e_tst, e_tnot, e_tand, e_tor, e_ifE, e_call, e_refs0, e_refsV, e_refsR, e_sr0, e_srV, e_srR, e_ixA, e_ixL, e_ixT, e_at0, e_at1, e_at2, e_at3, e_addI, e_subI, e_gtI, e_ltI, e_leI, e_intI, e_intB, e_setM, e_putL, e_ix30, e_ix31, e_ix32, e_for, e_seqI, e_asl, e_ast, e_gset, e_yes, wipeL, unwipe, e_frzd, e_frzl, e_frzm, e_frzk, e_frzt, e_max2, e_min2, e_datas0, e_datas1, e_dispL, e_dispT, e_outs0, e_outsD, e_outsL, e_outsT, e_outsK, e_slotC, e_fn, fin_rt, fin_nx, e_eqAS, e_neAS, e_eqAI, e_neAI, e_eqAB, e_neAB, e_meth, e_methO, e_isLl, e_isLd, e_tuL, e_tuD, e_tuT, e_liL, e_liD, e_liT, e_lenT, e_lenD, e_lenO, e4, c, e5, e6, e7, e8]
    · exact ⟨f0, xs4, mo0, p4.mono (by omega), by simp -implicitDefEqProofs [e_seq, bS_nx, bS_rt, bS_bk, bS_ct, bS_no, e_skip, e_if, e_set, e_ret, e_retN, e_expr, e_setIx, e_op, e_nil, e_cons, e_val, e_frz, e_arg, gA_d, gA_l, gA_k, gA_t, gA_m, e_name, nA_d, nA_l, nA_k, nA_t, nA_m, e_move, vA_s, e_c, e_conts0, e_conts1, e_contV, e_contR, e_tst, e_tnot, e_tand, e_tor, e_ifE, e_call, e_refs0, e_refsV, e_refsR, e_sr0, e_srV, e_srR, e_ixA, e_ixL, e_ixT, e_at0, e_at1, e_at2, e_at3, e_addI, e_subI, e_gtI, e_ltI, e_leI, e_intI, e_intB, e_setM, e_putL, e_ix30, e_ix31, e_ix32, e_for, e_seqI, e_asl, e_ast, e_gset, e_yes, wipeL, unwipe, e_frzd, e_frzl, e_frzm, e_frzk, e_frzt, e_max2, e_min2, e_datas0, e_datas1, e_dispL, e_dispT, e_outs0, e_outsD, e_outsL, e_outsT, e_outsK, e_slotC, e_fn, fin_rt, fin_nx, e_eqAS, e_neAS, e_eqAI, e_neAI, e_eqAB, e_neAB, e_meth, e_methO, e_isLl, e_isLd, e_tuL, e_tuD, e_tuT, e_liL, e_liD, e_liT, e_lenT, e_lenD, e_lenO, e4, c]⟩
  obtain ⟨f, xs5, mo, p5, eif⟩ := hdist
  have tb := ltable_ok (show 1 ≤ ws.length by omega) (show ws.length ≤ 26 by omega) f
  have T := tab_ok N.nd (show ws.length ≤ 26 by omega) f
  obtain ⟨kept, ek⟩ := (dist_nice N (by omega) mo).rep (by decide) (by decide)
  have n2 : ∀ r : Bool, ∃ s, reprC [.l [.bl r, .bl r]] = some (.d (.str s)) := fun r => ⟨_, e_reprL ((nice_lst (d := 0) (w := 0) (xs := [.bl r, .bl r]) fun x hx => by
    simp only [List.mem_cons, List.not_mem_nil, or_false] at hx
    rcases hx with rfl | rfl <;> exact nice_bl _).okR (by decide) (by simp))⟩
  obtain ⟨L', e6, xs6, y5, y6, y7, y8, y9, rfl, p6⟩ := for_inv (mt := gSet 5) (body := b_law_right_1) (fun i L => ∃ xs6 y5 y6 y7 y8 y9, L = [some (.l xs6), some (.d (.tup (ws.map .str))), some (.d (distD ws f)), some (.t (tab ws f).1 (tab ws f).2), some (.d (.str kept)), y5, y6, y7, y8, y9] ∧ PotL (5000 + 6 * i) xs6) (rngD 0 20)
    (L := [some (.l xs5), some (.d (.tup (ws.map .str))), some (.d (distD ws f)), some (.t (tab ws f).1 (tab ws f).2), some (.d (.str kept)), none, none, none, none, none]) ⟨xs5, none, none, none, none, none, rfl, p5⟩ fun i x L hx ⟨xs6, y5, y6, y7, y8, y9, hL, p6⟩ => by
      obtain ⟨rfl, hi⟩ := rngD_get0 _ _ _ hx
      subst hL
      obtain ⟨v, xs7, e7, th, p7⟩ := thing_ok p6 (by omega) N (by omega) (by omega) T
      obtain ⟨r, ed, ef⟩ := due_ok N (by omega) (by omega) mo th
      obtain ⟨s, es⟩ := th.rep N.ok
      obtain ⟨s2, e2r⟩ := n2 r
      have cd := e_callD (m := mfour_holds) (ms := maCons (mVal (mName 6)) (maCons (mVal (mName 2)) maNil)) (L := [some (.l xs7), some (.d (.tup (ws.map .str))), some (.d (distD ws f)), some (.t (tab ws f).1 (tab ws f).2), some (.d (.str kept)), some (.d (.int i)), some (.d v), some (.d (.str s)), some (.d (.bl r)), y9]) (L' := [some (.l xs7), some (.d (.tup (ws.map .str))), some (.d (distD ws f)), some (.t (tab ws f).1 (tab ws f).2), some (.d (.str kept)), some (.d (.int i)), some (.d v), some (.d (.str s)), some (.d (.bl r)), y9]) (v := v) (dd := distD ws f) (by simp -implicitDefEqProofs [e_seq, bS_nx, bS_rt, bS_bk, bS_ct, bS_no, e_skip, e_if, e_set, e_ret, e_retN, e_expr, e_setIx, e_op, e_nil, e_cons, e_val, e_frz, e_arg, gA_d, gA_l, gA_k, gA_t, gA_m, e_name, nA_d, nA_l, nA_k, nA_t, nA_m, e_move, vA_s, e_c, e_conts0, e_conts1, e_contV, e_contR, e_tst, e_tnot, e_tand, e_tor, e_ifE, e_call, e_refs0, e_refsV, e_refsR, e_sr0, e_srV, e_srR, e_ixA, e_ixL, e_ixT, e_at0, e_at1, e_at2, e_at3, e_addI, e_subI, e_gtI, e_ltI, e_leI, e_intI, e_intB, e_setM, e_putL, e_ix30, e_ix31, e_ix32, e_for, e_seqI, e_asl, e_ast, e_gset, e_yes, wipeL, unwipe, e_frzd, e_frzl, e_frzm, e_frzk, e_frzt, e_max2, e_min2, e_datas0, e_datas1, e_dispL, e_dispT, e_outs0, e_outsD, e_outsL, e_outsT, e_outsK, e_slotC, e_fn, fin_rt, fin_nx, e_eqAS, e_neAS, e_eqAI, e_neAI, e_eqAB, e_neAB, e_meth, e_methO, e_isLl, e_isLd, e_tuL, e_tuD, e_tuT, e_liL, e_liD, e_liT, e_lenT, e_lenD, e_lenO]) ef
      refine ⟨_, _, rfl, ?_, xs7, some (.d (.int i)), some (.d v), some (.d (.str s)), some (.d (.bl r)), some (.l [.bl r, .bl r]), rfl, p7.mono (by omega)⟩
      simp -implicitDefEqProofs [b_law_right_1, e_seq, bS_nx, bS_rt, bS_bk, bS_ct, bS_no, e_skip, e_if, e_set, e_ret, e_retN, e_expr, e_setIx, e_op, e_nil, e_cons, e_val, e_frz, e_arg, gA_d, gA_l, gA_k, gA_t, gA_m, e_name, nA_d, nA_l, nA_k, nA_t, nA_m, e_move, vA_s, e_c, e_conts0, e_conts1, e_contV, e_contR, e_tst, e_tnot, e_tand, e_tor, e_ifE, e_call, e_refs0, e_refsV, e_refsR, e_sr0, e_srV, e_srR, e_ixA, e_ixL, e_ixT, e_at0, e_at1, e_at2, e_at3, e_addI, e_subI, e_gtI, e_ltI, e_leI, e_intI, e_intB, e_setM, e_putL, e_ix30, e_ix31, e_ix32, e_for, e_seqI, e_asl, e_ast, e_gset, e_yes, wipeL, unwipe, e_frzd, e_frzl, e_frzm, e_frzk, e_frzt, e_max2, e_min2, e_datas0, e_datas1, e_dispL, e_dispT, e_outs0, e_outsD, e_outsL, e_outsT, e_outsK, e_slotC, e_fn, fin_rt, fin_nx, e_eqAS, e_neAS, e_eqAI, e_neAI, e_eqAB, e_neAB, e_meth, e_methO, e_isLl, e_isLd, e_tuL, e_tuD, e_tuT, e_liL, e_liD, e_liT, e_lenT, e_lenD, e_lenO, e7, es, ed, ef, cd, e2r]
  have r20 := e_r1B (maCons (mVal (mC (.int 20))) maNil) [some (.l xs5), some (.d (.tup (ws.map .str))), some (.d (distD ws f)), some (.t (tab ws f).1 (tab ws f).2), some (.d (.str kept)), none, none, none, none, none] 20 [.val (.d (.int 20))] _ rfl rfl (by decide)
  have pr := e_par 3 4 (maCons (mVal (mCall m_law_table (maCons (gNameA 2) maNil))) (maCons (mVal (mOp reprC (maCons (gNameA 2) maNil))) maNil)) [some (.l xs5), some (.d (.tup (ws.map .str))), some (.d (distD ws f)), none, none, none, none, none, none, none] (.t (tab ws f).1 (tab ws f).2) (.d (.str kept)) [some (.l xs5), some (.d (.tup (ws.map .str))), some (.d (distD ws f)), none, none, none, none, none, none, none] (by simp -implicitDefEqProofs [e_seq, bS_nx, bS_rt, bS_bk, bS_ct, bS_no, e_skip, e_if, e_set, e_ret, e_retN, e_expr, e_setIx, e_op, e_nil, e_cons, e_val, e_frz, e_arg, gA_d, gA_l, gA_k, gA_t, gA_m, e_name, nA_d, nA_l, nA_k, nA_t, nA_m, e_move, vA_s, e_c, e_conts0, e_conts1, e_contV, e_contR, e_tst, e_tnot, e_tand, e_tor, e_ifE, e_call, e_refs0, e_refsV, e_refsR, e_sr0, e_srV, e_srR, e_ixA, e_ixL, e_ixT, e_at0, e_at1, e_at2, e_at3, e_addI, e_subI, e_gtI, e_ltI, e_leI, e_intI, e_intB, e_setM, e_putL, e_ix30, e_ix31, e_ix32, e_for, e_seqI, e_asl, e_ast, e_gset, e_yes, wipeL, unwipe, e_frzd, e_frzl, e_frzm, e_frzk, e_frzt, e_max2, e_min2, e_datas0, e_datas1, e_dispL, e_dispT, e_outs0, e_outsD, e_outsL, e_outsT, e_outsK, e_slotC, e_fn, fin_rt, fin_nx, e_eqAS, e_neAS, e_eqAI, e_neAI, e_eqAB, e_neAB, e_meth, e_methO, e_isLl, e_isLd, e_tuL, e_tuD, e_tuT, e_liL, e_liD, e_liT, e_lenT, e_lenD, e_lenO, tb, ek]) (by simp) (by simp)
  refine ⟨xs6, ?_⟩
  unfold m_law_right
  rw [e_fn 1 10 [0] _ [.l xs] rfl]
  have s1 : mSet 1 (mCall m_law_names (maCons (gNameA 0) (maCons (mVal (mOp addC (maCons (mVal (mC (.int 3))) (maCons (mVal (mCall m_law_draw (maCons (gNameA 0) (maCons (mVal (mC (.int 7))) maNil)))) maNil)))) maNil))) [some (.l xs), none, none, none, none, none, none, none, none, none] = some (.nx [some (.l xs2), some (.d (.tup (ws.map .str))), none, none, none, none, none, none, none, none]) := by
    simp -implicitDefEqProofs [e_seq, bS_nx, bS_rt, bS_bk, bS_ct, bS_no, e_skip, e_if, e_set, e_ret, e_retN, e_expr, e_setIx, e_op, e_nil, e_cons, e_val, e_frz, e_arg, gA_d, gA_l, gA_k, gA_t, gA_m, e_name, nA_d, nA_l, nA_k, nA_t, nA_m, e_move, vA_s, e_c, e_conts0, e_conts1, e_contV, e_contR, e_tst, e_tnot, e_tand, e_tor, e_ifE, e_call, e_refs0, e_refsV, e_refsR, e_sr0, e_srV, e_srR, e_ixA, e_ixL, e_ixT, e_at0, e_at1, e_at2, e_at3, e_addI, e_subI, e_gtI, e_ltI, e_leI, e_intI, e_intB, e_setM, e_putL, e_ix30, e_ix31, e_ix32, e_for, e_seqI, e_asl, e_ast, e_gset, e_yes, wipeL, unwipe, e_frzd, e_frzl, e_frzm, e_frzk, e_frzt, e_max2, e_min2, e_datas0, e_datas1, e_dispL, e_dispT, e_outs0, e_outsD, e_outsL, e_outsT, e_outsK, e_slotC, e_fn, fin_rt, fin_nx, e_eqAS, e_neAS, e_eqAI, e_neAI, e_eqAB, e_neAB, e_meth, e_methO, e_isLl, e_isLd, e_tuL, e_tuD, e_tuT, e_liL, e_liD, e_liT, e_lenT, e_lenD, e_lenO, e1, hm, e2]
  have s2 : mSet 2 (mCall m_law_any (maCons (gNameA 0) (maCons (gNameA 1) maNil))) [some (.l xs2), some (.d (.tup (ws.map .str))), none, none, none, none, none, none, none, none] = some (.nx [some (.l xs3), some (.d (.tup (ws.map .str))), some (.d (distD ws f0)), none, none, none, none, none, none, none]) := by
    simp -implicitDefEqProofs [e_seq, bS_nx, bS_rt, bS_bk, bS_ct, bS_no, e_skip, e_if, e_set, e_ret, e_retN, e_expr, e_setIx, e_op, e_nil, e_cons, e_val, e_frz, e_arg, gA_d, gA_l, gA_k, gA_t, gA_m, e_name, nA_d, nA_l, nA_k, nA_t, nA_m, e_move, vA_s, e_c, e_conts0, e_conts1, e_contV, e_contR, e_tst, e_tnot, e_tand, e_tor, e_ifE, e_call, e_refs0, e_refsV, e_refsR, e_sr0, e_srV, e_srR, e_ixA, e_ixL, e_ixT, e_at0, e_at1, e_at2, e_at3, e_addI, e_subI, e_gtI, e_ltI, e_leI, e_intI, e_intB, e_setM, e_putL, e_ix30, e_ix31, e_ix32, e_for, e_seqI, e_asl, e_ast, e_gset, e_yes, wipeL, unwipe, e_frzd, e_frzl, e_frzm, e_frzk, e_frzt, e_max2, e_min2, e_datas0, e_datas1, e_dispL, e_dispT, e_outs0, e_outsD, e_outsL, e_outsT, e_outsK, e_slotC, e_fn, fin_rt, fin_nx, e_eqAS, e_neAS, e_eqAI, e_neAI, e_eqAB, e_neAB, e_meth, e_methO, e_isLl, e_isLd, e_tuL, e_tuD, e_tuT, e_liL, e_liD, e_liT, e_lenT, e_lenD, e_lenO, e3]
  show fin _ _ (mSeq _ _ [some (.l xs), none, none, none, none, none, none, none, none, none]) = _
  rw [e_seq, s1, bS_nx, e_seq, s2, bS_nx, e_seq, eif, bS_nx]
  simp -implicitDefEqProofs [e_seq, bS_nx, bS_rt, bS_bk, bS_ct, bS_no, e_skip, e_if, e_set, e_ret, e_retN, e_expr, e_setIx, e_op, e_nil, e_cons, e_val, e_frz, e_arg, gA_d, gA_l, gA_k, gA_t, gA_m, e_name, nA_d, nA_l, nA_k, nA_t, nA_m, e_move, vA_s, e_c, e_conts0, e_conts1, e_contV, e_contR, e_tst, e_tnot, e_tand, e_tor, e_ifE, e_call, e_refs0, e_refsV, e_refsR, e_sr0, e_srV, e_srR, e_ixA, e_ixL, e_ixT, e_at0, e_at1, e_at2, e_at3, e_addI, e_subI, e_gtI, e_ltI, e_leI, e_intI, e_intB, e_setM, e_putL, e_ix30, e_ix31, e_ix32, e_for, e_seqI, e_asl, e_ast, e_gset, e_yes, wipeL, unwipe, e_frzd, e_frzl, e_frzm, e_frzk, e_frzt, e_max2, e_min2, e_datas0, e_datas1, e_dispL, e_dispT, e_outs0, e_outsD, e_outsL, e_outsT, e_outsK, e_slotC, e_fn, fin_rt, fin_nx, e_eqAS, e_neAS, e_eqAI, e_neAI, e_eqAB, e_neAB, e_meth, e_methO, e_isLl, e_isLd, e_tuL, e_tuD, e_tuT, e_liL, e_liD, e_liT, e_lenT, e_lenD, e_lenO, pr, r20, e6, ek]
theorem law_true (ns : List Int) (h : ns.length ≤ 63) : ∃ cs', mlaw [.d (.lst (ns.map .int))] = some (.d (.bl true), cs') := by
  obtain ⟨m, hm, hm2⟩ : ∃ m : Nat, (if (if (ns.length : Int) < 2 then (ns.length : Int) else 2) > 1 then (if (ns.length : Int) < 2 then (ns.length : Int) else 2) else 1) = (m : Int) ∧ m ≤ 2 := ⟨(if (if (ns.length : Int) < 2 then (ns.length : Int) else 2) > 1 then (if (ns.length : Int) < 2 then (ns.length : Int) else 2) else 1).toNat, by split <;> split <;> omega, by split <;> split <;> omega⟩
  obtain ⟨L', e1, y1, rfl⟩ := for_inv (mt := gSet 1) (body := blaw_1) (fun i L => ∃ y1, L = [some (.d (.lst (ns.map .int))), y1]) (rngD 0 m) (L := [some (.d (.lst (ns.map .int))), none]) ⟨none, rfl⟩ fun i x L hx ⟨y1, hL⟩ => by
    obtain ⟨rfl, hi⟩ := rngD_get0 _ _ _ hx
    subst hL
    obtain ⟨xs, e1, p1⟩ := pot_ok ns i (by omega)
    obtain ⟨xs', e2⟩ := right_ok p1
    refine ⟨_, _, rfl, ?_, some (.d (.int i)), rfl⟩
    simp -implicitDefEqProofs [blaw_1, e_seq, bS_nx, bS_rt, bS_bk, bS_ct, bS_no, e_skip, e_if, e_set, e_ret, e_retN, e_expr, e_setIx, e_op, e_nil, e_cons, e_val, e_frz, e_arg, gA_d, gA_l, gA_k, gA_t, gA_m, e_name, nA_d, nA_l, nA_k, nA_t, nA_m, e_move, vA_s, e_c, e_conts0, e_conts1, e_contV, e_contR, e_tst, e_tnot, e_tand, e_tor, e_ifE, e_call, e_refs0, e_refsV, e_refsR, e_sr0, e_srV, e_srR, e_ixA, e_ixL, e_ixT, e_at0, e_at1, e_at2, e_at3, e_addI, e_subI, e_gtI, e_ltI, e_leI, e_intI, e_intB, e_setM, e_putL, e_ix30, e_ix31, e_ix32, e_for, e_seqI, e_asl, e_ast, e_gset, e_yes, wipeL, unwipe, e_frzd, e_frzl, e_frzm, e_frzk, e_frzt, e_max2, e_min2, e_datas0, e_datas1, e_dispL, e_dispT, e_outs0, e_outsD, e_outsL, e_outsT, e_outsK, e_slotC, e_fn, fin_rt, fin_nx, e_eqAS, e_neAS, e_eqAI, e_neAI, e_eqAB, e_neAB, e_meth, e_methO, e_isLl, e_isLd, e_tuL, e_tuD, e_tuT, e_liL, e_liD, e_liT, e_lenT, e_lenD, e_lenO, e1, e2]
  have r := e_r1B (maCons (mVal (mOp max2C (maCons (mVal (mC (.int 1))) (maCons (mVal (mOp min2C (maCons (mVal (mC (.int 2))) (maCons (mVal (mOp lenC (maCons (gNameA 0) maNil))) maNil)))) maNil)))) maNil) [some (.d (.lst (ns.map .int))), none] m [.val (.d (.int m))] [some (.d (.lst (ns.map .int))), none] (by
    rw [← hm]
    simp -implicitDefEqProofs [e_seq, bS_nx, bS_rt, bS_bk, bS_ct, bS_no, e_skip, e_if, e_set, e_ret, e_retN, e_expr, e_setIx, e_op, e_nil, e_cons, e_val, e_frz, e_arg, gA_d, gA_l, gA_k, gA_t, gA_m, e_name, nA_d, nA_l, nA_k, nA_t, nA_m, e_move, vA_s, e_c, e_conts0, e_conts1, e_contV, e_contR, e_tst, e_tnot, e_tand, e_tor, e_ifE, e_call, e_refs0, e_refsV, e_refsR, e_sr0, e_srV, e_srR, e_ixA, e_ixL, e_ixT, e_at0, e_at1, e_at2, e_at3, e_addI, e_subI, e_gtI, e_ltI, e_leI, e_intI, e_intB, e_setM, e_putL, e_ix30, e_ix31, e_ix32, e_for, e_seqI, e_asl, e_ast, e_gset, e_yes, wipeL, unwipe, e_frzd, e_frzl, e_frzm, e_frzk, e_frzt, e_max2, e_min2, e_datas0, e_datas1, e_dispL, e_dispT, e_outs0, e_outsD, e_outsL, e_outsT, e_outsK, e_slotC, e_fn, fin_rt, fin_nx, e_eqAS, e_neAS, e_eqAI, e_neAI, e_eqAB, e_neAB, e_meth, e_methO, e_isLl, e_isLd, e_tuL, e_tuD, e_tuT, e_liL, e_liD, e_liT, e_lenT, e_lenD, e_lenO]) rfl (by omega)
  exact ⟨_, by
    simp -implicitDefEqProofs [mlaw, e_seq, bS_nx, bS_rt, bS_bk, bS_ct, bS_no, e_skip, e_if, e_set, e_ret, e_retN, e_expr, e_setIx, e_op, e_nil, e_cons, e_val, e_frz, e_arg, gA_d, gA_l, gA_k, gA_t, gA_m, e_name, nA_d, nA_l, nA_k, nA_t, nA_m, e_move, vA_s, e_c, e_conts0, e_conts1, e_contV, e_contR, e_tst, e_tnot, e_tand, e_tor, e_ifE, e_call, e_refs0, e_refsV, e_refsR, e_sr0, e_srV, e_srR, e_ixA, e_ixL, e_ixT, e_at0, e_at1, e_at2, e_at3, e_addI, e_subI, e_gtI, e_ltI, e_leI, e_intI, e_intB, e_setM, e_putL, e_ix30, e_ix31, e_ix32, e_for, e_seqI, e_asl, e_ast, e_gset, e_yes, wipeL, unwipe, e_frzd, e_frzl, e_frzm, e_frzk, e_frzt, e_max2, e_min2, e_datas0, e_datas1, e_dispL, e_dispT, e_outs0, e_outsD, e_outsL, e_outsT, e_outsK, e_slotC, e_fn, fin_rt, fin_nx, e_eqAS, e_neAS, e_eqAI, e_neAI, e_eqAB, e_neAB, e_meth, e_methO, e_isLl, e_isLd, e_tuL, e_tuD, e_tuT, e_liL, e_liD, e_liT, e_lenT, e_lenD, e_lenO, r, e1]
    rfl⟩
end VS.L44

namespace VS.L44
open PySem PySem.Spec L2 VS
theorem Fun.kb {K : PySem.W.Frag} {x qual : PySem.Str} {st : Stmt} {f : Addr} {fd : FuncData} {ps ks : List PySem.Str} {π : List Nat} (F : Fun K x qual st f fd)
    (h : ∀ (kV doc pm : Value) (an : Option Addr) (cdv ct : Value) (us : List Value), us.length = ks.length → bindArgs (PySem.W.fnOf x qual (defArgs st) (defBody st) (defScope st) .none kV doc pm an cdv ct) ⟨[], ks.zip us⟩ = pure (ps.zip (pick π us))) : KB0 K fd ps ks π := by
  obtain ⟨oc, od, kV, doc, pm, an, cdv, ct, osl, rfl, lk, hcd⟩ := F.ex
  intro s us _ hl
  exact .of_eq (h kV doc pm an cdv ct us hl)
theorem all_mk {P : Program} {w : World} {K : PySem.W.Frag} {h : Heap} {mg : PySem.Str → Option Value} {fa : Addr} {f0 : Addr} {od0 an0 : Option Addr} {sl0 : Array (Option Value)} {oc0 kV0 dc0 pm0 cd0 ct0 : Value} {f1 : Addr} {od1 an1 : Option Addr} {sl1 : Array (Option Value)} {oc1 kV1 dc1 pm1 cd1 ct1 : Value} {f2 : Addr} {od2 an2 : Option Addr} {sl2 : Array (Option Value)} {oc2 kV2 dc2 pm2 cd2 ct2 : Value} {f3 : Addr} {od3 an3 : Option Addr} {sl3 : Array (Option Value)} {oc3 kV3 dc3 pm3 cd3 ct3 : Value} {f4 : Addr} {od4 an4 : Option Addr} {sl4 : Array (Option Value)} {oc4 kV4 dc4 pm4 cd4 ct4 : Value} {f5 : Addr} {od5 an5 : Option Addr} {sl5 : Array (Option Value)} {oc5 kV5 dc5 pm5 cd5 ct5 : Value} {f6 : Addr} {od6 an6 : Option Addr} {sl6 : Array (Option Value)} {oc6 kV6 dc6 pm6 cd6 ct6 : Value} {f7 : Addr} {od7 an7 : Option Addr} {sl7 : Array (Option Value)} {oc7 kV7 dc7 pm7 cd7 ct7 : Value} {f8 : Addr} {od8 an8 : Option Addr} {sl8 : Array (Option Value)} {oc8 kV8 dc8 pm8 cd8 ct8 : Value} {f9 : Addr} {od9 an9 : Option Addr} {sl9 : Array (Option Value)} {oc9 kV9 dc9 pm9 cd9 ct9 : Value} {f10 : Addr} {od10 an10 : Option Addr} {sl10 : Array (Option Value)} {oc10 kV10 dc10 pm10 cd10 ct10 : Value} {f11 : Addr} {od11 an11 : Option Addr} {sl11 : Array (Option Value)} {oc11 kV11 dc11 pm11 cd11 ct11 : Value} {f12 : Addr} {od12 an12 : Option Addr} {sl12 : Array (Option Value)} {oc12 kV12 dc12 pm12 cd12 ct12 : Value} {f13 : Addr} {od13 an13 : Option Addr} {sl13 : Array (Option Value)} {oc13 kV13 dc13 pm13 cd13 ct13 : Value} {f14 : Addr} {od14 an14 : Option Addr} {sl14 : Array (Option Value)} {oc14 kV14 dc14 pm14 cd14 ct14 : Value} {f15 : Addr} {od15 an15 : Option Addr} {sl15 : Array (Option Value)} {oc15 kV15 dc15 pm15 cd15 ct15 : Value} {f16 : Addr} {od16 an16 : Option Addr} {sl16 : Array (Option Value)} {oc16 kV16 dc16 pm16 cd16 ct16 : Value} {f17 : Addr} {od17 an17 : Option Addr} {sl17 : Array (Option Value)} {oc17 kV17 dc17 pm17 cd17 ct17 : Value} {f18 : Addr} {od18 an18 : Option Addr} {sl18 : Array (Option Value)} {oc18 kV18 dc18 pm18 cd18 ct18 : Value} {f19 : Addr} {od19 an19 : Option Addr} {sl19 : Array (Option Value)} {oc19 kV19 dc19 pm19 cd19 ct19 : Value} {f20 : Addr} {od20 an20 : Option Addr} {sl20 : Array (Option Value)} {oc20 kV20 dc20 pm20 cd20 ct20 : Value} {f21 : Addr} {od21 an21 : Option Addr} {sl21 : Array (Option Value)} {oc21 kV21 dc21 pm21 cd21 ct21 : Value} {f22 : Addr} {od22 an22 : Option Addr} {sl22 : Array (Option Value)} {oc22 kV22 dc22 pm22 cd22 ct22 : Value} {f23 : Addr} {od23 an23 : Option Addr} {sl23 : Array (Option Value)} {oc23 kV23 dc23 pm23 cd23 ct23 : Value} {f24 : Addr} {od24 an24 : Option Addr} {sl24 : Array (Option Value)} {oc24 kV24 dc24 pm24 cd24 ct24 : Value} {f25 : Addr} {od25 an25 : Option Addr} {sl25 : Array (Option Value)} {oc25 kV25 dc25 pm25 cd25 ct25 : Value} {f26 : Addr} {od26 an26 : Option Addr} {sl26 : Array (Option Value)} {oc26 kV26 dc26 pm26 cd26 ct26 : Value} {f27 : Addr} {od27 an27 : Option Addr} {sl27 : Array (Option Value)} {oc27 kV27 dc27 pm27 cd27 ct27 : Value} {f28 : Addr} {od28 an28 : Option Addr} {sl28 : Array (Option Value)} {oc28 kV28 dc28 pm28 cd28 ct28 : Value} {f29 : Addr} {od29 an29 : Option Addr} {sl29 : Array (Option Value)} {oc29 kV29 dc29 pm29 cd29 ct29 : Value} {f30 : Addr} {od30 an30 : Option Addr} {sl30 : Array (Option Value)} {oc30 kV30 dc30 pm30 cd30 ct30 : Value} {f31 : Addr} {od31 an31 : Option Addr} {sl31 : Array (Option Value)} {oc31 kV31 dc31 pm31 cd31 ct31 : Value} {t0 : Tok} {t1 : Tok} (X : K.In h) (G : h.Ns mainGlobals mg) (hfa : mg "law" = some (.ref fa))
    (a0 : PySem.W.nsIn K mainGlobals "_law_pot" = some (some (.ref f0))) (l0 : K.lookup f0 = some ⟨oc0, od0, .func (PySem.W.fnOf "_law_pot" "_law_pot" (defArgs s_law_pot) (defBody s_law_pot) (defScope s_law_pot) .none kV0 dc0 pm0 an0 cd0 ct0), sl0⟩) (c0 : PySem.W.codeIn K cd0 "_law_pot" = true) (k0 : PySem.W.keepIn K (.ref f0) = true)
    (a1 : PySem.W.nsIn K mainGlobals "_law_draw" = some (some (.ref f1))) (l1 : K.lookup f1 = some ⟨oc1, od1, .func (PySem.W.fnOf "_law_draw" "_law_draw" (defArgs s_law_draw) (defBody s_law_draw) (defScope s_law_draw) .none kV1 dc1 pm1 an1 cd1 ct1), sl1⟩) (c1 : PySem.W.codeIn K cd1 "_law_draw" = true) (k1 : PySem.W.keepIn K (.ref f1) = true)
    (a2 : PySem.W.nsIn K mainGlobals "_law_with" = some (some (.ref f2))) (l2 : K.lookup f2 = some ⟨oc2, od2, .func (PySem.W.fnOf "_law_with" "_law_with" (defArgs s_law_with) (defBody s_law_with) (defScope s_law_with) .none kV2 dc2 pm2 an2 cd2 ct2), sl2⟩) (c2 : PySem.W.codeIn K cd2 "_law_with" = true) (k2 : PySem.W.keepIn K (.ref f2) = true)
    (a3 : PySem.W.nsIn K mainGlobals "_law_any" = some (some (.ref f3))) (l3 : K.lookup f3 = some ⟨oc3, od3, .func (PySem.W.fnOf "_law_any" "_law_any" (defArgs s_law_any) (defBody s_law_any) (defScope s_law_any) .none kV3 dc3 pm3 an3 cd3 ct3), sl3⟩) (c3 : PySem.W.codeIn K cd3 "_law_any" = true) (k3 : PySem.W.keepIn K (.ref f3) = true)
    (a4 : PySem.W.nsIn K mainGlobals "_law_bad" = some (some (.ref f4))) (l4 : K.lookup f4 = some ⟨oc4, od4, .func (PySem.W.fnOf "_law_bad" "_law_bad" (defArgs s_law_bad) (defBody s_law_bad) (defScope s_law_bad) .none kV4 dc4 pm4 an4 cd4 ct4), sl4⟩) (c4 : PySem.W.codeIn K cd4 "_law_bad" = true) (k4 : PySem.W.keepIn K (.ref f4) = true)
    (a5 : PySem.W.nsIn K mainGlobals "_law_first_four" = some (some (.ref f5))) (l5 : K.lookup f5 = some ⟨oc5, od5, .func (PySem.W.fnOf "_law_first_four" "_law_first_four" (defArgs s_law_first_four) (defBody s_law_first_four) (defScope s_law_first_four) .none kV5 dc5 pm5 an5 cd5 ct5), sl5⟩) (c5 : PySem.W.codeIn K cd5 "_law_first_four" = true) (k5 : PySem.W.keepIn K (.ref f5) = true)
    (a6 : PySem.W.nsIn K mainGlobals "_law_thing" = some (some (.ref f6))) (l6 : K.lookup f6 = some ⟨oc6, od6, .func (PySem.W.fnOf "_law_thing" "_law_thing" (defArgs s_law_thing) (defBody s_law_thing) (defScope s_law_thing) .none kV6 dc6 pm6 an6 cd6 ct6), sl6⟩) (c6 : PySem.W.codeIn K cd6 "_law_thing" = true) (k6 : PySem.W.keepIn K (.ref f6) = true)
    (a7 : PySem.W.nsIn K mainGlobals "_law_distances" = some (some (.ref f7))) (l7 : K.lookup f7 = some ⟨oc7, od7, .func (PySem.W.fnOf "_law_distances" "_law_distances" (defArgs s_law_distances) (defBody s_law_distances) (defScope s_law_distances) .none kV7 dc7 pm7 an7 cd7 ct7), sl7⟩) (c7 : PySem.W.codeIn K cd7 "_law_distances" = true) (k7 : PySem.W.keepIn K (.ref f7) = true)
    (a8 : PySem.W.nsIn K mainGlobals "_law_lots" = some (some (.ref f8))) (l8 : K.lookup f8 = some ⟨oc8, od8, .func (PySem.W.fnOf "_law_lots" "_law_lots" (defArgs s_law_lots) (defBody s_law_lots) (defScope s_law_lots) .none kV8 dc8 pm8 an8 cd8 ct8), sl8⟩) (c8 : PySem.W.codeIn K cd8 "_law_lots" = true) (k8 : PySem.W.keepIn K (.ref f8) = true)
    (a9 : PySem.W.nsIn K mainGlobals "_law_splits" = some (some (.ref f9))) (l9 : K.lookup f9 = some ⟨oc9, od9, .func (PySem.W.fnOf "_law_splits" "_law_splits" (defArgs s_law_splits) (defBody s_law_splits) (defScope s_law_splits) .none kV9 dc9 pm9 an9 cd9 ct9), sl9⟩) (c9 : PySem.W.codeIn K cd9 "_law_splits" = true) (k9 : PySem.W.keepIn K (.ref f9) = true)
    (a10 : PySem.W.nsIn K mainGlobals "_law_doubled" = some (some (.ref f10))) (l10 : K.lookup f10 = some ⟨oc10, od10, .func (PySem.W.fnOf "_law_doubled" "_law_doubled" (defArgs s_law_doubled) (defBody s_law_doubled) (defScope s_law_doubled) .none kV10 dc10 pm10 an10 cd10 ct10), sl10⟩) (c10 : PySem.W.codeIn K cd10 "_law_doubled" = true) (k10 : PySem.W.keepIn K (.ref f10) = true)
    (a11 : PySem.W.nsIn K mainGlobals "_law_due" = some (some (.ref f11))) (l11 : K.lookup f11 = some ⟨oc11, od11, .func (PySem.W.fnOf "_law_due" "_law_due" (defArgs s_law_due) (defBody s_law_due) (defScope s_law_due) .none kV11 dc11 pm11 an11 cd11 ct11), sl11⟩) (c11 : PySem.W.codeIn K cd11 "_law_due" = true) (k11 : PySem.W.keepIn K (.ref f11) = true)
    (a12 : PySem.W.nsIn K mainGlobals "_law_word" = some (some (.ref f12))) (l12 : K.lookup f12 = some ⟨oc12, od12, .func (PySem.W.fnOf "_law_word" "_law_word" (defArgs s_law_word) (defBody s_law_word) (defScope s_law_word) .none kV12 dc12 pm12 an12 cd12 ct12), sl12⟩) (c12 : PySem.W.codeIn K cd12 "_law_word" = true) (k12 : PySem.W.keepIn K (.ref f12) = true)
    (a13 : PySem.W.nsIn K mainGlobals "_law_names" = some (some (.ref f13))) (l13 : K.lookup f13 = some ⟨oc13, od13, .func (PySem.W.fnOf "_law_names" "_law_names" (defArgs s_law_names) (defBody s_law_names) (defScope s_law_names) .none kV13 dc13 pm13 an13 cd13 ct13), sl13⟩) (c13 : PySem.W.codeIn K cd13 "_law_names" = true) (k13 : PySem.W.keepIn K (.ref f13) = true)
    (a14 : PySem.W.nsIn K mainGlobals "_law_table" = some (some (.ref f14))) (l14 : K.lookup f14 = some ⟨oc14, od14, .func (PySem.W.fnOf "_law_table" "_law_table" (defArgs s_law_table) (defBody s_law_table) (defScope s_law_table) .none kV14 dc14 pm14 an14 cd14 ct14), sl14⟩) (c14 : PySem.W.codeIn K cd14 "_law_table" = true) (k14 : PySem.W.keepIn K (.ref f14) = true)
    (a15 : PySem.W.nsIn K mainGlobals "one_is_greatest" = some (some (.ref f15))) (l15 : K.lookup f15 = some ⟨oc15, od15, .func (PySem.W.fnOf "one_is_greatest" "one_is_greatest" (defArgs sone_is_greatest) (defBody sone_is_greatest) (defScope sone_is_greatest) .none kV15 dc15 pm15 an15 cd15 ct15), sl15⟩) (c15 : PySem.W.codeIn K cd15 "one_is_greatest" = true) (k15 : PySem.W.keepIn K (.ref f15) = true)
    (a16 : PySem.W.nsIn K mainGlobals "is_bad_four" = some (some (.ref f16))) (l16 : K.lookup f16 = some ⟨oc16, od16, .func (PySem.W.fnOf "is_bad_four" "is_bad_four" (defArgs sis_bad_four) (defBody sis_bad_four) (defScope sis_bad_four) .none kV16 dc16 pm16 an16 cd16 ct16), sl16⟩) (c16 : PySem.W.codeIn K cd16 "is_bad_four" = true) (k16 : PySem.W.keepIn K (.ref f16) = true)
    (a17 : PySem.W.nsIn K mainGlobals "is_integer" = some (some (.ref f17))) (l17 : K.lookup f17 = some ⟨oc17, od17, .func (PySem.W.fnOf "is_integer" "is_integer" (defArgs sis_integer) (defBody sis_integer) (defScope sis_integer) .none kV17 dc17 pm17 an17 cd17 ct17), sl17⟩) (c17 : PySem.W.codeIn K cd17 "is_integer" = true) (k17 : PySem.W.keepIn K (.ref f17) = true)
    (a18 : PySem.W.nsIn K mainGlobals "is_between" = some (some (.ref f18))) (l18 : K.lookup f18 = some ⟨oc18, od18, .func (PySem.W.fnOf "is_between" "is_between" (defArgs sis_between) (defBody sis_between) (defScope sis_between) .none kV18 dc18 pm18 an18 cd18 ct18), sl18⟩) (c18 : PySem.W.codeIn K cd18 "is_between" = true) (k18 : PySem.W.keepIn K (.ref f18) = true)
    (a19 : PySem.W.nsIn K mainGlobals "is_tuple_of" = some (some (.ref f19))) (l19 : K.lookup f19 = some ⟨oc19, od19, .func (PySem.W.fnOf "is_tuple_of" "is_tuple_of" (defArgs sis_tuple_of) (defBody sis_tuple_of) (defScope sis_tuple_of) .none kV19 dc19 pm19 an19 cd19 ct19), sl19⟩) (c19 : PySem.W.codeIn K cd19 "is_tuple_of" = true) (k19 : PySem.W.keepIn K (.ref f19) = true)
    (a20 : PySem.W.nsIn K mainGlobals "are_rows" = some (some (.ref f20))) (l20 : K.lookup f20 = some ⟨oc20, od20, .func (PySem.W.fnOf "are_rows" "are_rows" (defArgs sare_rows) (defBody sare_rows) (defScope sare_rows) .none kV20 dc20 pm20 an20 cd20 ct20), sl20⟩) (c20 : PySem.W.codeIn K cd20 "are_rows" = true) (k20 : PySem.W.keepIn K (.ref f20) = true)
    (a21 : PySem.W.nsIn K mainGlobals "is_word" = some (some (.ref f21))) (l21 : K.lookup f21 = some ⟨oc21, od21, .func (PySem.W.fnOf "is_word" "is_word" (defArgs sis_word) (defBody sis_word) (defScope sis_word) .none kV21 dc21 pm21 an21 cd21 ct21), sl21⟩) (c21 : PySem.W.codeIn K cd21 "is_word" = true) (k21 : PySem.W.keepIn K (.ref f21) = true)
    (a22 : PySem.W.nsIn K mainGlobals "is_lot" = some (some (.ref f22))) (l22 : K.lookup f22 = some ⟨oc22, od22, .func (PySem.W.fnOf "is_lot" "is_lot" (defArgs sis_lot) (defBody sis_lot) (defScope sis_lot) .none kV22 dc22 pm22 an22 cd22 ct22), sl22⟩) (c22 : PySem.W.codeIn K cd22 "is_lot" = true) (k22 : PySem.W.keepIn K (.ref f22) = true)
    (a23 : PySem.W.nsIn K mainGlobals "are_distances" = some (some (.ref f23))) (l23 : K.lookup f23 = some ⟨oc23, od23, .func (PySem.W.fnOf "are_distances" "are_distances" (defArgs sare_distances) (defBody sare_distances) (defScope sare_distances) .none kV23 dc23 pm23 an23 cd23 ct23), sl23⟩) (c23 : PySem.W.codeIn K cd23 "are_distances" = true) (k23 : PySem.W.keepIn K (.ref f23) = true)
    (a24 : PySem.W.nsIn K mainGlobals "check_distances" = some (some (.ref f24))) (l24 : K.lookup f24 = some ⟨oc24, od24, .func (PySem.W.fnOf "check_distances" "check_distances" (defArgs scheck_distances) (defBody scheck_distances) (defScope scheck_distances) .none kV24 dc24 pm24 an24 cd24 ct24), sl24⟩) (c24 : PySem.W.codeIn K cd24 "check_distances" = true) (k24 : PySem.W.keepIn K (.ref f24) = true)
    (a25 : PySem.W.nsIn K mainGlobals "table_of" = some (some (.ref f25))) (l25 : K.lookup f25 = some ⟨oc25, od25, .func (PySem.W.fnOf "table_of" "table_of" (defArgs stable_of) (defBody stable_of) (defScope stable_of) .none kV25 dc25 pm25 an25 cd25 ct25), sl25⟩) (c25 : PySem.W.codeIn K cd25 "table_of" = true) (k25 : PySem.W.keepIn K (.ref f25) = true)
    (a26 : PySem.W.nsIn K mainGlobals "four_holds" = some (some (.ref f26))) (l26 : K.lookup f26 = some ⟨oc26, od26, .func (PySem.W.fnOf "four_holds" "four_holds" (defArgs sfour_holds) (defBody sfour_holds) (defScope sfour_holds) .none kV26 dc26 pm26 an26 cd26 ct26), sl26⟩) (c26 : PySem.W.codeIn K cd26 "four_holds" = true) (k26 : PySem.W.keepIn K (.ref f26) = true)
    (a27 : PySem.W.nsIn K mainGlobals "_law_near" = some (some (.ref f27))) (l27 : K.lookup f27 = some ⟨oc27, od27, .func (PySem.W.fnOf "_law_near" "_law_near" (defArgs s_law_near) (defBody s_law_near) (defScope s_law_near) .none kV27 dc27 pm27 an27 cd27 ct27), sl27⟩) (c27 : PySem.W.codeIn K cd27 "_law_near" = true) (k27 : PySem.W.keepIn K (.ref f27) = true)
    (a28 : PySem.W.nsIn K mainGlobals "_law_tree" = some (some (.ref f28))) (l28 : K.lookup f28 = some ⟨oc28, od28, .func (PySem.W.fnOf "_law_tree" "_law_tree" (defArgs s_law_tree) (defBody s_law_tree) (defScope s_law_tree) .none kV28 dc28 pm28 an28 cd28 ct28), sl28⟩) (c28 : PySem.W.codeIn K cd28 "_law_tree" = true) (k28 : PySem.W.keepIn K (.ref f28) = true)
    (a29 : PySem.W.nsIn K mainGlobals "_law_hung" = some (some (.ref f29))) (l29 : K.lookup f29 = some ⟨oc29, od29, .func (PySem.W.fnOf "_law_hung" "_law_hung" (defArgs s_law_hung) (defBody s_law_hung) (defScope s_law_hung) .none kV29 dc29 pm29 an29 cd29 ct29), sl29⟩) (c29 : PySem.W.codeIn K cd29 "_law_hung" = true) (k29 : PySem.W.keepIn K (.ref f29) = true)
    (a30 : PySem.W.nsIn K mainGlobals "_law_right" = some (some (.ref f30))) (l30 : K.lookup f30 = some ⟨oc30, od30, .func (PySem.W.fnOf "_law_right" "_law_right" (defArgs s_law_right) (defBody s_law_right) (defScope s_law_right) .none kV30 dc30 pm30 an30 cd30 ct30), sl30⟩) (c30 : PySem.W.codeIn K cd30 "_law_right" = true) (k30 : PySem.W.keepIn K (.ref f30) = true)
    (a31 : PySem.W.nsIn K mainGlobals "law" = some (some (.ref f31))) (l31 : K.lookup f31 = some ⟨oc31, od31, .func (PySem.W.fnOf "law" "law" (defArgs slaw) (defBody slaw) (defScope slaw) .none kV31 dc31 pm31 an31 cd31 ct31), sl31⟩) (c31 : PySem.W.codeIn K cd31 "law" = true) (k31 : PySem.W.keepIn K (.ref f31) = true)
    (q0 : PySem.W.nsIn K mainGlobals "MOST_DISTANCE" = some (some (.int 1000000000 t0)))
    (q1 : PySem.W.nsIn K mainGlobals "MOST_HUNG" = some (some (.int 12 t1)))
    (z0 : PySem.W.nsIn K mainGlobals "all" = some none)
    (z1 : PySem.W.nsIn K mainGlobals "bool" = some none)
    (z2 : PySem.W.nsIn K mainGlobals "int" = some none)
    (z3 : PySem.W.nsIn K mainGlobals "isinstance" = some none)
    (z4 : PySem.W.nsIn K mainGlobals "len" = some none)
    (z5 : PySem.W.nsIn K mainGlobals "list" = some none)
    (z6 : PySem.W.nsIn K mainGlobals "max" = some none)
    (z7 : PySem.W.nsIn K mainGlobals "min" = some none)
    (z8 : PySem.W.nsIn K mainGlobals "range" = some none)
    (z9 : PySem.W.nsIn K mainGlobals "repr" = some none)
    (z10 : PySem.W.nsIn K mainGlobals "sorted" = some none)
    (z11 : PySem.W.nsIn K mainGlobals "str" = some none)
    (z12 : PySem.W.nsIn K mainGlobals "sum" = some none)
    (z13 : PySem.W.nsIn K mainGlobals "tuple" = some none)
    (z14 : PySem.W.nsIn K mainGlobals "zip" = some none) :
    ∃ fd : FuncData, (∀ (s : Shared) (v : Value), BindsTo s fd ⟨[v], []⟩ [("script", v)]) ∧ ∀ base : Heap, K.In base → base.Ns mainGlobals mg → FnG P w K mg base 17 fa fd ["script"] mlaw := by
  have e : fa = f31 := Value.ref.inj (Option.some.inj (hfa.symm.trans (PySem.W.mg_of X G a31)))
  rw [e]
  have F0 := fun_mk (st := s_law_pot) l0 c0 k0
  have F1 := fun_mk (st := s_law_draw) l1 c1 k1
  have F2 := fun_mk (st := s_law_with) l2 c2 k2
  have F3 := fun_mk (st := s_law_any) l3 c3 k3
  have F4 := fun_mk (st := s_law_bad) l4 c4 k4
  have F5 := fun_mk (st := s_law_first_four) l5 c5 k5
  have F6 := fun_mk (st := s_law_thing) l6 c6 k6
  have F7 := fun_mk (st := s_law_distances) l7 c7 k7
  have F8 := fun_mk (st := s_law_lots) l8 c8 k8
  have F9 := fun_mk (st := s_law_splits) l9 c9 k9
  have F10 := fun_mk (st := s_law_doubled) l10 c10 k10
  have F11 := fun_mk (st := s_law_due) l11 c11 k11
  have F12 := fun_mk (st := s_law_word) l12 c12 k12
  have F13 := fun_mk (st := s_law_names) l13 c13 k13
  have F14 := fun_mk (st := s_law_table) l14 c14 k14
  have F15 := fun_mk (st := sone_is_greatest) l15 c15 k15
  have F16 := fun_mk (st := sis_bad_four) l16 c16 k16
  have F17 := fun_mk (st := sis_integer) l17 c17 k17
  have F18 := fun_mk (st := sis_between) l18 c18 k18
  have F19 := fun_mk (st := sis_tuple_of) l19 c19 k19
  have F20 := fun_mk (st := sare_rows) l20 c20 k20
  have F21 := fun_mk (st := sis_word) l21 c21 k21
  have F22 := fun_mk (st := sis_lot) l22 c22 k22
  have F23 := fun_mk (st := sare_distances) l23 c23 k23
  have F24 := fun_mk (st := scheck_distances) l24 c24 k24
  have F25 := fun_mk (st := stable_of) l25 c25 k25
  have F26 := fun_mk (st := sfour_holds) l26 c26 k26
  have F27 := fun_mk (st := s_law_near) l27 c27 k27
  have F28 := fun_mk (st := s_law_tree) l28 c28 k28
  have F29 := fun_mk (st := s_law_hung) l29 c29 k29
  have F30 := fun_mk (st := s_law_right) l30 c30 k30
  have F31 := fun_mk (st := slaw) l31 c31 k31
  let W : Tops K mg := {
    f_law_pot := f0, d_law_pot := _, F_law_pot := F0, g_law_pot := PySem.W.mg_of X G a0, b_law_pot := F0.binds (ps := ["script", "k"]) fun _ _ _ _ _ _ us hl => match us, hl with | [_, _], _ => rfl,
    f_law_draw := f1, d_law_draw := _, F_law_draw := F1, g_law_draw := PySem.W.mg_of X G a1, b_law_draw := F1.binds (ps := ["pot", "many"]) fun _ _ _ _ _ _ us hl => match us, hl with | [_, _], _ => rfl,
    f_law_with := f2, d_law_with := _, F_law_with := F2, g_law_with := PySem.W.mg_of X G a2, b_law_with := F2.binds (ps := ["distances", "i", "j", "number"]) fun _ _ _ _ _ _ us hl => match us, hl with | [_, _, _, _], _ => rfl,
    f_law_any := f3, d_law_any := _, F_law_any := F3, g_law_any := PySem.W.mg_of X G a3, b_law_any := F3.binds (ps := ["pot", "names"]) fun _ _ _ _ _ _ us hl => match us, hl with | [_, _], _ => rfl,
    f_law_bad := f4, d_law_bad := _, F_law_bad := F4, g_law_bad := PySem.W.mg_of X G a4, b_law_bad := F4.binds (ps := ["table", "four"]) fun _ _ _ _ _ _ us hl => match us, hl with | [_, _], _ => rfl,
    f_law_first_four := f5, d_law_first_four := _, F_law_first_four := F5, g_law_first_four := PySem.W.mg_of X G a5, b_law_first_four := F5.binds (ps := ["names", "table"]) fun _ _ _ _ _ _ us hl => match us, hl with | [_, _], _ => rfl,
    f_law_thing := f6, d_law_thing := _, F_law_thing := F6, g_law_thing := PySem.W.mg_of X G a6, b_law_thing := F6.binds (ps := ["pot", "names", "table"]) fun _ _ _ _ _ _ us hl => match us, hl with | [_, _, _], _ => rfl,
    f_law_distances := f7, d_law_distances := _, F_law_distances := F7, g_law_distances := PySem.W.mg_of X G a7, b_law_distances := F7.binds (ps := ["names", "doubled"]) fun _ _ _ _ _ _ us hl => match us, hl with | [_, _], _ => rfl,
    f_law_lots := f8, d_law_lots := _, F_law_lots := F8, g_law_lots := PySem.W.mg_of X G a8, b_law_lots := F8.binds (ps := ["tree"]) fun _ _ _ _ _ _ us hl => match us, hl with | [_], _ => rfl,
    f_law_splits := f9, d_law_splits := _, F_law_splits := F9, g_law_splits := PySem.W.mg_of X G a9, b_law_splits := F9.binds (ps := ["tree"]) fun _ _ _ _ _ _ us hl => match us, hl with | [_], _ => rfl,
    f_law_doubled := f10, d_law_doubled := _, F_law_doubled := F10, g_law_doubled := PySem.W.mg_of X G a10, b_law_doubled := F10.binds (ps := ["pot", "tree"]) fun _ _ _ _ _ _ us hl => match us, hl with | [_, _], _ => rfl,
    f_law_due := f11, d_law_due := _, F_law_due := F11, g_law_due := PySem.W.mg_of X G a11, b_law_due := F11.binds (ps := ["names", "table", "value"]) fun _ _ _ _ _ _ us hl => match us, hl with | [_, _, _], _ => rfl,
    f_law_word := f12, d_law_word := _, F_law_word := F12, g_law_word := PySem.W.mg_of X G a12, b_law_word := F12.binds (ps := ["number"]) fun _ _ _ _ _ _ us hl => match us, hl with | [_], _ => rfl,
    f_law_names := f13, d_law_names := _, F_law_names := F13, g_law_names := PySem.W.mg_of X G a13, b_law_names := F13.binds (ps := ["pot", "many"]) fun _ _ _ _ _ _ us hl => match us, hl with | [_, _], _ => rfl,
    f_law_table := f14, d_law_table := _, F_law_table := F14, g_law_table := PySem.W.mg_of X G a14, b_law_table := F14.binds (ps := ["distances"]) fun _ _ _ _ _ _ us hl => match us, hl with | [_], _ => rfl,
    fone_is_greatest := f15, done_is_greatest := _, Fone_is_greatest := F15, gone_is_greatest := PySem.W.mg_of X G a15, bone_is_greatest := F15.binds (ps := ["numbers"]) fun _ _ _ _ _ _ us hl => match us, hl with | [_], _ => rfl,
    fis_bad_four := f16, dis_bad_four := _, Fis_bad_four := F16, gis_bad_four := PySem.W.mg_of X G a16, bis_bad_four := F16.binds (ps := ["table", "four"]) fun _ _ _ _ _ _ us hl => match us, hl with | [_, _], _ => rfl,
    fis_integer := f17, dis_integer := _, Fis_integer := F17, gis_integer := PySem.W.mg_of X G a17, bis_integer := F17.binds (ps := ["value"]) fun _ _ _ _ _ _ us hl => match us, hl with | [_], _ => rfl,
    fis_between := f18, dis_between := _, Fis_between := F18, gis_between := PySem.W.mg_of X G a18, bis_between := F18.binds (ps := ["least", "value", "most"]) fun _ _ _ _ _ _ us hl => match us, hl with | [_, _, _], _ => rfl,
    fis_tuple_of := f19, dis_tuple_of := _, Fis_tuple_of := F19, gis_tuple_of := PySem.W.mg_of X G a19, bis_tuple_of := F19.binds (ps := ["length", "value"]) fun _ _ _ _ _ _ us hl => match us, hl with | [_, _], _ => rfl,
    fare_rows := f20, dare_rows := _, Fare_rows := F20, gare_rows := PySem.W.mg_of X G a20, bare_rows := F20.binds (ps := ["value", "many"]) fun _ _ _ _ _ _ us hl => match us, hl with | [_, _], _ => rfl,
    fis_word := f21, dis_word := _, Fis_word := F21, gis_word := PySem.W.mg_of X G a21, bis_word := F21.binds (ps := ["value"]) fun _ _ _ _ _ _ us hl => match us, hl with | [_], _ => rfl,
    fis_lot := f22, dis_lot := _, Fis_lot := F22, gis_lot := PySem.W.mg_of X G a22, bis_lot := F22.binds (ps := ["value"]) fun _ _ _ _ _ _ us hl => match us, hl with | [_], _ => rfl,
    fare_distances := f23, dare_distances := _, Fare_distances := F23, gare_distances := PySem.W.mg_of X G a23, bare_distances := F23.binds (ps := ["value"]) fun _ _ _ _ _ _ us hl => match us, hl with | [_], _ => rfl,
    fcheck_distances := f24, dcheck_distances := _, Fcheck_distances := F24, gcheck_distances := PySem.W.mg_of X G a24, bcheck_distances := F24.binds (ps := ["distances"]) fun _ _ _ _ _ _ us hl => match us, hl with | [_], _ => rfl,
    ftable_of := f25, dtable_of := _, Ftable_of := F25, gtable_of := PySem.W.mg_of X G a25, btable_of := F25.binds (ps := ["distances"]) fun _ _ _ _ _ _ us hl => match us, hl with | [_], _ => rfl,
    ffour_holds := f26, dfour_holds := _, Ffour_holds := F26, gfour_holds := PySem.W.mg_of X G a26, bfour_holds := F26.binds (ps := ["distances", "value"]) fun _ _ _ _ _ _ us hl => match us, hl with | [_, _], _ => rfl,
    f_law_near := f27, d_law_near := _, F_law_near := F27, g_law_near := PySem.W.mg_of X G a27, b_law_near := F27.binds (ps := ["pot", "distances"]) fun _ _ _ _ _ _ us hl => match us, hl with | [_, _], _ => rfl,
    f_law_tree := f28, d_law_tree := _, F_law_tree := F28, g_law_tree := PySem.W.mg_of X G a28, b_law_tree := F28.binds (ps := ["pot", "names", "most"]) fun _ _ _ _ _ _ us hl => match us, hl with | [_, _, _], _ => rfl,
    f_law_hung := f29, d_law_hung := _, F_law_hung := F29, g_law_hung := PySem.W.mg_of X G a29, b_law_hung := F29.binds (ps := ["pot", "names"]) fun _ _ _ _ _ _ us hl => match us, hl with | [_, _], _ => rfl,
    f_law_right := f30, d_law_right := _, F_law_right := F30, g_law_right := PySem.W.mg_of X G a30, b_law_right := F30.binds (ps := ["pot"]) fun _ _ _ _ _ _ us hl => match us, hl with | [_], _ => rfl,
    flaw := f31, dlaw := _, Flaw := F31, glaw := PySem.W.mg_of X G a31, blaw := F31.binds (ps := ["script"]) fun _ _ _ _ _ _ us hl => match us, hl with | [_], _ => rfl,
    kfour_holds_value_distances := Fun.kb F26 fun _ _ _ _ _ _ us hl => match us, hl with | [_, _], _ => rfl,
    u_MOST_DISTANCE := _, c_MOST_DISTANCE := PySem.W.mg_of X G q0, r_MOST_DISTANCE := ⟨_, rfl⟩,
    u_MOST_HUNG := _, c_MOST_HUNG := PySem.W.mg_of X G q1, r_MOST_HUNG := ⟨_, rfl⟩,
    z_all := PySem.W.mg_none_of X G z0,
    z_bool := PySem.W.mg_none_of X G z1,
    z_int := PySem.W.mg_none_of X G z2,
    z_isinstance := PySem.W.mg_none_of X G z3,
    z_len := PySem.W.mg_none_of X G z4,
    z_list := PySem.W.mg_none_of X G z5,
    z_max := PySem.W.mg_none_of X G z6,
    z_min := PySem.W.mg_none_of X G z7,
    z_range := PySem.W.mg_none_of X G z8,
    z_repr := PySem.W.mg_none_of X G z9,
    z_sorted := PySem.W.mg_none_of X G z10,
    z_str := PySem.W.mg_none_of X G z11,
    z_sum := PySem.W.mg_none_of X G z12,
    z_tuple := PySem.W.mg_none_of X G z13,
    z_zip := PySem.W.mg_none_of X G z14 }
  exact ⟨_, fun s v => .of_eq rfl, fun base _ _ => oklaw W⟩
end VS.L44
open PySem PySem.W PyProof.Rows
set_option maxHeartbeats 0 in
theorem PySem.Challenge.cw_kinbranches_k44_fours_judged_holds : PySem.Challenge.rw_kinbranches_k44_fours_judged.Holds := by
  w_on; o_law; k_head; (case hw => w_witness2)
  k_fill
  refine VS.walk_ofG (l := PySem.Challenge.rw_kinbranches_k44_fours_judged) (n := 63) (k := 17) (x := "script") (m := VS.L44.mlaw) rfl (by decide) rfl ⟨rfl, by decide, by decide⟩ (fun w h Y => PySem.W.kIn_of Y) ?F (fun ns hn => VS.L44.law_true ns hn)
  case F =>
    intro w mg fa h KX G hmg
    refine' VS.L44.all_mk KX G hmg ?a0 ?l0 ?c0 ?k0 ?a1 ?l1 ?c1 ?k1 ?a2 ?l2 ?c2 ?k2 ?a3 ?l3 ?c3 ?k3 ?a4 ?l4 ?c4 ?k4 ?a5 ?l5 ?c5 ?k5 ?a6 ?l6 ?c6 ?k6 ?a7 ?l7 ?c7 ?k7 ?a8 ?l8 ?c8 ?k8 ?a9 ?l9 ?c9 ?k9 ?a10 ?l10 ?c10 ?k10 ?a11 ?l11 ?c11 ?k11 ?a12 ?l12 ?c12 ?k12 ?a13 ?l13 ?c13 ?k13 ?a14 ?l14 ?c14 ?k14 ?a15 ?l15 ?c15 ?k15 ?a16 ?l16 ?c16 ?k16 ?a17 ?l17 ?c17 ?k17 ?a18 ?l18 ?c18 ?k18 ?a19 ?l19 ?c19 ?k19 ?a20 ?l20 ?c20 ?k20 ?a21 ?l21 ?c21 ?k21 ?a22 ?l22 ?c22 ?k22 ?a23 ?l23 ?c23 ?k23 ?a24 ?l24 ?c24 ?k24 ?a25 ?l25 ?c25 ?k25 ?a26 ?l26 ?c26 ?k26 ?a27 ?l27 ?c27 ?k27 ?a28 ?l28 ?c28 ?k28 ?a29 ?l29 ?c29 ?k29 ?a30 ?l30 ?c30 ?k30 ?a31 ?l31 ?c31 ?k31 ?q0 ?q1 ?z0 ?z1 ?z2 ?z3 ?z4 ?z5 ?z6 ?z7 ?z8 ?z9 ?z10 ?z11 ?z12 ?z13 ?z14
    (case a0 => k_is); (case l0 => k_is); (case c0 => k_is); (case k0 => k_is); (case a1 => k_is); (case l1 => k_is); (case c1 => k_is); (case k1 => k_is); (case a2 => k_is); (case l2 => k_is); (case c2 => k_is); (case k2 => k_is); (case a3 => k_is); (case l3 => k_is); (case c3 => k_is); (case k3 => k_is); (case a4 => k_is); (case l4 => k_is); (case c4 => k_is); (case k4 => k_is); (case a5 => k_is); (case l5 => k_is); (case c5 => k_is); (case k5 => k_is); (case a6 => k_is); (case l6 => k_is); (case c6 => k_is); (case k6 => k_is); (case a7 => k_is); (case l7 => k_is); (case c7 => k_is); (case k7 => k_is); (case a8 => k_is); (case l8 => k_is); (case c8 => k_is); (case k8 => k_is); (case a9 => k_is); (case l9 => k_is); (case c9 => k_is); (case k9 => k_is); (case a10 => k_is); (case l10 => k_is); (case c10 => k_is); (case k10 => k_is); (case a11 => k_is); (case l11 => k_is); (case c11 => k_is); (case k11 => k_is); (case a12 => k_is); (case l12 => k_is); (case c12 => k_is); (case k12 => k_is); (case a13 => k_is); (case l13 => k_is); (case c13 => k_is); (case k13 => k_is); (case a14 => k_is); (case l14 => k_is); (case c14 => k_is); (case k14 => k_is); (case a15 => k_is); (case l15 => k_is); (case c15 => k_is); (case k15 => k_is); (case a16 => k_is); (case l16 => k_is); (case c16 => k_is); (case k16 => k_is); (case a17 => k_is); (case l17 => k_is); (case c17 => k_is); (case k17 => k_is); (case a18 => k_is); (case l18 => k_is); (case c18 => k_is); (case k18 => k_is); (case a19 => k_is); (case l19 => k_is); (case c19 => k_is); (case k19 => k_is); (case a20 => k_is); (case l20 => k_is); (case c20 => k_is); (case k20 => k_is); (case a21 => k_is); (case l21 => k_is); (case c21 => k_is); (case k21 => k_is); (case a22 => k_is); (case l22 => k_is); (case c22 => k_is); (case k22 => k_is); (case a23 => k_is); (case l23 => k_is); (case c23 => k_is); (case k23 => k_is); (case a24 => k_is); (case l24 => k_is); (case c24 => k_is); (case k24 => k_is); (case a25 => k_is); (case l25 => k_is); (case c25 => k_is); (case k25 => k_is); (case a26 => k_is); (case l26 => k_is); (case c26 => k_is); (case k26 => k_is); (case a27 => k_is); (case l27 => k_is); (case c27 => k_is); (case k27 => k_is); (case a28 => k_is); (case l28 => k_is); (case c28 => k_is); (case k28 => k_is); (case a29 => k_is); (case l29 => k_is); (case c29 => k_is); (case k29 => k_is); (case a30 => k_is); (case l30 => k_is); (case c30 => k_is); (case k30 => k_is); (case a31 => k_is); (case l31 => k_is); (case c31 => k_is); (case k31 => k_is); (case q0 => k_is); (case q1 => k_is); (case z0 => k_is); (case z1 => k_is); (case z2 => k_is); (case z3 => k_is); (case z4 => k_is); (case z5 => k_is); (case z6 => k_is); (case z7 => k_is); (case z8 => k_is); (case z9 => k_is); (case z10 => k_is); (case z11 => k_is); (case z12 => k_is); (case z13 => k_is); (case z14 => k_is)
