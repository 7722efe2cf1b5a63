import PyProof.Rows.All
import Wide.All
import OpenK.AllK
import Wide.FinOn
import HandS.ForMost
import HandS.Wide
import HandS.IsInst
import HandS.Flow
import PyProof.Rows.SortShellAny
import HandS.WordsExc
import HandS.Defaults
import HandS.Head0
import HandS.Head1
import HandS.Head2
import HandS.HeadEnd
import HandS.HeadHook1
import HandS.HeadHook2
import KE.KRevSl
import KE.GoesZip
import HandS.Zip0
import HandS.Conv
import HandS.More
import HandS.NoneIn
import PySem.Challenge.RW_wordsapart_k40_lists_as_texts
set_option Elab.async false
set_option linter.all false
set_option maxRecDepth 100000
set_option maxHeartbeats 1000000
/-! WA1: values by content (PyData), slots, the tie between slots and the heap. -/
namespace WA
open PySem PySem.Spec PyProof.Rows L2

abbrev D := PyData

/-! a value by its content, over the heap S: every list and tuple in it stands in S -/
mutual
inductive Rp (S : Hp) : V → D → Prop
  | non : Rp S .non .none
  | bl (b : Bool) : Rp S (.bl b) (.bool b)
  | int (i : Int) : Rp S (.int i) (.int i)
  | str (x : Str) : Rp S (.str x) (.str x)
  | lst {a : Addr} {xs : List V} {ds : List D} : S a = some (.lst xs) → RpAll S xs ds → Rp S (.ref a) (.list ds)
  | tup {a : Addr} {xs : List V} {ds : List D} : S a = some (.tup xs) → RpAll S xs ds → Rp S (.ref a) (.tuple ds)
inductive RpAll (S : Hp) : List V → List D → Prop
  | nil : RpAll S [] []
  | cons {v : V} {vs : List V} {d : D} {ds : List D} : Rp S v d → RpAll S vs ds → RpAll S (v :: vs) (d :: ds)
end
section
variable {K : PySem.W.Frag} {S S' : Hp}
mutual
theorem rp_mono (e : Same S S') : ∀ (d : D) (v : V), Rp S v d → Rp S' v d
  | .none, _, h => by cases h; exact .non
  | .bool b, _, h => by cases h; exact .bl b
  | .int i, _, h => by cases h; exact .int i
  | .str x, _, h => by cases h; exact .str x
  | .list ds, _, h => by
    cases h with
    | lst hs ha => exact .lst (e _ _ hs) (rps_mono e ds _ ha)
  | .tuple ds, _, h => by
    cases h with
    | tup hs ha => exact .tup (e _ _ hs) (rps_mono e ds _ ha)
  | .dict _, _, h => by cases h
theorem rps_mono (e : Same S S') : ∀ (ds : List D) (vs : List V), RpAll S vs ds → RpAll S' vs ds
  | [], _, h => by cases h; exact .nil
  | d :: ds, _, h => by
    cases h with
    | cons h1 h2 => exact .cons (rp_mono e d _ h1) (rps_mono e ds _ h2)
end
mutual
theorem rp_dp : ∀ (d : D) (v : V), Rp S v d → Dp K S v d
  | .none, _, h => by cases h; exact .non
  | .bool b, _, h => by cases h; exact .bl b
  | .int i, _, h => by cases h; exact .int i
  | .str x, _, h => by cases h; exact .str x
  | .list ds, _, h => by
    cases h with
    | lst hs ha => exact .lst (.of hs) (rps_dp ds _ ha)
  | .tuple ds, _, h => by
    cases h with
    | tup hs ha => exact .tup (.of hs) (rps_dp ds _ ha)
  | .dict _, _, h => by cases h
theorem rps_dp : ∀ (ds : List D) (vs : List V), RpAll S vs ds → DpAll K S vs ds
  | [], _, h => by cases h; exact .nil
  | d :: ds, _, h => by
    cases h with
    | cons h1 h2 => exact .cons (rp_dp d _ h1) (rps_dp ds _ h2)
end
end
theorem Rp.mono {S S' : Hp} {v : V} {d : D} (h : Rp S v d) (e : Same S S') : Rp S' v d := rp_mono e d v h
theorem RpAll.mono {S S' : Hp} {vs : List V} {ds : List D} (h : RpAll S vs ds) (e : Same S S') : RpAll S' vs ds := rps_mono e ds vs h
theorem Rp.dp {K : PySem.W.Frag} {S : Hp} {v : V} {d : D} (h : Rp S v d) : Dp K S v d := rp_dp d v h
theorem RpAll.dp {K : PySem.W.Frag} {S : Hp} {vs : List V} {ds : List D} (h : RpAll S vs ds) : DpAll K S vs ds := rps_dp ds vs h
section
variable {S : Hp}
theorem rps_len : ∀ {vs : List V} {ds : List D}, RpAll S vs ds → vs.length = ds.length
  | _, _, .nil => rfl
  | _, _, .cons _ t => congrArg (· + 1) (rps_len t)
theorem rps_app : ∀ {vs ws : List V} {ds es : List D}, RpAll S vs ds → RpAll S ws es → RpAll S (vs ++ ws) (ds ++ es)
  | _, _, _, _, .nil, h => h
  | _, _, _, _, .cons a t, h => .cons a (rps_app t h)
theorem rps_one {v : V} {d : D} (h : Rp S v d) : RpAll S [v] [d] := .cons h .nil
theorem rps_get : ∀ {vs : List V} {ds : List D} {i : Nat} {d : D}, RpAll S vs ds → ds[i]? = some d → ∃ v, vs[i]? = some v ∧ Rp S v d
  | _, _, _, _, .nil, h => by simp at h
  | _, _, 0, _, .cons a _, h => by
    simp at h
    subst h
    exact ⟨_, rfl, a⟩
  | _, _, i + 1, _, .cons _ t, h => by
    obtain ⟨v, h1, h2⟩ := rps_get (i := i) t (by simpa using h)
    exact ⟨v, by simpa using h1, h2⟩
theorem rps_get' : ∀ {vs : List V} {ds : List D} {i : Nat} {v : V}, RpAll S vs ds → vs[i]? = some v → ∃ d, ds[i]? = some d ∧ Rp S v d
  | _, _, _, _, .nil, h => by simp at h
  | _, _, 0, _, .cons a _, h => by
    simp at h
    subst h
    exact ⟨_, rfl, a⟩
  | _, _, i + 1, _, .cons _ t, h => by
    obtain ⟨v, h1, h2⟩ := rps_get' (i := i) t (by simpa using h)
    exact ⟨v, by simpa using h1, h2⟩
theorem rps_take : ∀ {vs : List V} {ds : List D} (n : Nat), RpAll S vs ds → RpAll S (vs.take n) (ds.take n)
  | _, _, 0, _ => .nil
  | _, _, _ + 1, .nil => .nil
  | _, _, n + 1, .cons a t => .cons a (rps_take n t)
theorem rps_drop : ∀ {vs : List V} {ds : List D} (n : Nat), RpAll S vs ds → RpAll S (vs.drop n) (ds.drop n)
  | _, _, 0, h => h
  | _, _, _ + 1, .nil => .nil
  | _, _, n + 1, .cons _ t => rps_drop n t
theorem rps_set : ∀ {vs : List V} {ds : List D} {v : V} {d : D} (n : Nat), RpAll S vs ds → Rp S v d → RpAll S (vs.set n v) (ds.set n d)
  | _, _, _, _, _, .nil, _ => .nil
  | _, _, _, _, 0, .cons _ t, h => .cons h t
  | _, _, _, _, n + 1, .cons a t, h => .cons a (rps_set n t h)
theorem rps_rev : ∀ {vs : List V} {ds : List D}, RpAll S vs ds → RpAll S vs.reverse ds.reverse
  | _, _, .nil => .nil
  | _, _, .cons a t => by
    rw [List.reverse_cons, List.reverse_cons]
    exact rps_app (rps_rev t) (rps_one a)
theorem rps_erase : ∀ {vs : List V} {ds : List D} (n : Nat), RpAll S vs ds → RpAll S (vs.eraseIdx n) (ds.eraseIdx n)
  | _, _, _, .nil => .nil
  | _, _, 0, .cons _ t => t
  | _, _, n + 1, .cons a t => .cons a (rps_erase n t)
theorem rps_dropLast {vs : List V} {ds : List D} (h : RpAll S vs ds) : RpAll S vs.dropLast ds.dropLast := by
  rw [List.dropLast_eq_take, List.dropLast_eq_take, rps_len h]
  exact rps_take _ h
theorem rps_strs : ∀ {vs : List V} {xs : List Str}, RpAll S vs (xs.map PyData.str) → vs = xs.map V.str
  | _, [], h => by cases h; rfl
  | _, x :: xs, h => by
    cases h with
    | cons a t =>
      cases a
      rw [rps_strs t]
      rfl
theorem rps_ints : ∀ {vs : List V} {xs : List Int}, RpAll S vs (xs.map PyData.int) → vs = xs.map V.int
  | _, [], h => by cases h; rfl
  | _, x :: xs, h => by
    cases h with
    | cons a t =>
      cases a
      rw [rps_ints t]
      rfl
theorem rps_bls : ∀ {vs : List V} {xs : List Bool}, RpAll S vs (xs.map PyData.bool) → vs = xs.map V.bl
  | _, [], h => by cases h; rfl
  | _, x :: xs, h => by
    cases h with
    | cons a t =>
      cases a
      rw [rps_bls t]
      rfl
theorem rps_of_strs : ∀ (xs : List Str), RpAll S (xs.map V.str) (xs.map PyData.str)
  | [] => .nil
  | x :: xs => .cons (.str x) (rps_of_strs xs)
theorem rps_of_ints : ∀ (xs : List Int), RpAll S (xs.map V.int) (xs.map PyData.int)
  | [] => .nil
  | x :: xs => .cons (.int x) (rps_of_ints xs)
end

/-- a thing made of parts that stand in slots of their own: a list, a tuple, an instance -/
inductive SK where
  | lst
  | tup
  | ins (C : Addr) (fs : List Str)
def SK.objR (H : Hp) (a : Addr) (vs : List V) : SK → HO → Prop
  | .lst, o => o = .lst vs
  | .tup, o => o = .tup vs
  | .ins C fs, o => fs.length = vs.length ∧ ∃ dx, o = .ins C dx (fs.zip vs) ∧ H dx = some (.own a)
/-- what a slot holds: nothing told, a value, a list that this slot alone holds, a list that is only read -/
inductive Sl where
  | no
  | v (x : D)
  | own (xs : List D)
  | ro (strict : Bool) (xs : List D)
  | st (k : SK) (is : List Nat)
  | al (j : Nat)
abbrev R := List Sl
/-- slots that hold a thing alone -/
def Sl.owns : Sl → Bool
  | .own _ => true
  | .st _ _ => true
  | _ => false
/-- slots that lean on others -/
def Sl.leans : Sl → Bool
  | .st _ _ => true
  | .al _ => true
  | _ => false
def Ow (ρ : R) (i : Nat) (s : Sl) : Prop := ρ[i]? = some s ∧ s.owns = true
theorem ow {ρ : R} {i : Nat} {xs : List D} (h : ρ[i]? = some (.own xs)) : Ow ρ i (.own xs) := ⟨h, rfl⟩

/-- b is the place of a list that a slot holds alone -/
def OwnAt (σ : L2.St) (ρ : R) (b : Addr) : Prop := ∃ (i : Nat) (s : Sl), Ow ρ i s ∧ σ[i]? = some (some (.ref b))
/-- a list of the module's own top -/
def KL (K : PySem.W.Frag) (a : Addr) (xs : List V) : Prop := ∃ (o : Obj) (its : Array Value) (n : Nat), K.lookup a = some o ∧ o.cls = .type "list" ∧ o.dict = none ∧ o.data = .seq its n ∧ its.size ≤ sizeLine ∧ Vals xs its.toList
/-- a list that is only read -/
def RoAt (K : PySem.W.Frag) (H : Hp) (σ : L2.St) (ρ : R) (k : Bool) (a : Addr) (vs : List V) : Prop :=
  (k = false ∧ KL K a vs) ∨ ((∃ o, (o = HO.lst vs ∨ (k = false ∧ ∃ ob, o = .frz ob (.lst vs))) ∧ H a = some o) ∧ ¬ OwnAt σ ρ a)
/-- things made of parts, and second names; B: from here on slots are no names of the text -/
structure VRel (B : Nat) (S H : Hp) (σ : L2.St) (ρ : R) : Prop where
  st : ∀ (i : Nat) (k : SK) (is : List Nat), ρ[i]? = some (.st k is) → ∃ (a : Addr) (vs : List V) (o : HO), σ[i]? = some (some (.ref a)) ∧ S a = none ∧ H a = some o ∧ k.objR H a vs o ∧ Paired (fun (v : V) (m : Nat) => B ≤ m ∧ σ[m]? = some (some v)) vs is
  al : ∀ (i j : Nat), ρ[i]? = some (.al j) → B ≤ j ∧ ∃ v, σ[i]? = some (some v) ∧ σ[j]? = some (some v)
  dx : ∀ (i : Nat) (C : Addr) (fs : List Str) (is : List Nat) (a d : Addr) (us : List (Str × V)), ρ[i]? = some (.st (.ins C fs) is) → σ[i]? = some (some (.ref a)) → H a = some (.ins C d us) → S d = none ∧ ¬ OwnAt σ ρ d
structure Rel (K : PySem.W.Frag) (B : Nat) (S H : Hp) (σ : L2.St) (ρ : R) : Prop where
  len : σ.length = ρ.length
  sub : Same S H
  val : ∀ (i : Nat) (x : D), ρ[i]? = some (.v x) → ∃ w, σ[i]? = some (some w) ∧ Rp S w x
  own : ∀ (i : Nat) (xs : List D), ρ[i]? = some (.own xs) → ∃ (a : Addr) (vs : List V), σ[i]? = some (some (.ref a)) ∧ S a = none ∧ H a = some (.lst vs) ∧ RpAll S vs xs
  ro : ∀ (i : Nat) (k : Bool) (xs : List D), ρ[i]? = some (.ro k xs) → ∃ (a : Addr) (vs : List V), σ[i]? = some (some (.ref a)) ∧ RoAt K H σ ρ k a vs ∧ RpAll S vs xs
  sep : ∀ (i j : Nat) (s t : Sl) (a : Addr), Ow ρ i s → Ow ρ j t → σ[i]? = some (some (.ref a)) → σ[j]? = some (some (.ref a)) → i = j
  vir : VRel B S H σ ρ
theorem VRel.to {B : Nat} {S H S' H' : Hp} {σ σ' : L2.St} {ρ ρ' : R} (v : VRel B S H σ ρ) (h1 : ∀ (i : Nat) (s : Sl), ρ'[i]? = some s → s.leans = true → ρ[i]? = some s ∧ σ'[i]? = σ[i]?) (h2 : ∀ m, B ≤ m → σ'[m]? = σ[m]?)
    (h3 : ∀ (i : Nat) (k : SK) (is : List Nat) (a : Addr) (o : HO), ρ[i]? = some (.st k is) → σ[i]? = some (some (.ref a)) → S a = none → H a = some o → S' a = none ∧ H' a = some o)
    (h4 : ∀ (d c : Addr), H d = some (.own c) → S d = none → ¬ OwnAt σ ρ d → S' d = none ∧ H' d = some (.own c) ∧ ¬ OwnAt σ' ρ' d) : VRel B S' H' σ' ρ' where
  st := fun i k is h => by
    obtain ⟨g1, g2⟩ := h1 i _ h rfl
    obtain ⟨a, vs, o, e1, e2, e3, e4, e5⟩ := v.st i k is g1
    obtain ⟨f1, f2⟩ := h3 i k is a o g1 e1 e2 e3
    refine ⟨a, vs, o, by rw [g2]; exact e1, f1, f2, ?_, Paired.mapP e5 fun v m q => ⟨q.1, by rw [h2 m q.1]; exact q.2⟩⟩
    cases k with
    | lst => exact e4
    | tup => exact e4
    | ins C fs =>
      obtain ⟨l, d, rfl, hd⟩ := e4
      obtain ⟨q1, q2⟩ := v.dx i C fs is a d _ g1 e1 e3
      exact ⟨l, d, rfl, (h4 d _ hd q1 q2).2.1⟩
  al := fun i j h => by
    obtain ⟨g1, g2⟩ := h1 i _ h rfl
    obtain ⟨e1, w, e2, e3⟩ := v.al i j g1
    exact ⟨e1, w, by rw [g2]; exact e2, by rw [h2 j e1]; exact e3⟩
  dx := fun i C fs is a d us h ha hH => by
    obtain ⟨g1, g2⟩ := h1 i _ h rfl
    rw [g2] at ha
    obtain ⟨a', vs, o, e1, e2, e3, e4, e5⟩ := v.st i _ is g1
    rw [ha] at e1
    cases e1
    obtain ⟨f1, f2⟩ := h3 i _ is a o g1 ha e2 e3
    rw [hH] at f2
    cases f2
    obtain ⟨l, d', q, hd⟩ := e4
    cases q
    obtain ⟨q1, q2⟩ := v.dx i C fs is a d _ g1 ha e3
    obtain ⟨r1, _, r2⟩ := h4 d _ hd q1 q2
    exact ⟨r1, r2⟩
theorem RoAt.to {K : PySem.W.Frag} {H H' : Hp} {σ σ' : L2.St} {ρ ρ' : R} {k : Bool} {a : Addr} {vs : List V} (h : RoAt K H σ ρ k a vs) (h1 : ∀ o, H a = some o → ¬ OwnAt σ ρ a → H' a = some o) (h2 : H a ≠ none → OwnAt σ' ρ' a → OwnAt σ ρ a) : RoAt K H' σ' ρ' k a vs := by
  rcases h with h | ⟨⟨o, q, h⟩, n⟩
  · exact .inl h
  · exact .inr ⟨⟨o, q, h1 o h n⟩, fun z => n (h2 (by rw [h]; simp) z)⟩
theorem RoAt.seq {K : PySem.W.Frag} {H : Hp} {σ : L2.St} {ρ : R} {k : Bool} {a : Addr} {vs : List V} (h : RoAt K H σ ρ k a vs) : SqL K H a vs := by
  rcases h with ⟨_, h⟩ | ⟨⟨o, q, h⟩, n⟩
  · exact .inr h
  · rcases q with rfl | ⟨_, ob, rfl⟩
    · exact .inl (.inl h)
    · exact .inl (.inr ⟨ob, h⟩)
theorem RoAt.lst {K : PySem.W.Frag} {H : Hp} {σ : L2.St} {ρ : R} {a : Addr} {vs : List V} (h : RoAt K H σ ρ true a vs) : H a = some (.lst vs) := by
  rcases h with ⟨q, _⟩ | ⟨⟨o, q, h⟩, n⟩
  · cases q
  · rcases q with rfl | ⟨q, _⟩
    · exact h
    · cases q

structure Ext (σ : L2.St) (S H : Hp) (ρ : R) (S' H' : Hp) (ρ' : R) : Prop where
  same : Same S S'
  there : ∀ b, H b ≠ none → H' b ≠ none
  stay : ∀ b, H b ≠ none → S b = none → S' b = none
  keep : ∀ b o, H b = some o → S b = none → ¬ OwnAt σ ρ b → H' b = some o
  kind : ∀ i : Nat, (∃ xs, ρ[i]? = some (.own xs)) ↔ ∃ xs, ρ'[i]? = some (.own xs)
  oth : ∀ i : Nat, (∀ xs, ρ[i]? ≠ some (.own xs)) → ρ'[i]? = ρ[i]?

section
variable {σ : L2.St} {S H S1 H1 S2 H2 : Hp} {ρ ρ1 ρ2 : R} {K : PySem.W.Frag} {B : Nat}
theorem Ext.refl : Ext σ S H ρ S H ρ := ⟨Same.refl _, fun _ h => h, fun _ _ h => h, fun _ _ h _ _ => h, fun _ => Iff.rfl, fun _ _ => rfl⟩
theorem Ext.at (E : Ext σ S H ρ S1 H1 ρ1) {b : Addr} : OwnAt σ ρ b ↔ OwnAt σ ρ1 b := by
  constructor
  · rintro ⟨i, s, ⟨h1, ho⟩, h2⟩
    cases s with
    | own xs =>
      obtain ⟨ys, h3⟩ := (E.kind i).mp ⟨xs, h1⟩
      exact ⟨i, _, ow h3, h2⟩
    | st k is => exact ⟨i, _, ⟨by rw [E.oth i fun xs z => by rw [h1] at z; cases z]; exact h1, rfl⟩, h2⟩
    | _ => cases ho
  · rintro ⟨i, s, ⟨h1, ho⟩, h2⟩
    cases s with
    | own xs =>
      obtain ⟨ys, h3⟩ := (E.kind i).mpr ⟨xs, h1⟩
      exact ⟨i, _, ow h3, h2⟩
    | st k is =>
      have e := E.oth i fun xs z => by
        obtain ⟨ys, h3⟩ := (E.kind i).mp ⟨xs, z⟩
        rw [h1] at h3
        cases h3
      exact ⟨i, _, ⟨by rw [← e]; exact h1, rfl⟩, h2⟩
    | _ => cases ho
theorem Ext.trans (a : Ext σ S H ρ S1 H1 ρ1) (b : Ext σ S1 H1 ρ1 S2 H2 ρ2) : Ext σ S H ρ S2 H2 ρ2 where
  same := a.same.trans b.same
  there := fun c h => b.there c (a.there c h)
  stay := fun c h h' => b.stay c (a.there c h) (a.stay c h h')
  keep := fun c o h h' n => b.keep c o (a.keep c o h h' n) (a.stay c (by rw [h]; simp) h') fun z => n (a.at.mpr z)
  kind := fun i => (a.kind i).trans (b.kind i)
  oth := fun i n => by
    have h1 := a.oth i n
    rw [← h1]
    refine b.oth i fun xs h => ?_
    exact n xs (by rw [← h1]; exact h)
/-- a list (new or not) told of where it stands: its place is no place of ours -/
def ownable : HO → Bool
  | .lst _ => true
  | .tup _ => true
  | .ins _ _ _ => true
  | _ => false
theorem Rel.own_at (h : Rel K B S H σ ρ) {b : Addr} (o : OwnAt σ ρ b) : S b = none ∧ ∃ u, H b = some u ∧ ownable u = true := by
  obtain ⟨i, s, ⟨h1, ho⟩, h2⟩ := o
  cases s with
  | own xs =>
    obtain ⟨a, vs, e1, e2, e3, _⟩ := h.own i xs h1
    rw [h2] at e1
    cases e1
    exact ⟨e2, _, e3, rfl⟩
  | st k is =>
    obtain ⟨a, vs, u, e1, e2, e3, e4, _⟩ := h.vir.st i k is h1
    rw [h2] at e1
    cases e1
    refine ⟨e2, u, e3, ?_⟩
    cases k with
    | lst => rw [show u = .lst vs from e4]; rfl
    | tup => rw [show u = .tup vs from e4]; rfl
    | ins C fs =>
      obtain ⟨_, d, rfl, _⟩ := e4
      rfl
  | _ => cases ho
/-- the heap grows, the known part grows; lists of our own as they were -/
theorem Rel.grow (h : Rel K B S H σ ρ) (e1 : Same S S1) (e2 : Same H H1) (e3 : Same S1 H1) (e4 : ∀ b, H b ≠ none → S b = none → S1 b = none) : Rel K B S1 H1 σ ρ where
  len := h.len
  sub := e3
  val := fun i x hx => by
    obtain ⟨w, a, b⟩ := h.val i x hx
    exact ⟨w, a, b.mono e1⟩
  own := fun i xs hx => by
    obtain ⟨a, vs, b1, b2, b3, b4⟩ := h.own i xs hx
    exact ⟨a, vs, b1, e4 a (by rw [b3]; simp) b2, e2 _ _ b3, b4.mono e1⟩
  ro := fun i k xs hx => by
    obtain ⟨a, vs, b1, b2, b3⟩ := h.ro i k xs hx
    exact ⟨a, vs, b1, b2.to (fun o q _ => e2 _ _ q) (fun _ z => z), b3.mono e1⟩
  sep := h.sep
  vir := h.vir.to (fun _ _ q _ => ⟨q, rfl⟩) (fun _ _ => rfl) (fun _ _ _ a o _ _ q1 q2 => ⟨e4 a (by rw [q2]; simp) q1, e2 _ _ q2⟩) (fun d o q1 q2 n => ⟨e4 d (by rw [q1]; simp) q2, e2 _ _ q1, n⟩)
theorem Ext.grow (e1 : Same S S1) (e2 : Same H H1) (e4 : ∀ b, H b ≠ none → S b = none → S1 b = none) : Ext σ S H ρ S1 H1 ρ where
  same := e1
  there := fun b h => by
    cases q : H b with
    | none => exact absurd q h
    | some o => rw [e2 _ _ q]; simp
  stay := e4
  keep := fun b o h _ _ => e2 _ _ h
  kind := fun _ => Iff.rfl
  oth := fun _ _ => rfl
end
theorem same_upd {H : Hp} {p : Addr} {o : HO} (h : H p = none) : Same H (upd H p o) := fun b x e => by
  rw [upd_ne (ne_of_none e h)]
  exact e
theorem upd_mono {S H : Hp} {p : Addr} {o : HO} (h : Same S H) : Same (upd S p o) (upd H p o) := fun b x e => by
  by_cases hb : b = p
  · subst hb
    rw [upd_same] at e ⊢
    exact e
  · rw [upd_ne hb] at e ⊢
    exact h _ _ e
section
variable {σ : L2.St} {S H : Hp} {ρ : R} {K : PySem.W.Frag} {B : Nat} {p : Addr} {o : HO}
/-- a new object, known from now on -/
theorem Rel.new (h : Rel K B S H σ ρ) (hp : H p = none) : Rel K B (upd S p o) (upd H p o) σ ρ :=
  h.grow (same_upd (h.sub.free hp)) (same_upd hp) (upd_mono h.sub) fun b hb hs => by
    rw [upd_ne (fun z => hb (by rw [z]; exact hp))]
    exact hs
theorem Ext.new (h : Rel K B S H σ ρ) (hp : H p = none) : Ext σ S H ρ (upd S p o) (upd H p o) ρ :=
  .grow (same_upd (h.sub.free hp)) (same_upd hp) fun b hb hs => by
    rw [upd_ne (fun z => hb (by rw [z]; exact hp))]
    exact hs
/-- a new object, not yet among what is known -/
theorem Rel.new0 (h : Rel K B S H σ ρ) (hp : H p = none) : Rel K B S (upd H p o) σ ρ :=
  h.grow (Same.refl _) (same_upd hp) (h.sub.trans (same_upd hp)) fun b _ hs => hs
theorem Ext.new0 (h : Rel K B S H σ ρ) (hp : H p = none) : Ext σ S H ρ S (upd H p o) ρ :=
  .grow (Same.refl _) (same_upd hp) fun b _ hs => hs
/-- what stands in the heap at a place that is no place of ours is taken among what is known -/
theorem Rel.know {us : List V} (h : Rel K B S H σ ρ) (hp : H p = some o) (hn : ¬ OwnAt σ ρ p) (hS : S p = none) (hl : o = .lst us) : Rel K B (upd S p o) H σ ρ where
  len := h.len
  sub := fun b x e => by
    by_cases hb : b = p
    · subst hb
      rw [upd_same] at e
      cases e
      exact hp
    · rw [upd_ne hb] at e
      exact h.sub _ _ e
  val := fun i x hx => by
    obtain ⟨w, a, b⟩ := h.val i x hx
    exact ⟨w, a, b.mono (same_upd hS)⟩
  own := fun i xs hx => by
    obtain ⟨a, vs, b1, b2, b3, b4⟩ := h.own i xs hx
    refine ⟨a, vs, b1, ?_, b3, b4.mono (same_upd hS)⟩
    rw [upd_ne (fun z => hn ⟨i, _, ow hx, by rw [← z]; exact b1⟩)]
    exact b2
  ro := fun i k xs hx => by
    obtain ⟨a, vs, b1, b2, b3⟩ := h.ro i k xs hx
    exact ⟨a, vs, b1, b2, b3.mono (same_upd hS)⟩
  sep := h.sep
  vir := h.vir.to (fun _ _ q _ => ⟨q, rfl⟩) (fun _ _ => rfl) (fun i k is a u q1 q2 q3 q4 => ⟨by rw [upd_ne (fun z => hn ⟨i, _, ⟨q1, rfl⟩, by rw [← z]; exact q2⟩)]; exact q3, q4⟩)
    (fun d c q1 q2 n => ⟨by rw [upd_ne (fun z => by rw [z, hp, hl] at q1; cases q1)]; exact q2, q1, n⟩)
end

/-- names that are none of the text -/
def virt (x : Str) : Bool := x.cps[0]? == some 63
def bd (X : Cx) : Nat := X.N.findIdx virt
/-! ### what an expression is wanted to give, at the machine's side -/
def W (X : Cx) (e : Expr) : TE := fun σ H Q => ∀ (pins : List (Addr × Obj)) (s : Shared), Inv X pins σ H s → wpAny (model X.prog X.w) X.A (eval e X.env) (EP X pins σ Q) X.xe s
def WT (X : Cx) (e : Expr) : TT := fun σ H Q => ∀ (pins : List (Addr × Obj)) (s : Shared), Inv X pins σ H s → wpAny (model X.prog X.w) X.A (isTrue e X.env (eval e X.env)) (TP X pins σ Q) X.xe s
def WS (X : Cx) (st : Stmt) : TS := fun D σ H => ∀ (pins : List (Addr × Obj)) (s : Shared), Inv X pins σ H s → wpAny (model X.prog X.w) X.A (exec st X.env) (SP X pins D) X.xe s
def WSs (X : Cx) (st : List Stmt) : TS := fun D σ H => ∀ (pins : List (Addr × Obj)) (s : Shared), Inv X pins σ H s → wpAny (model X.prog X.w) X.A (execs st X.env) (SP X pins D) X.xe s
section
variable {X : Cx} {e : Expr} {σ : L2.St} {H : Hp}
theorem peW : PE X e (W X e) := ⟨fun pins s _ _ _ I h => h pins s I⟩
theorem ptW : PT X e (WT X e) := ⟨fun pins s _ _ _ I h => h pins s I⟩
theorem psW {st : Stmt} : PS X st (WS X st) := ⟨fun pins s _ _ _ I h => h pins s I⟩
theorem pssW {st : List Stmt} : PSs X st (WSs X st) := ⟨fun pins s _ _ _ I h => h pins s I⟩
theorem W.of {t : TE} {Q : VK} (h : PE X e t) (ht : t σ H Q) : W X e σ H Q := fun pins s I => h.run pins s σ H Q I ht
theorem WT.of {t : TT} {Q : Bool → Hp → Prop} (h : PT X e t) (ht : t σ H Q) : WT X e σ H Q := fun pins s I => h.run pins s σ H Q I ht
theorem WS.of {st : Stmt} {t : TS} {D : Ends} (h : PS X st t) (ht : t D σ H) : WS X st D σ H := fun pins s I => h.run pins s σ H D I ht
theorem WSs.of {st : List Stmt} {t : TS} {D : Ends} (h : PSs X st t) (ht : t D σ H) : WSs X st D σ H := fun pins s I => h.run pins s σ H D I ht
theorem W.mono {Q Q' : VK} (h : W X e σ H Q) (hq : ∀ v H', Q v H' → Q' v H') : W X e σ H Q' := fun pins s I =>
  thn (h pins s I) fun _ _ ⟨v, H', I', r, q⟩ => ⟨v, H', I', r, hq v H' q⟩
theorem WT.mono {Q Q' : Bool → Hp → Prop} (h : WT X e σ H Q) (hq : ∀ v H', Q v H' → Q' v H') : WT X e σ H Q' := fun pins s I =>
  thn (h pins s I) fun _ _ ⟨H', I', q⟩ => ⟨H', I', hq _ H' q⟩
end

/-! ### the judgements over slots -/
abbrev VE := R → (D → R → Prop) → Prop
abbrev VC := R → (Bool → R → Prop) → Prop
/-- what an operand is: a value, or the list of a slot, read when it is asked -/
inductive AV where
  | val (x : D)
  | slot (i : Nat)
abbrev VT := R → (AV → R → Prop) → Prop
def deref (ρ : R) : AV → Option D
  | .val x => some x
  | .slot i => match ρ[i]? with
    | some (.own xs) => some (.list xs)
    | some (.ro _ xs) => some (.list xs)
    | _ => none
def ARep (K : PySem.W.Frag) (S : Hp) (σ : L2.St) (v : V) : AV → Prop
  | .val x => Rp S v x
  | .slot i => σ[i]? = some (some v)
theorem ARep.mono {K : PySem.W.Frag} {S S' : Hp} {σ : L2.St} {v : V} : ∀ {a : AV}, ARep K S σ v a → Same S S' → ARep K S' σ v a
  | .val _, h, e => Rp.mono h e
  | .slot _, h, _ => h
def PostE (X : Cx) (σ : L2.St) (S H : Hp) (ρ : R) (Q : D → R → Prop) : VK := fun v H' => ∃ S' ρ' x, Rel X.K (bd X) S' H' σ ρ' ∧ Ext σ S H ρ S' H' ρ' ∧ Rp S' v x ∧ Q x ρ'
def PostT (X : Cx) (σ : L2.St) (S H : Hp) (ρ : R) (Q : AV → R → Prop) : VK := fun v H' => ∃ S' ρ' x, Rel X.K (bd X) S' H' σ ρ' ∧ Ext σ S H ρ S' H' ρ' ∧ ARep X.K S' σ v x ∧ Q x ρ'
def PostN (X : Cx) (σ : L2.St) (S H : Hp) (ρ : R) (Q : D → R → Prop) : VK := fun v H' => ∃ S' ρ' a vs xs, Rel X.K (bd X) S' H' σ ρ' ∧ Ext σ S H ρ S' H' ρ' ∧ v = .ref a ∧ H a = none ∧ S' a = none ∧ H' a = some (.lst vs) ∧ RpAll S' vs xs ∧ Q (.list xs) ρ'
def PostC (X : Cx) (σ : L2.St) (S H : Hp) (ρ : R) (Q : Bool → R → Prop) : Bool → Hp → Prop := fun b H' => ∃ S' ρ', Rel X.K (bd X) S' H' σ ρ' ∧ Ext σ S H ρ S' H' ρ' ∧ Q b ρ'
/-- a value; an operand; a new list; a test -/
def JE (X : Cx) (e : Expr) (t : VE) : Prop := ∀ σ S H ρ Q, Rel X.K (bd X) S H σ ρ → t ρ Q → W X e σ H (PostE X σ S H ρ Q)
def JT (X : Cx) (e : Expr) (t : VT) : Prop := ∀ σ S H ρ Q, Rel X.K (bd X) S H σ ρ → t ρ Q → W X e σ H (PostT X σ S H ρ Q)
def JN (X : Cx) (e : Expr) (t : VE) : Prop := ∀ σ S H ρ Q, Rel X.K (bd X) S H σ ρ → t ρ Q → W X e σ H (PostN X σ S H ρ Q)
def JC (X : Cx) (e : Expr) (t : VC) : Prop := ∀ σ S H ρ Q, Rel X.K (bd X) S H σ ρ → t ρ Q → WT X e σ H (PostC X σ S H ρ Q)

theorem own_new {K : PySem.W.Frag} {B : Nat} {S H : Hp} {σ : L2.St} {ρ : R} (h : Rel K B S H σ ρ) {a : Addr} (ha : H a = none) : ¬ OwnAt σ ρ a := fun z => by
  obtain ⟨_, vs, e, _⟩ := h.own_at z
  rw [ha] at e
  cases e
theorem JN.e {X : Cx} {e : Expr} {t : VE} (h : JN X e t) : JE X e t := by
  intro σ S H ρ Q hR ht
  refine (h σ S H ρ Q hR ht).mono fun v H1 q => ?_
  obtain ⟨S1, ρ1, a, vs, xs, R1, E1, rfl, ha, hs, hl, hd, q⟩ := q
  have hn : ¬ OwnAt σ ρ1 a := fun z => own_new hR ha (E1.at.mpr z)
  refine ⟨upd S1 a (.lst vs), ρ1, .list xs, R1.know hl hn hs rfl, ⟨E1.same.trans (same_upd hs), E1.there, fun b hb h0 => ?_, E1.keep, E1.kind, E1.oth⟩, .lst upd_same (hd.mono (same_upd hs)), q⟩
  rw [upd_ne (fun z => hb (by rw [z]; exact ha))]
  exact E1.stay b hb h0
def vT (t : VE) : VT := fun ρ Q => t ρ fun x ρ' => Q (.val x) ρ'
theorem JE.t {X : Cx} {e : Expr} {t : VE} (h : JE X e t) : JT X e (vT t) := by
  intro σ S H ρ Q hR ht
  refine (h σ S H ρ _ hR ht).mono fun v H1 q => ?_
  obtain ⟨S1, ρ1, x, R1, E1, d, q⟩ := q
  exact ⟨S1, ρ1, .val x, R1, E1, d, q⟩
theorem deref_slot {ρ : R} {i : Nat} {x : D} (e : deref ρ (.slot i) = some x) : (∃ xs, ρ[i]? = some (.own xs) ∧ x = .list xs) ∨ ∃ k xs, ρ[i]? = some (.ro k xs) ∧ x = .list xs := by
  have e : (match ρ[i]? with
    | some (.own xs) => some (.list xs)
    | some (.ro _ xs) => some (.list xs)
    | _ => none) = some x := e
  split at e
  · cases e
    exact .inl ⟨_, by assumption, rfl⟩
  · cases e
    exact .inr ⟨_, _, by assumption, rfl⟩
  · cases e
/-- what an operand reads -/
theorem ARep.list {K : PySem.W.Frag} {B : Nat} {S H : Hp} {σ : L2.St} {ρ : R} (h : Rel K B S H σ ρ) {v : V} {a : AV} {xs : List D} (r : ARep K S σ v a) (e : deref ρ a = some (.list xs)) : ∃ p vs, v = .ref p ∧ SqL K H p vs ∧ RpAll S vs xs := by
  cases a with
  | val x =>
    cases e
    cases r with
    | lst hs ha => exact ⟨_, _, rfl, .of (h.sub _ _ hs), ha⟩
  | slot i =>
    have r : σ[i]? = some (some v) := r
    rcases deref_slot e with ⟨ys, he, q⟩ | ⟨k, ys, he, q⟩
    · cases q
      obtain ⟨a, vs, b1, b2, b3, b4⟩ := h.own i _ he
      rw [r] at b1
      cases b1
      exact ⟨a, vs, rfl, .inl (.inl b3), b4⟩
    · cases q
      obtain ⟨a, vs, b1, b2, b3⟩ := h.ro i _ _ he
      rw [r] at b1
      cases b1
      exact ⟨a, vs, rfl, b2.seq, b3⟩
theorem ARep.dp {K : PySem.W.Frag} {B : Nat} {S H : Hp} {σ : L2.St} {ρ : R} (h : Rel K B S H σ ρ) {v : V} {a : AV} {x : D} (r : ARep K S σ v a) (e : deref ρ a = some x) : Dp K H v x := by
  cases a with
  | val x =>
    cases e
    exact (Rp.mono r h.sub).dp
  | slot i =>
    have e0 := e
    rcases deref_slot e with ⟨ys, he, q⟩ | ⟨k, ys, he, q⟩
    · subst q
      obtain ⟨p, vs, rfl, hs, ha⟩ := ARep.list h r e0
      exact .lst hs (ha.mono h.sub).dp
    · subst q
      obtain ⟨p, vs, rfl, hs, ha⟩ := ARep.list h r e0
      exact .lst hs (ha.mono h.sub).dp
/-- the same for an operand that stands in the heap by itself -/
def strict (ρ : R) : AV → Bool
  | .val _ => true
  | .slot i => match ρ[i]? with
    | some (.own _) => true
    | some (.ro k _) => k
    | _ => false
theorem ARep.listS {K : PySem.W.Frag} {B : Nat} {S H : Hp} {σ : L2.St} {ρ : R} (h : Rel K B S H σ ρ) {v : V} {a : AV} {xs : List D} (r : ARep K S σ v a) (e : deref ρ a = some (.list xs)) (st : strict ρ a = true) : ∃ p vs, v = .ref p ∧ H p = some (.lst vs) ∧ RpAll S vs xs := by
  cases a with
  | val x =>
    cases e
    cases r with
    | lst hs ha => exact ⟨_, _, rfl, h.sub _ _ hs, ha⟩
  | slot i =>
    have r : σ[i]? = some (some v) := r
    rcases deref_slot e with ⟨ys, he, q⟩ | ⟨k, ys, he, q⟩
    · cases q
      obtain ⟨a, vs, b1, b2, b3, b4⟩ := h.own i _ he
      rw [r] at b1
      cases b1
      exact ⟨a, vs, rfl, b3, b4⟩
    · cases q
      obtain ⟨a, vs, b1, b2, b3⟩ := h.ro i _ _ he
      rw [r] at b1
      cases b1
      have st : (match ρ[i]? with
        | some (.own _) => true
        | some (.ro k _) => k
        | _ => false) = true := st
      rw [he] at st
      have st : k = true := st
      subst st
      exact ⟨a, vs, rfl, b2.lst, b3⟩
/-- what is no list is a value -/
theorem ARep.flat {K : PySem.W.Frag} {S : Hp} {σ : L2.St} {ρ : R} {v : V} {a : AV} {x : D} (r : ARep K S σ v a) (e : deref ρ a = some x) (hx : ∀ xs, x ≠ .list xs) : Rp S v x := by
  cases a with
  | val y =>
    cases e
    exact r
  | slot i =>
    rcases deref_slot e with ⟨ys, he, q⟩ | ⟨k, ys, he, q⟩
    · exact absurd q (hx _)
    · exact absurd q (hx _)
end WA

/-! WA2: one rule a construct, over slots. -/
namespace WA
open PySem PySem.Spec PyProof.Rows L2

/-! ### the best readings of the layer's parts -/
section
variable {X : Cx}
def WO (X : Cx) (f : Value → Value → Sem Value) : R2 := fun x y H Q => ∀ (pins : List (Addr × Obj)) (s : Shared) (σ : L2.St) (v u : Value), Inv X pins σ H s → RelV x v → RelV y u → wpAny (model X.prog X.w) X.A (f v u) (EP X pins σ Q) X.xe s
theorem opW {f : Value → Value → Sem Value} : OpR X f (WO X f) := fun pins s σ H x y v u Q I r1 r2 h => h pins s σ v u I r1 r2
theorem WO.of {f : Value → Value → Sem Value} {r : R2} {x y : V} {H : Hp} {Q : VK} (h : OpR X f r) (q : r x y H Q) : WO X f x y H Q := fun pins s σ v u I r1 r2 => h pins s σ H x y v u Q I r1 r2 q
def WCl (X : Cx) (f : Value) : List V → Hp → VK → Prop := fun xs H Q => ∀ (pins : List (Addr × Obj)) (s : Shared) (σ : L2.St) (us : List Value), Inv X pins σ H s → Vals xs us → wpAny (model X.prog X.w) X.A (call f us) (EP X pins σ Q) X.xe s
theorem clW {f : Value} : CallR X f (WCl X f) := fun pins s σ H xs us Q I r h => h pins s σ us I r
theorem WCl.of {f : Value} {r : List V → Hp → VK → Prop} {xs : List V} {H : Hp} {Q : VK} (h : CallR X f r) (q : r xs H Q) : WCl X f xs H Q := fun pins s σ us I r => h pins s σ H xs us Q I r q
def WU (X : Cx) (f : Value → Sem Value) : V → Hp → VK → Prop := fun x H Q => ∀ (pins : List (Addr × Obj)) (s : Shared) (σ : L2.St) (v : Value), Inv X pins σ H s → RelV x v → wpAny (model X.prog X.w) X.A (f v) (EP X pins σ Q) X.xe s
theorem unW {f : Value → Sem Value} : UnR X f (WU X f) := fun pins s σ H x v Q I r h => h pins s σ v I r
theorem WU.of {f : Value → Sem Value} {r : V → Hp → VK → Prop} {x : V} {H : Hp} {Q : VK} (h : UnR X f r) (q : r x H Q) : WU X f x H Q := fun pins s σ v I r1 => h pins s σ H x v Q I r1 q
def WM (X : Cx) (id : String) : V → List V → Hp → VK → Prop := fun x xs H Q => ∀ (pins : List (Addr × Obj)) (s : Shared) (σ : L2.St) (v : Value) (us : List Value), Inv X pins σ H s → RelV x v → Vals xs us → wpAny (model X.prog X.w) X.A (call (.builtin id) (v :: us)) (EP X pins σ Q) X.xe s
theorem mtW {id : String} : MtR X id (WM X id) := fun pins s σ H x xs v us Q I r1 r2 h => h pins s σ v us I r1 r2
theorem WM.of {id : String} {r : V → List V → Hp → VK → Prop} {x : V} {xs : List V} {H : Hp} {Q : VK} (h : MtR X id r) (q : r x xs H Q) : WM X id x xs H Q := fun pins s σ v us I r1 r2 => h pins s σ H x xs v us Q I r1 r2 q
end

section
variable {K : PySem.W.Frag} {S H : Hp} {σ : L2.St} {ρ : R} {v : V} {a : AV}
theorem ARep.int {i : Int} (r : ARep K S σ v a) (e : deref ρ a = some (.int i)) : v = .int i := by
  cases r.flat e (fun _ z => by cases z); rfl
theorem ARep.str {i : Str} (r : ARep K S σ v a) (e : deref ρ a = some (.str i)) : v = .str i := by
  cases r.flat e (fun _ z => by cases z); rfl
theorem ARep.bl {i : Bool} (r : ARep K S σ v a) (e : deref ρ a = some (.bool i)) : v = .bl i := by
  cases r.flat e (fun _ z => by cases z); rfl
theorem ARep.non (r : ARep K S σ v a) (e : deref ρ a = some .none) : v = .non := by
  cases r.flat e (fun _ z => by cases z); rfl
theorem ARep.tup {xs : List D} (r : ARep K S σ v a) (e : deref ρ a = some (.tuple xs)) : ∃ p vs, v = .ref p ∧ S p = some (.tup vs) ∧ RpAll S vs xs := by
  cases r.flat e (fun _ z => by cases z) with
  | tup h1 h2 => exact ⟨_, _, rfl, h1, h2⟩
end

/-! ### names and constants -/
section
variable {X : Cx} {pos : Pos}
def tvar (i : Nat) : VT := fun ρ Q => match ρ[i]? with
  | some (.v x) => Q (.val x) ρ
  | some (.own _) => Q (.slot i) ρ
  | some (.ro _ _) => Q (.slot i) ρ
  | _ => False
theorem jt_var {i : Nat} {x : Str} (hN : X.N[i]? = some x) (hv : Vis X.env.scope x) (hd : (x == ("__debug__" : Str)) = false) (hcd : (x == ("__classdict__" : Str)) = false) : JT X (.Name x pos) (tvar i) := by
  intro σ S H ρ Q hR ht
  refine W.of (pe_var hN hv hd hcd) ?_
  have ht : (match ρ[i]? with
    | some (.v x) => Q (.val x) ρ
    | some (.own _) => Q (.slot i) ρ
    | some (.ro _ _) => Q (.slot i) ρ
    | _ => False) := ht
  split at ht
  · rename_i x he
    obtain ⟨w, h1, h2⟩ := hR.val i x he
    exact ⟨w, h1, S, ρ, .val x, hR, .refl, h2, ht⟩
  · rename_i xs he
    obtain ⟨a, vs, h1, _⟩ := hR.own i xs he
    exact ⟨_, h1, S, ρ, .slot i, hR, .refl, h1, ht⟩
  · rename_i k xs he
    obtain ⟨a, vs, h1, _⟩ := hR.ro i k xs he
    exact ⟨_, h1, S, ρ, .slot i, hR, .refl, h1, ht⟩
  · exact ht.elim
def tcon (d : D) : VE := fun ρ Q => Q d ρ
theorem je_int {i j} : JE X (.Constant (.int i) j pos) (tcon (.int i)) := fun σ S H ρ Q hR ht => W.of pe_int ⟨S, ρ, _, hR, .refl, .int i, ht⟩
theorem je_str {i j} : JE X (.Constant (.str i) j pos) (tcon (.str i)) := fun σ S H ρ Q hR ht => W.of pe_str ⟨S, ρ, _, hR, .refl, .str i, ht⟩
theorem je_bl {i j} : JE X (.Constant (.bool i) j pos) (tcon (.bool i)) := fun σ S H ρ Q hR ht => W.of pe_bl ⟨S, ρ, _, hR, .refl, .bl i, ht⟩
theorem je_non {j} : JE X (.Constant .none j pos) (tcon .none) := fun σ S H ρ Q hR ht => W.of pe_non ⟨S, ρ, _, hR, .refl, .non, ht⟩
end

/-! ### whole numbers, texts: + - * // % ** -/
inductive BOp where
  | add | sub | mul | fdiv | mod | pow | modn
def BOp.op : BOp → Operator
  | .add => .Add
  | .sub => .Sub
  | .mul => .Mult
  | .fdiv => .FloorDiv
  | .mod => .Mod
  | .pow => .Pow
  | .modn => .Mod
def MulOk (i j : Int) : Prop := CMul i j ∨ CMulW i j
def vBinI : BOp → Int → Int → (D → Prop) → Prop
  | .add, i, j, Q => Q (.int (i + j))
  | .sub, i, j, Q => Q (.int (i - j))
  | .mul, i, j, Q => MulOk i j ∧ Q (.int (i * j))
  | .fdiv, i, j, Q => CDivW i j ∧ Q (.int (i / j))
  | .mod, i, j, Q => 0 < j ∧ Q (.int (i % j))
  | .modn, i, j, Q => j ≠ 0 ∧ Q (.int (i.fmod j))
  | .pow, i, j, Q => CPow i j ∧ Q (.int (i ^ j.toNat))
def repS (s : Str) (n : Nat) : Str := Txt.join Str.empty (List.replicate n s)
def vBin (op : BOp) (x y : Option D) (Q : D → Prop) : Prop :=
  match op, x, y with
  | op, some (.int i), some (.int j) => vBinI op i j Q
  | .add, some (.str i), some (.str j) => i.length + j.length ≤ sizeLine ∧ Q (.str (i ++ j))
  | _, _, _ => False
section
variable {X : Cx} {pos : Pos} {a b : Expr} {ta tb : VT}
def tBin (op : BOp) (ta tb : VT) : VE := fun ρ Q => ta ρ fun u ρ1 => tb ρ1 fun w ρ2 => vBin op (deref ρ2 u) (deref ρ2 w) fun r => Q r ρ2
/-- two operands, one after the other -/
theorem two {σ : L2.St} {S H : Hp} {ρ : R} {f : AV → AV → R → Prop} {Q : V → V → Hp → Prop} (hR : Rel X.K (bd X) S H σ ρ) (ha : JT X a ta) (hb : JT X b tb) (ht : ta ρ fun u ρ1 => tb ρ1 fun w ρ2 => f u w ρ2)
    (h : ∀ v w H2 S2 ρ2 u z, Rel X.K (bd X) S2 H2 σ ρ2 → Ext σ S H ρ S2 H2 ρ2 → ARep X.K S2 σ v u → ARep X.K S2 σ w z → f u z ρ2 → Q v w H2) : W X a σ H fun v H1 => W X b σ H1 fun w H2 => Q v w H2 := by
  refine (ha σ S H ρ _ hR ht).mono fun v H1 q => ?_
  obtain ⟨S1, ρ1, u, R1, E1, d1, q1⟩ := q
  refine (hb σ S1 H1 ρ1 _ R1 q1).mono fun w H2 q => ?_
  obtain ⟨S2, ρ2, z, R2, E2, d2, q2⟩ := q
  exact h v w H2 S2 ρ2 u z R2 (E1.trans E2) (d1.mono E2.same) d2 q2
theorem bin_int {op : BOp} {i j : Int} {H : Hp} {Q : VK} {P : D → Prop} (h : vBinI op i j P) (hq : ∀ k : Int, P (.int k) → Q (.int k) H) : WO X (binaryOp op.op) (.int i) (.int j) H Q := by
  cases op with
  | add => exact WO.of op_add ⟨i, j, rfl, rfl, hq _ h⟩
  | sub => exact WO.of op_sub ⟨i, j, rfl, rfl, hq _ h⟩
  | mul =>
    obtain ⟨h1 | h1, h⟩ := h
    · exact WO.of op_mul ⟨i, j, rfl, rfl, h1, hq _ h⟩
    · exact WO.of op_mulW ⟨i, j, rfl, rfl, h1, hq _ h⟩
  | fdiv => exact WO.of op_fdivW ⟨i, j, rfl, rfl, h.1, hq _ h.2⟩
  | mod => exact WO.of op_mod ⟨i, j, rfl, rfl, h.1, hq _ h.2⟩
  | modn => exact WO.of op_modN ⟨i, j, rfl, rfl, h.1, hq _ h.2⟩
  | pow => exact WO.of op_pow ⟨i, j, rfl, rfl, h.1, hq _ h.2⟩
theorem je_bin {op : BOp} (ha : JT X a ta) (hb : JT X b tb) : JE X (.BinOp a op.op b pos) (tBin op ta tb) := by
  intro σ S H ρ Q hR ht
  refine W.of (pe_op opW peW peW) (two hR ha hb ht fun v w H2 S2 ρ2 u z R2 E d1 d2 q => ?_)
  unfold vBin at q
  split at q
  · rename_i op i j e1 e2
    rw [d1.int e1, d2.int e2]
    exact bin_int q fun k hk => ⟨S2, ρ2, _, R2, E, .int k, hk⟩
  · rename_i i j e1 e2
    rw [d1.str e1, d2.str e2]
    exact WO.of op_add_str ⟨i, j, rfl, rfl, q.1, S2, ρ2, _, R2, E, .str _, q.2⟩
  · exact q.elim
def tNeg (ta : VT) : VE := fun ρ Q => ta ρ fun u ρ1 => match deref ρ1 u with
  | some (.int i) => Q (.int (-i)) ρ1
  | _ => False
theorem je_neg (ha : JT X a ta) : JE X (.UnaryOp .USub a pos) (tNeg ta) := by
  intro σ S H ρ Q hR ht
  refine W.of (pe_un unW peW) ((ha σ S H ρ _ hR ht).mono fun v H1 q => ?_)
  obtain ⟨S1, ρ1, u, R1, E1, d1, q1⟩ := q
  split at q1
  · rename_i i e
    rw [d1.int e]
    exact WU.of un_neg ⟨i, rfl, S1, ρ1, _, R1, E1, .int _, q1⟩
  · exact q1.elim
/-! ### lists: + and * -/
def tCat (ta tb : VT) : VE := fun ρ Q => ta ρ fun u ρ1 => tb ρ1 fun w ρ2 => match deref ρ2 u, deref ρ2 w with
  | some (.list xs), some (.list ys) => strict ρ2 u = true ∧ strict ρ2 w = true ∧ xs.length + ys.length ≤ sizeLine ∧ Q (.list (xs ++ ys)) ρ2
  | _, _ => False
theorem jn_cat (ha : JT X a ta) (hb : JT X b tb) : JN X (.BinOp a .Add b pos) (tCat ta tb) := by
  intro σ S H ρ Q hR ht
  refine W.of (pe_op opW peW peW) (two hR ha hb ht fun v w H2 S2 ρ2 u z R2 E d1 d2 q => ?_)
  split at q
  · rename_i xs ys e1 e2
    obtain ⟨s1, s2, hz, q⟩ := q
    obtain ⟨p, vs, rfl, h1, g1⟩ := d1.listS R2 e1 s1
    obtain ⟨p', ws, rfl, h2, g2⟩ := d2.listS R2 e2 s2
    refine WO.of op_cat ⟨p, p', vs, ws, rfl, rfl, h1, h2, by rw [rps_len g1, rps_len g2]; exact hz, fun n hn => ?_⟩
    have hn0 : H n = none := by
      cases e : H n with
      | none => rfl
      | some o => exact absurd hn (E.there n (by rw [e]; simp))
    exact ⟨S2, ρ2, n, _, _, R2.new0 hn, E.trans (.new0 R2 hn), rfl, hn0, R2.sub.free hn, upd_same, rps_app g1 g2, q⟩
  · exact q.elim
theorem rps_rep {S : Hp} {vs : List V} {ds : List D} (h : RpAll S vs ds) : ∀ k : Nat, RpAll S (List.replicate k vs).flatten (List.replicate k ds).flatten
  | 0 => .nil
  | k + 1 => by
    rw [List.replicate_succ, List.replicate_succ, List.flatten_cons, List.flatten_cons]
    exact rps_app h (rps_rep h k)
def tRep (ta tb : VT) : VE := fun ρ Q => ta ρ fun u ρ1 => tb ρ1 fun w ρ2 => match deref ρ2 u, deref ρ2 w with
  | some (.list xs), some (.int k) => strict ρ2 u = true ∧ -(2 ^ 63) ≤ k ∧ k < 2 ^ 63 ∧ xs.length * k.toNat ≤ sizeLine ∧ Q (.list (List.replicate k.toNat xs).flatten) ρ2
  | _, _ => False
theorem E_none {σ : L2.St} {S H S2 H2 : Hp} {ρ ρ2 : R} (E : Ext σ S H ρ S2 H2 ρ2) {n : Addr} (hn : H2 n = none) : H n = none := by
  cases e : H n with
  | none => rfl
  | some o => exact absurd hn (E.there n (by rw [e]; simp))
theorem jn_rep (ha : JT X a ta) (hb : JT X b tb) : JN X (.BinOp a .Mult b pos) (tRep ta tb) := by
  intro σ S H ρ Q hR ht
  refine W.of (pe_op opW peW peW) (two hR ha hb ht fun v w H2 S2 ρ2 u z R2 E d1 d2 q => ?_)
  split at q
  · rename_i xs k e1 e2
    obtain ⟨s1, h1, h2, hz, q⟩ := q
    obtain ⟨p, vs, rfl, g0, g1⟩ := d1.listS R2 e1 s1
    rw [d2.int e2]
    refine WO.of op_rep ⟨p, k, vs, rfl, rfl, g0, h1, h2, by rw [rps_len g1]; exact hz, fun n hn => ?_⟩
    exact ⟨S2, ρ2, n, _, _, R2.new0 hn, E.trans (.new0 R2 hn), rfl, E_none E hn, R2.sub.free hn, upd_same, rps_rep g1 _, q⟩
  · exact q.elim
end
end WA

/-! WA3: comparisons, and, or, not. -/
namespace WA
open PySem PySem.Spec PyProof.Rows L2

inductive COp where
  | eq | ne | lt | le | gt | ge | isN | isnN | mem | nmem
def COp.op : COp → CmpOp
  | .eq => .Eq
  | .ne => .NotEq
  | .lt => .Lt
  | .le => .LtE
  | .gt => .Gt
  | .ge => .GtE
  | .isN => .Is
  | .isnN => .IsNot
  | .mem => .In
  | .nmem => .NotIn
def flatD : D → Bool
  | .none => true
  | .bool _ => true
  | .int _ => true
  | .str _ => true
  | _ => false
def isNoneD : D → Bool
  | .none => true
  | _ => false
def eqOk (x y : D) : Bool := (flatD x && flatD y) || (SeqAt.shaped x && SeqAt.shaped y)
def vEq (x y : D) (Q : Bool → Prop) : Prop := eqOk x y = true ∧ Q (PyData.eqv x y)
def inD (x : D) (ys : List D) : Bool := ys.any fun y => PyData.eqv y x
def vMem (x y : D) (Q : Bool → Prop) : Prop := match x, y with
  | .str a, .str b => ∃ c, a = ⟨#[c]⟩ ∧ Q (decide (c ∈ b.cps.toList))
  | x, .list ys => flatD x = true ∧ ys.all flatD = true ∧ Q (inD x ys)
  | x, .tuple ys => flatD x = true ∧ ys.all flatD = true ∧ Q (inD x ys)
  | _, _ => False
def vCmp (op : COp) (x y : Option D) (Q : Bool → Prop) : Prop := match op, x, y with
  | .eq, some x, some y => vEq x y Q
  | .ne, some x, some y => vEq x y fun b => Q (!b)
  | .lt, some (.int i), some (.int j) => Q (decide (i < j))
  | .le, some (.int i), some (.int j) => Q (decide (i ≤ j))
  | .gt, some (.int i), some (.int j) => Q (decide (j < i))
  | .ge, some (.int i), some (.int j) => Q (decide (j ≤ i))
  | .isN, some x, some .none => Q (isNoneD x)
  | .isnN, some x, some .none => Q (!isNoneD x)
  | .mem, some x, some y => vMem x y Q
  | .nmem, some x, some y => vMem x y fun b => Q (!b)
  | _, _, _ => False
section
variable {S : Hp}
theorem rp_flatV {v : V} {d : D} (h : Rp S v d) (f : flatD d = true) : flatV v = true := by
  cases h <;> first | rfl | cases f
theorem rps_flatV : ∀ {vs : List V} {ds : List D}, RpAll S vs ds → ds.all flatD = true → vs.all flatV = true
  | _, _, .nil, _ => rfl
  | _, _, .cons a t, f => by
    rw [List.all_cons, Bool.and_eq_true] at f ⊢
    exact ⟨rp_flatV a f.1, rps_flatV t f.2⟩
theorem rp_eqV {v w : V} {d e : D} (h : Rp S v d) (h' : Rp S w e) (f : flatD d = true) (f' : flatD e = true) : eqV v w = PyData.eqv d e := by
  cases h <;> first
    | (exact absurd f (by decide))
    | (cases f; done)
    | (cases h' <;> first | (cases f'; done) | rfl | (simp only [eqV, PyData.eqv]))
theorem rps_inV {x : V} {d : D} (hx : Rp S x d) (f : flatD d = true) : ∀ {vs : List V} {ds : List D}, RpAll S vs ds → ds.all flatD = true → inV x vs = inD d ds
  | _, _, .nil, _ => rfl
  | _, _, .cons a t, g => by
    rw [List.all_cons, Bool.and_eq_true] at g
    have ih := rps_inV hx f t g.2
    unfold inV inD at ih ⊢
    rw [List.any_cons, List.any_cons, ih, rp_eqV a hx g.1 f]
theorem rp_scal {v w : V} {d e : D} (h : Rp S v d) (h' : Rp S w e) (f : flatD d = true) (f' : flatD e = true) : (scal v w = true ∧ decide (v = w) = PyData.eqv d e) ∨ (SeqAt.shaped d = true ∧ SeqAt.shaped e = true) := by
  cases h <;> first
    | (cases f; done)
    | (cases h' <;> first
        | (cases f'; done)
        | exact .inl ⟨rfl, dec_int⟩
        | exact .inl ⟨rfl, dec_bl⟩
        | exact .inl ⟨rfl, dec_str⟩
        | exact .inl ⟨rfl, by (simp only [PyData.eqv]; rfl)⟩
        | exact .inr ⟨by decide, by decide⟩
        | exact .inr ⟨rfl, rfl⟩)
end
section
variable {X : Cx} {pos : Pos} {a b : Expr} {ta tb : VT} {σ : L2.St} {S H : Hp} {ρ : R} {v w : V} {u z : AV}
theorem eq_core {x y : D} {Q : VK} {P : Bool → Prop} (hu : X.A.units + 64 < cLine) (R : Rel X.K (bd X) S H σ ρ) (d1 : ARep X.K S σ v u) (d2 : ARep X.K S σ w z) (e1 : deref ρ u = some x) (e2 : deref ρ z = some y) (h : vEq x y P) (hq : ∀ k, P k → Q (.bl k) H) :
    WO X (compareOp .Eq) v w H Q := by
  obtain ⟨ok, h⟩ := h
  have deep : SeqAt.shaped x = true ∧ SeqAt.shaped y = true → WO X (compareOp .Eq) v w H Q := fun q =>
    WO.of (op_eqD hu) ⟨x, y, d1.dp R e1, d2.dp R e2, q.1, q.2, hq _ h⟩
  rw [eqOk, Bool.or_eq_true, Bool.and_eq_true, Bool.and_eq_true] at ok
  rcases ok with ⟨f1, f2⟩ | q
  · have r1 := d1.flat e1 (fun _ z => by rw [z] at f1; cases f1)
    have r2 := d2.flat e2 (fun _ z => by rw [z] at f2; cases f2)
    rcases rp_scal r1 r2 f1 f2 with ⟨c1, c2⟩ | q
    · exact WO.of op_eq ⟨c1, by rw [c2]; exact hq _ h⟩
    · exact deep q
  · exact deep q
theorem ne_core {x y : D} {Q : VK} {P : Bool → Prop} (hu : X.A.units + 64 < cLine) (R : Rel X.K (bd X) S H σ ρ) (d1 : ARep X.K S σ v u) (d2 : ARep X.K S σ w z) (e1 : deref ρ u = some x) (e2 : deref ρ z = some y) (h : vEq x y fun k => P (!k)) (hq : ∀ k, P k → Q (.bl k) H) :
    WO X (compareOp .NotEq) v w H Q := by
  obtain ⟨ok, h⟩ := h
  have deep : SeqAt.shaped x = true ∧ SeqAt.shaped y = true → WO X (compareOp .NotEq) v w H Q := fun q =>
    WO.of (op_neD hu) ⟨x, y, d1.dp R e1, d2.dp R e2, q.1, q.2, hq _ h⟩
  rw [eqOk, Bool.or_eq_true, Bool.and_eq_true, Bool.and_eq_true] at ok
  rcases ok with ⟨f1, f2⟩ | q
  · have r1 := d1.flat e1 (fun _ z => by rw [z] at f1; cases f1)
    have r2 := d2.flat e2 (fun _ z => by rw [z] at f2; cases f2)
    rcases rp_scal r1 r2 f1 f2 with ⟨c1, c2⟩ | q
    · exact WO.of op_ne ⟨c1, by rw [c2]; exact hq _ h⟩
    · exact deep q
  · exact deep q
theorem isNone_V {K : PySem.W.Frag} {B : Nat} (R : Rel K B S H σ ρ) {x : D} (d : ARep K S σ v u) (e : deref ρ u = some x) : decide (v = .non) = isNoneD x := by
  cases d.dp R e <;> first | rfl | simp [isNoneD]
theorem mem_core {x y : D} {Q : VK} {P : Bool → Prop} {neg : Bool} (R : Rel X.K (bd X) S H σ ρ) (d1 : ARep X.K S σ v u) (d2 : ARep X.K S σ w z) (e1 : deref ρ u = some x) (e2 : deref ρ z = some y) (h : vMem x y fun k => P (if neg then !k else k)) (hq : ∀ k, P k → Q (.bl k) H) :
    WO X (compareOp (if neg then .NotIn else .In)) v w H Q := by
  unfold vMem at h
  split at h
  · rename_i a b
    obtain ⟨c, rfl, h⟩ := h
    rw [d1.str e1, d2.str e2]
    cases neg with
    | true => exact WO.of op_notIn_sign ⟨c, b, rfl, rfl, hq _ h⟩
    | false => exact WO.of op_in_sign ⟨c, b, rfl, rfl, hq _ h⟩
  · rename_i ys
    obtain ⟨f1, f2, h⟩ := h
    obtain ⟨p, vs, rfl, hs, ha⟩ := d2.list R e2
    have r1 := d1.flat e1 (fun _ z => by rw [z] at f1; cases f1)
    cases neg with
    | true => exact WO.of op_notIn_seq ⟨p, vs, rfl, .inl hs, rp_flatV r1 f1, rps_flatV ha f2, by rw [rps_inV r1 f1 ha f2]; exact hq _ h⟩
    | false => exact WO.of op_in_seq ⟨p, vs, rfl, .inl hs, rp_flatV r1 f1, rps_flatV ha f2, by rw [rps_inV r1 f1 ha f2]; exact hq _ h⟩
  · rename_i ys
    obtain ⟨f1, f2, h⟩ := h
    obtain ⟨p, vs, rfl, hs, ha⟩ := d2.tup e2
    have r1 := d1.flat e1 (fun _ z => by rw [z] at f1; cases f1)
    cases neg with
    | true => exact WO.of op_notIn_seq ⟨p, vs, rfl, .inr (.of (R.sub _ _ hs)), rp_flatV r1 f1, rps_flatV ha f2, by rw [rps_inV r1 f1 ha f2]; exact hq _ h⟩
    | false => exact WO.of op_in_seq ⟨p, vs, rfl, .inr (.of (R.sub _ _ hs)), rp_flatV r1 f1, rps_flatV ha f2, by rw [rps_inV r1 f1 ha f2]; exact hq _ h⟩
  · exact h.elim
theorem cmp_core {op : COp} {Q : VK} {P : Bool → Prop} (hu : X.A.units + 64 < cLine) (R : Rel X.K (bd X) S H σ ρ) (d1 : ARep X.K S σ v u) (d2 : ARep X.K S σ w z) (h : vCmp op (deref ρ u) (deref ρ z) P) (hq : ∀ k, P k → Q (.bl k) H) : WO X (compareOp op.op) v w H Q := by
  unfold vCmp at h
  split at h
  · rename_i x y e1 e2
    exact eq_core hu R d1 d2 e1 e2 h hq
  · rename_i x y e1 e2
    exact ne_core hu R d1 d2 e1 e2 h hq
  · rename_i i j e1 e2
    rw [d1.int e1, d2.int e2]
    exact WO.of op_lt ⟨i, j, rfl, rfl, hq _ h⟩
  · rename_i i j e1 e2
    rw [d1.int e1, d2.int e2]
    exact WO.of op_le ⟨i, j, rfl, rfl, hq _ h⟩
  · rename_i i j e1 e2
    rw [d1.int e1, d2.int e2]
    exact WO.of op_gt ⟨i, j, rfl, rfl, hq _ h⟩
  · rename_i i j e1 e2
    rw [d1.int e1, d2.int e2]
    exact WO.of op_ge ⟨i, j, rfl, rfl, hq _ h⟩
  · rename_i x e1 e2
    rw [d2.non e2]
    exact WO.of op_isN ⟨rfl, by rw [isNone_V R d1 e1]; exact hq _ h⟩
  · rename_i x e1 e2
    rw [d2.non e2]
    exact WO.of op_notN ⟨rfl, by rw [isNone_V R d1 e1]; exact hq _ h⟩
  · rename_i x y e1 e2
    exact mem_core (neg := false) R d1 d2 e1 e2 h hq
  · rename_i x y e1 e2
    exact mem_core (neg := true) R d1 d2 e1 e2 h hq
  · exact h.elim
def tCmp (op : COp) (ta tb : VT) : VE := fun ρ Q => ta ρ fun u ρ1 => tb ρ1 fun w ρ2 => vCmp op (deref ρ2 u) (deref ρ2 w) fun r => Q (.bool r) ρ2
theorem je_cmp {op : COp} (hu : X.A.units + 64 < cLine) (ha : JT X a ta) (hb : JT X b tb) (hm : behindInMarks op.op b = false) : JE X (.Compare a [op.op] [b] pos) (tCmp op ta tb) := by
  intro σ S H ρ Q hR ht
  refine W.of (pe_cmpR opW peW peW hm) (two hR ha hb ht fun v w H2 S2 ρ2 u z R2 E d1 d2 q => ?_)
  exact cmp_core hu R2 d1 d2 q fun k hk => ⟨S2, ρ2, _, R2, E, .bl k, hk⟩
/-- a test whose value is a bool -/
def asC (t : VE) : VC := fun ρ Q => t ρ fun x ρ' => match x with
  | .bool b => Q b ρ'
  | _ => False
def cOf (t : VT) : VC := fun ρ Q => t ρ fun x ρ' => match x with
  | .val (.bool b) => Q b ρ'
  | _ => False
theorem jc_cmp {op : COp} (hu : X.A.units + 64 < cLine) (ha : JT X a ta) (hb : JT X b tb) (hm : behindInMarks op.op b = false) : JC X (.Compare a [op.op] [b] pos) (cOf (vT (tCmp op ta tb))) := by
  intro σ S H ρ Q hR ht
  refine WT.of (pt_cmpR opW peW peW hm) (two hR ha hb ht fun v w H2 S2 ρ2 u z R2 E d1 d2 q => ?_)
  exact cmp_core hu R2 d1 d2 q fun k hk => ⟨k, rfl, S2, ρ2, R2, E, hk⟩
/-- any expression that is no not, and, or, comparison, if-else -/
theorem jc_val (ha : JT X a ta) (he : ∀ whole, isTrue a X.env whole = (do let v ← whole; standAt a.pos; holding [v] (truthy v))) : JC X a (cOf ta) := by
  intro σ S H ρ Q hR ht
  refine WT.of (pt_val peW he) ((ha σ S H ρ _ hR ht).mono fun v H1 q => ?_)
  obtain ⟨S1, ρ1, u, R1, E1, d1, q1⟩ := q
  split at q1
  · rename_i b
    have hv : v = .bl b := by
      have d1 : Rp S1 v (.bool b) := d1
      cases d1; rfl
    exact ⟨b, hv, S1, ρ1, R1, E1, q1⟩
  · exact q1.elim
/-! ### not, and, or -/
def tNt (ta : VT) : VE := fun ρ Q => ta ρ fun u ρ1 => match u with
  | .val (.bool b) => Q (.bool (!b)) ρ1
  | _ => False
theorem je_not (ha : JT X a ta) : JE X (.UnaryOp .Not a pos) (tNt ta) := by
  intro σ S H ρ Q hR ht
  refine W.of (pe_not peW) ((ha σ S H ρ _ hR ht).mono fun v H1 q => ?_)
  obtain ⟨S1, ρ1, u, R1, E1, d1, q1⟩ := q
  split at q1
  · rename_i b
    have hv : v = .bl b := by
      have d1 : Rp S1 v (.bool b) := d1
      cases d1; rfl
    exact ⟨b, hv, S1, ρ1, _, R1, E1, .bl _, q1⟩
  · exact q1.elim
theorem jc_not (ha : JC X a (cOf ta)) : JC X (.UnaryOp .Not a pos) (cOf (vT (tNt ta))) := by
  intro σ S H ρ Q hR ht
  refine WT.of (pt_not ptW) ?_
  have ht' : cOf ta ρ fun b ρ' => Q (!b) ρ' := by
    have e : cOf (vT (tNt ta)) ρ Q = ta ρ (fun u ρ1 => match u with
      | .val (.bool b) => Q (!b) ρ1
      | _ => False) := by
      unfold cOf vT tNt
      refine congrArg (ta ρ) ?_
      funext u ρ1
      cases u with
      | val x => cases x <;> rfl
      | slot i => rfl
    rw [e] at ht
    exact ht
  refine (ha σ S H ρ _ hR ht').mono fun b H1 q => ?_
  obtain ⟨S1, ρ1, R1, E1, q1⟩ := q
  exact ⟨S1, ρ1, R1, E1, q1⟩
def tAnd2 (ta tb : VT) : VT := fun ρ Q => ta ρ fun u ρ1 => match u with
  | .val (.bool b) => (b = true → tb ρ1 Q) ∧ (b = false → Q (.val (.bool false)) ρ1)
  | _ => False
def tOr2 (ta tb : VT) : VT := fun ρ Q => ta ρ fun u ρ1 => match u with
  | .val (.bool b) => (b = true → Q (.val (.bool true)) ρ1) ∧ (b = false → tb ρ1 Q)
  | _ => False
theorem PostT.trans {S1 H1 : Hp} {ρ1 : R} {Q : AV → R → Prop} (E1 : Ext σ S H ρ S1 H1 ρ1) {v : V} {H2 : Hp} (h : PostT X σ S1 H1 ρ1 Q v H2) : PostT X σ S H ρ Q v H2 := by
  obtain ⟨S2, ρ2, x, R2, E2, d, q⟩ := h
  exact ⟨S2, ρ2, x, R2, E1.trans E2, d, q⟩
theorem PostC.trans {S1 H1 : Hp} {ρ1 : R} {Q : Bool → R → Prop} (E1 : Ext σ S H ρ S1 H1 ρ1) {v : Bool} {H2 : Hp} (h : PostC X σ S1 H1 ρ1 Q v H2) : PostC X σ S H ρ Q v H2 := by
  obtain ⟨S2, ρ2, R2, E2, q⟩ := h
  exact ⟨S2, ρ2, R2, E1.trans E2, q⟩
theorem jt_one {op : BoolOp} (ha : JT X a ta) : JT X (.BoolOp op [a] pos) ta := fun σ S H ρ Q hR ht => W.of (pe_one peW) (ha σ S H ρ Q hR ht)
theorem jt_and {rest : List Expr} (ha : JT X a ta) (hb : JT X (.BoolOp .And (b :: rest) pos) tb) : JT X (.BoolOp .And (a :: b :: rest) pos) (tAnd2 ta tb) := by
  intro σ S H ρ Q hR ht
  refine W.of (pe_and peW peW) ((ha σ S H ρ _ hR ht).mono fun v H1 q => ?_)
  obtain ⟨S1, ρ1, u, R1, E1, d1, q1⟩ := q
  split at q1
  · rename_i b
    have hv : v = .bl b := by
      have d1 : Rp S1 v (.bool b) := d1
      cases d1; rfl
    refine ⟨b, hv, ?_⟩
    cases b with
    | true => exact ((hb σ S1 H1 ρ1 _ R1 (q1.1 rfl)).mono fun _ _ h => h.trans E1)
    | false => exact ⟨S1, ρ1, .val _, R1, E1, Rp.bl _, q1.2 rfl⟩
  · exact q1.elim
theorem jt_or {rest : List Expr} (ha : JT X a ta) (hb : JT X (.BoolOp .Or (b :: rest) pos) tb) : JT X (.BoolOp .Or (a :: b :: rest) pos) (tOr2 ta tb) := by
  intro σ S H ρ Q hR ht
  refine W.of (pe_or peW peW) ((ha σ S H ρ _ hR ht).mono fun v H1 q => ?_)
  obtain ⟨S1, ρ1, u, R1, E1, d1, q1⟩ := q
  split at q1
  · rename_i b
    have hv : v = .bl b := by
      have d1 : Rp S1 v (.bool b) := d1
      cases d1; rfl
    refine ⟨b, hv, ?_⟩
    cases b with
    | false => exact ((hb σ S1 H1 ρ1 _ R1 (q1.2 rfl)).mono fun _ _ h => h.trans E1)
    | true => exact ⟨S1, ρ1, .val _, R1, E1, Rp.bl _, q1.1 rfl⟩
  · exact q1.elim
/-- tests of and, or: whatever their whole is -/
def WW (X : Cx) (e : Expr) : TT := fun σ H Q => ∀ (whole : Sem Value) (pins : List (Addr × Obj)) (s : Shared), Inv X pins σ H s → wpAny (model X.prog X.w) X.A (isTrue e X.env whole) (TP X pins σ Q) X.xe s
theorem pwW {e : Expr} : PW X e (WW X e) := ⟨fun whole pins s _ _ _ I h => h whole pins s I⟩
theorem WW.of {e : Expr} {t : TT} {Q : Bool → Hp → Prop} (h : PW X e t) (ht : t σ H Q) : WW X e σ H Q := fun whole pins s I => h.run whole pins s σ H Q I ht
theorem WW.mono {e : Expr} {Q Q' : Bool → Hp → Prop} (h : WW X e σ H Q) (hq : ∀ v H', Q v H' → Q' v H') : WW X e σ H Q' := fun whole pins s I =>
  thn (h whole pins s I) fun _ _ ⟨H', I', q⟩ => ⟨H', I', hq _ H' q⟩
def JW (X : Cx) (e : Expr) (t : VC) : Prop := ∀ σ S H ρ Q, Rel X.K (bd X) S H σ ρ → t ρ Q → WW X e σ H (PostC X σ S H ρ Q)
theorem JW.c {e : Expr} {t : VC} (h : JW X e t) : JC X e t := fun σ S H ρ Q hR ht => WT.of (PW.pt pwW) (h σ S H ρ Q hR ht)
theorem jw_and1 (ha : JC X a (cOf ta)) : JW X (.BoolOp .And [a] pos) (cOf ta) := fun σ S H ρ Q hR ht => WW.of (pw_and1 ptW) (ha σ S H ρ Q hR ht)
theorem jw_or1 (ha : JC X a (cOf ta)) : JW X (.BoolOp .Or [a] pos) (cOf ta) := fun σ S H ρ Q hR ht => WW.of (pw_or1 ptW) (ha σ S H ρ Q hR ht)
theorem cOf_and {ρ : R} {Q : Bool → R → Prop} : cOf (tAnd2 ta tb) ρ Q = cOf ta ρ fun b ρ1 => (b = true → cOf tb ρ1 Q) ∧ (b = false → Q false ρ1) := by
  unfold cOf tAnd2
  refine congrArg (ta ρ) ?_
  funext u ρ1
  cases u with
  | val x => cases x <;> rfl
  | slot i => rfl
theorem cOf_or {ρ : R} {Q : Bool → R → Prop} : cOf (tOr2 ta tb) ρ Q = cOf ta ρ fun b ρ1 => (b = true → Q true ρ1) ∧ (b = false → cOf tb ρ1 Q) := by
  unfold cOf tOr2
  refine congrArg (ta ρ) ?_
  funext u ρ1
  cases u with
  | val x => cases x <;> rfl
  | slot i => rfl
theorem jw_and {rest : List Expr} (ha : JC X a (cOf ta)) (hb : JW X (.BoolOp .And (b :: rest) pos) (cOf tb)) : JW X (.BoolOp .And (a :: b :: rest) pos) (cOf (tAnd2 ta tb)) := by
  intro σ S H ρ Q hR ht
  rw [cOf_and] at ht
  refine WW.of (pw_and ptW pwW) ((ha σ S H ρ _ hR ht).mono fun c H1 q => ?_)
  obtain ⟨S1, ρ1, R1, E1, q1⟩ := q
  cases c with
  | true => exact ((hb σ S1 H1 ρ1 _ R1 (q1.1 rfl)).mono fun _ _ h => h.trans E1)
  | false => exact ⟨S1, ρ1, R1, E1, q1.2 rfl⟩
theorem jw_or {rest : List Expr} (ha : JC X a (cOf ta)) (hb : JW X (.BoolOp .Or (b :: rest) pos) (cOf tb)) : JW X (.BoolOp .Or (a :: b :: rest) pos) (cOf (tOr2 ta tb)) := by
  intro σ S H ρ Q hR ht
  rw [cOf_or] at ht
  refine WW.of (pw_or ptW pwW) ((ha σ S H ρ _ hR ht).mono fun c H1 q => ?_)
  obtain ⟨S1, ρ1, R1, E1, q1⟩ := q
  cases c with
  | false => exact ((hb σ S1 H1 ρ1 _ R1 (q1.2 rfl)).mono fun _ _ h => h.trans E1)
  | true => exact ⟨S1, ρ1, R1, E1, q1.1 rfl⟩
end
end WA

/-! WA4: arguments, built-ins, displays, items, slices, methods. -/
namespace WA
open PySem PySem.Spec PyProof.Rows L2

/-! ### the sorted list of texts -/
def leS (a b : Str) : Bool := !decide (b.cps.toList < a.cps.toList)
def srt (xs : List Str) : List Str := xs.mergeSort leS
theorem leS_iff {a b : Str} : leS a b = true ↔ a.cps.toList ≤ b.cps.toList := by
  unfold leS
  rw [Bool.not_eq_true', decide_eq_false_iff_not]
  exact Iff.rfl
theorem leS_trans (a b c : Str) (h1 : leS a b = true) (h2 : leS b c = true) : leS a c = true := leS_iff.mpr (List.le_trans (leS_iff.mp h1) (leS_iff.mp h2))
theorem leS_total (a b : Str) : (leS a b || leS b a) = true := by
  rw [Bool.or_eq_true, leS_iff, leS_iff]
  exact List.le_total _ _
theorem leS_anti {a b : Str} (h1 : leS a b = true) (h2 : leS b a = true) : a = b := by
  have e := List.le_antisymm (leS_iff.mp h1) (leS_iff.mp h2)
  cases a with
  | mk a =>
    cases b with
    | mk b => exact congrArg Str.mk (Array.toList_inj.mp e)
theorem rising_pw : ∀ (xs : List Str) (p : Str), risingS p xs = true → (∀ x ∈ xs, leS p x = true) ∧ xs.Pairwise fun a b => leS a b = true
  | [], _, _ => ⟨fun _ h => absurd h (by simp), .nil⟩
  | x :: r, p, h => by
    have h : (!ltCps x.cps.toList p.cps.toList && risingS x r) = true := h
    rw [Bool.and_eq_true] at h
    obtain ⟨h1, h2⟩ := h
    obtain ⟨a, b⟩ := rising_pw r x h2
    have e : leS p x = true := by
      unfold leS
      rw [← ltCps_eq]
      exact h1
    refine ⟨fun y hy => ?_, List.pairwise_cons.mpr ⟨a, b⟩⟩
    rcases List.mem_cons.mp hy with q | q
    · rw [q]
      exact e
    · exact leS_trans _ _ _ e (a y q)
theorem sortedS_pw {xs : List Str} (h : sortedS xs = true) : xs.Pairwise fun a b => leS a b = true := by
  cases xs with
  | nil => exact .nil
  | cons x r =>
    obtain ⟨a, b⟩ := rising_pw r x h
    exact List.pairwise_cons.mpr ⟨a, b⟩
theorem srt_pw (xs : List Str) : (srt xs).Pairwise fun a b => leS a b = true := List.pairwise_mergeSort leS_trans leS_total xs
theorem srt_perm (xs : List Str) : (srt xs).Perm xs := List.mergeSort_perm xs leS
theorem srt_of {xs ys : List Str} (hp : ys.Perm xs) (hs : ys.Pairwise fun a b => leS a b = true) : ys = srt xs :=
  List.Perm.eq_of_pairwise (le := fun a b => leS a b = true) (fun _ _ _ _ => leS_anti) hs (srt_pw xs) (hp.trans (srt_perm xs).symm)
theorem srt_len (xs : List Str) : (srt xs).length = xs.length := (srt_perm xs).length_eq
/-- sorted(xs), texts, any number of them -/
theorem cr_sortedT {X : Cx} : CallR X (.builtin "sorted") (fun vs H Q => ∃ (a : Addr) (xs : List Str), vs = [V.ref a] ∧ SqL X.K H a (xs.map V.str) ∧ ∀ p : Addr, H p = none → Q (.ref p) (upd H p (.lst ((srt xs).map V.str)))) := by
  intro pins s σ H vs us Q I r h
  obtain ⟨a, xs, rfl, hs, q⟩ := h
  obtain ⟨its, rv, hl, hz⟩ := I.list hs
  rw [Vals.ref1 r]
  refine PyProof.Rows.sorted_strsAny hl.isList rv.strs (by rw [← rv.length]; exact hz) fun out ss h1 h2 h3 => ?_
  have e := srt_of h2 (sortedS_pw h3)
  subst e
  obtain ⟨ep, he'⟩ := PyProof.Rows.sortedAll_at s.heap its out
  have hlen : ((srt xs).map V.str).length ≤ sizeLine := by
    rw [List.length_map, srt_len]
    rw [List.length_map] at hz
    exact hz
  exact ⟨.ref _, upd H (s.heap.objs.size + 1) (.lst ((srt xs).map V.str)), I.laid (t' := s.toks) (fun _ _ => PyProof.Rows.sortedAll_old) (Nat.le_succ _) ⟨hlen, out.toList, ep, vals_of_strs h1, by simpa using he'⟩, rfl, q _ (I.hok.fresh (Nat.le_succ _))⟩

/-! ### arguments -/
def notStar : Expr → Bool
  | .Starred _ _ => false
  | _ => true
theorem star_cons {e : Expr} {es : List Expr} {env : Env} (h : notStar e = true) : starEach (e :: es) env = (false, eval e env) :: starEach es env := by
  cases e <;> first | rfl | cases h
theorem star_none {pos : Pos} {env : Env} : ∀ {es : List Expr}, es.all notStar = true → (backTo pos (starEach es env)).any (·.1) = false
  | [], _ => rfl
  | e :: es, h => by
    rw [List.all_cons, Bool.and_eq_true] at h
    rw [star_cons h.1]
    show (false || (backTo pos (starEach es env)).any (·.1)) = false
    rw [star_none h.2]
    rfl
abbrev VA := R → (List AV → R → Prop) → Prop
def ARs (K : PySem.W.Frag) (S : Hp) (σ : L2.St) : List V → List AV → Prop := Paired fun v a => ARep K S σ v a
theorem ARs.mono {K : PySem.W.Frag} {S S' : Hp} {σ : L2.St} {vs : List V} {as : List AV} (h : ARs K S σ vs as) (e : Same S S') : ARs K S' σ vs as := Paired.mapP h fun _ _ r => ARep.mono r e
def PostA (X : Cx) (σ : L2.St) (S H : Hp) (ρ : R) (Q : List AV → R → Prop) : List V → Hp → Prop := fun vs H' => ∃ S' ρ' as, Rel X.K (bd X) S' H' σ ρ' ∧ Ext σ S H ρ S' H' ρ' ∧ ARs X.K S' σ vs as ∧ Q as ρ'
def WAr (X : Cx) (es : List Expr) : TA := fun σ H Q => ∀ (pos : Pos) (pins : List (Addr × Obj)) (s : Shared), Inv X pins σ H s → wpAny (model X.prog X.w) X.A (spliced (backTo pos (starEach es X.env))) (AP X pins σ Q) X.xe s
section
variable {X : Cx} {pos p : Pos} {e a b : Expr} {es : List Expr} {ta tb : VT} {σ : L2.St} {S H : Hp} {ρ : R}
theorem paW : PA X es (WAr X es) := ⟨fun pos pins s _ _ _ I h => h pos pins s I⟩
theorem WAr.of {t : TA} {Q : List V → Hp → Prop} (h : PA X es t) (ht : t σ H Q) : WAr X es σ H Q := fun pos pins s I => h.run pos pins s σ H Q I ht
theorem WAr.mono {Q Q' : List V → Hp → Prop} (h : WAr X es σ H Q) (hq : ∀ v H', Q v H' → Q' v H') : WAr X es σ H Q' := fun pos pins s I =>
  thn (h pos pins s I) fun _ _ ⟨vs, H', I', r, q⟩ => ⟨vs, H', I', r, hq _ H' q⟩
def JA (X : Cx) (es : List Expr) (t : VA) : Prop := ∀ σ S H ρ Q, Rel X.K (bd X) S H σ ρ → t ρ Q → WAr X es σ H (PostA X σ S H ρ Q)
def tANil : VA := fun ρ Q => Q [] ρ
def tACons (t : VT) (u : VA) : VA := fun ρ Q => t ρ fun x ρ1 => u ρ1 fun xs ρ2 => Q (x :: xs) ρ2
theorem ja_nil : JA X [] tANil := fun σ S H ρ Q hR ht => WAr.of pa_nil ⟨S, ρ, [], hR, .refl, .nil, ht⟩
theorem ja_cons {u : VA} (ha : JT X e ta) (hb : JA X es u) (hs : notStar e = true) : JA X (e :: es) (tACons ta u) := by
  intro σ S H ρ Q hR ht
  refine WAr.of (pa_cons peW paW (star_cons hs)) ((ha σ S H ρ _ hR ht).mono fun v H1 q => ?_)
  obtain ⟨S1, ρ1, x, R1, E1, d1, q1⟩ := q
  refine (hb σ S1 H1 ρ1 _ R1 q1).mono fun vs H2 q => ?_
  obtain ⟨S2, ρ2, as, R2, E2, d2, q2⟩ := q
  exact ⟨S2, ρ2, x :: as, R2, E1.trans E2, .cons (d1.mono E2.same) d2, q2⟩

/-! ### displays -/
def vals? : List AV → Option (List D)
  | [] => some []
  | .val x :: as => (vals? as).map (x :: ·)
  | .slot _ :: _ => none
theorem vals_rps {K : PySem.W.Frag} : ∀ {vs : List V} {as : List AV} {xs : List D}, ARs K S σ vs as → vals? as = some xs → RpAll S vs xs
  | _, _, _, .nil, h => by cases h; exact .nil
  | _, _, _, .cons (b := .val x) r t, h => by
    cases q : vals? _ with
    | none => rw [vals?, q] at h; cases h
    | some ys =>
      rw [vals?, q] at h
      cases h
      exact .cons r (vals_rps t q)
  | _, _, _, .cons (b := .slot i) r t, h => by cases h
def tLstD (t : VA) : VE := fun ρ Q => t ρ fun as ρ1 => match vals? as with
  | some xs => xs.length ≤ sizeLine ∧ Q (.list xs) ρ1
  | none => False
def tTupD (t : VA) : VE := fun ρ Q => t ρ fun as ρ1 => match vals? as with
  | some xs => xs.length ≤ sizeLine ∧ Q (.tuple xs) ρ1
  | none => False
theorem jn_lst {t : VA} (h : JA X es t) : JN X (.List es pos) (tLstD t) := by
  intro σ S H ρ Q hR ht
  refine W.of (pe_lst paW) ((h σ S H ρ _ hR ht).mono fun vs H1 q => ?_)
  obtain ⟨S1, ρ1, as, R1, E1, d1, q1⟩ := q
  split at q1
  · rename_i xs e
    have g := vals_rps d1 e
    refine ⟨by rw [rps_len g]; exact q1.1, fun n hn => ?_⟩
    exact ⟨S1, ρ1, n, _, _, R1.new0 hn, E1.trans (.new0 R1 hn), rfl, E_none E1 hn, R1.sub.free hn, upd_same, g, q1.2⟩
  · exact q1.elim
theorem je_tup {t : VA} {x1} (h : JA X es t) : JE X (.Tuple es x1 pos) (tTupD t) := by
  intro σ S H ρ Q hR ht
  refine W.of (pe_tup paW) ((h σ S H ρ _ hR ht).mono fun vs H1 q => ?_)
  obtain ⟨S1, ρ1, as, R1, E1, d1, q1⟩ := q
  split at q1
  · rename_i xs e
    have g := vals_rps d1 e
    refine ⟨by rw [rps_len g]; exact q1.1, fun n hn => ?_⟩
    exact ⟨upd S1 n (.tup vs), ρ1, _, R1.new hn, E1.trans (.new R1 hn), .tup upd_same (g.mono (same_upd (R1.sub.free hn))), q1.2⟩
  · exact q1.elim

/-! ### items -/
theorem ixN_len {n m : Nat} (h : n = m) (i : Int) : ixN n i = ixN m i := by rw [h]
theorem rps_at {vs : List V} {xs : List D} {i : Int} {d : D} (h : RpAll S vs xs) (e : atI xs i = some d) : ∃ v, atI vs i = some v ∧ Rp S v d := by
  unfold atI at e ⊢
  rw [rps_len h]
  cases q : ixN xs.length i with
  | none => rw [q] at e; cases e
  | some j =>
    rw [q] at e
    exact rps_get h e
def tIx (ta tb : VT) : VE := fun ρ Q => ta ρ fun u ρ1 => tb ρ1 fun w ρ2 => match deref ρ2 u, deref ρ2 w with
  | some (.list xs), some (.int i) => ∃ d, atI xs i = some d ∧ Q d ρ2
  | some (.tuple xs), some (.int i) => ∃ d, atI xs i = some d ∧ Q d ρ2
  | some (.str z), some (.int i) => ∃ c, atI z.cps.toList i = some c ∧ z.length ≤ sizeLine ∧ Q (.str ⟨#[c]⟩) ρ2
  | _, _ => False
theorem je_ix (ha : JT X a ta) (hb : JT X b tb) (hs : PlainIx b) : JE X (.Subscript a b pos) (tIx ta tb) := by
  intro σ S H ρ Q hR ht
  refine W.of (pe_ix ix_seq peW peW hs) (two hR ha hb ht fun v w H2 S2 ρ2 u z R2 E d1 d2 q => ?_)
  split at q
  · rename_i xs i e1 e2
    obtain ⟨p, vs, rfl, hq, g⟩ := d1.list R2 e1
    obtain ⟨d, e, q⟩ := q
    obtain ⟨y, h1, h2⟩ := rps_at g e
    exact .inl ⟨p, vs, i, y, rfl, d2.int e2, hq, h1, S2, ρ2, d, R2, E, h2, q⟩
  · rename_i xs i e1 e2
    obtain ⟨p, vs, rfl, hq, g⟩ := d1.tup e1
    obtain ⟨d, e, q⟩ := q
    obtain ⟨y, h1, h2⟩ := rps_at g e
    exact .inr (.inl ⟨p, vs, i, y, rfl, d2.int e2, .of (R2.sub _ _ hq), h1, S2, ρ2, d, R2, E, h2, q⟩)
  · rename_i z i e1 e2
    obtain ⟨c, e, q⟩ := q
    exact .inr (.inr ⟨z, i, c, d1.str e1, d2.int e2, q.1, e, S2, ρ2, _, R2, E, .str _, q.2⟩)
  · exact q.elim

/-! ### slices -/
def cutD {α : Type} (xs : List α) (lo hi : Option Int) : List α := (xs.drop (HT.sIx xs.length 0 lo)).take (HT.sIx xs.length xs.length hi - HT.sIx xs.length 0 lo)
theorem rps_cut {vs : List V} {xs : List D} (h : RpAll S vs xs) (lo hi : Option Int) : RpAll S (cutV vs lo hi) (cutD xs lo hi) := by
  unfold cutV cutD
  rw [rps_len h]
  exact rps_take _ (rps_drop _ h)
abbrev VO := R → (Option Int → R → Prop) → Prop
def WP (X : Cx) (e : Option Expr) : TO := fun σ H Q => ∀ (pins : List (Addr × Obj)) (s : Shared), Inv X pins σ H s → wpAny (model X.prog X.w) X.A (evalPart e X.env) (fun u s' => ∃ o H', Inv X pins σ H' s' ∧ IsPart u o ∧ Q o H') X.xe s
theorem poW {o : Option Expr} : PO X o (WP X o) := ⟨fun pins s _ _ _ I h => h pins s I⟩
theorem WP.of {o : Option Expr} {t : TO} {Q : Option Int → Hp → Prop} (h : PO X o t) (ht : t σ H Q) : WP X o σ H Q := fun pins s I => h.run pins s σ H Q I ht
theorem WP.mono {o : Option Expr} {Q Q' : Option Int → Hp → Prop} (h : WP X o σ H Q) (hq : ∀ v H', Q v H' → Q' v H') : WP X o σ H Q' := fun pins s I =>
  thn (h pins s I) fun _ _ ⟨vs, H', I', r, q⟩ => ⟨vs, H', I', r, hq _ H' q⟩
def PostO (X : Cx) (σ : L2.St) (S H : Hp) (ρ : R) (Q : Option Int → R → Prop) : Option Int → Hp → Prop := fun o H' => ∃ S' ρ', Rel X.K (bd X) S' H' σ ρ' ∧ Ext σ S H ρ S' H' ρ' ∧ Q o ρ'
def JO (X : Cx) (e : Option Expr) (t : VO) : Prop := ∀ σ S H ρ Q, Rel X.K (bd X) S H σ ρ → t ρ Q → WP X e σ H (PostO X σ S H ρ Q)
def tONo : VO := fun ρ Q => Q none ρ
def tOSo (t : VT) : VO := fun ρ Q => t ρ fun u ρ1 => match deref ρ1 u with
  | some (.int i) => Q (some i) ρ1
  | _ => False
theorem jo_no : JO X none tONo := fun σ S H ρ Q hR ht => WP.of po_none ⟨S, ρ, hR, .refl, ht⟩
theorem jo_so (ha : JT X a ta) : JO X (some a) (tOSo ta) := by
  intro σ S H ρ Q hR ht
  refine WP.of (po_some peW) ((ha σ S H ρ _ hR ht).mono fun v H1 q => ?_)
  obtain ⟨S1, ρ1, u, R1, E1, d1, q1⟩ := q
  split at q1
  · rename_i i e
    exact ⟨i, d1.int e, S1, ρ1, R1, E1, q1⟩
  · exact q1.elim
/-- three parts of a slice -/
theorem three {tl th : VO} {lo hi : Option Expr} {f : AV → Option Int → Option Int → R → Prop} {Q : V → Option Int → Option Int → Hp → Prop} (hR : Rel X.K (bd X) S H σ ρ) (ha : JT X a ta) (hl : JO X lo tl) (hh : JO X hi th)
    (ht : ta ρ fun u ρ1 => tl ρ1 fun l ρ2 => th ρ2 fun h ρ3 => f u l h ρ3)
    (h : ∀ v H3 S3 ρ3 u l h, Rel X.K (bd X) S3 H3 σ ρ3 → Ext σ S H ρ S3 H3 ρ3 → ARep X.K S3 σ v u → f u l h ρ3 → Q v l h H3) : W X a σ H fun v H1 => WP X lo σ H1 fun l H2 => WP X hi σ H2 fun h H3 => Q v l h H3 := by
  refine (ha σ S H ρ _ hR ht).mono fun v H1 q => ?_
  obtain ⟨S1, ρ1, u, R1, E1, d1, q1⟩ := q
  refine (hl σ S1 H1 ρ1 _ R1 q1).mono fun l H2 q => ?_
  obtain ⟨S2, ρ2, R2, E2, q2⟩ := q
  refine (hh σ S2 H2 ρ2 _ R2 q2).mono fun r H3 q => ?_
  obtain ⟨S3, ρ3, R3, E3, q3⟩ := q
  exact h v H3 S3 ρ3 u l r R3 ((E1.trans E2).trans E3) (d1.mono (E2.same.trans E3.same)) q3
def tSlL (ta : VT) (tl th : VO) : VE := fun ρ Q => ta ρ fun u ρ1 => tl ρ1 fun l ρ2 => th ρ2 fun h ρ3 => match deref ρ3 u with
  | some (.list xs) => Q (.list (cutD xs l h)) ρ3
  | _ => False
theorem jn_sl {tl th : VO} {lo hi : Option Expr} {p2 : Pos} (ha : JT X a ta) (hl : JO X lo tl) (hh : JO X hi th) : JN X (.Subscript a (.Slice lo hi none p2) pos) (tSlL ta tl th) := by
  intro σ S H ρ Q hR ht
  refine W.of (pe_slice sl_list peW poW poW) (three hR ha hl hh ht fun v H3 S3 ρ3 u l h R3 E d q => ?_)
  split at q
  · rename_i xs e
    obtain ⟨p, vs, rfl, hq, g⟩ := d.list R3 e
    exact ⟨p, vs, rfl, hq, fun n hn => ⟨S3, ρ3, n, _, _, R3.new0 hn, E.trans (.new0 R3 hn), rfl, E_none E hn, R3.sub.free hn, upd_same, rps_cut g l h, q⟩⟩
  · exact q.elim
def tSlS (ta : VT) (tl th : VO) : VE := fun ρ Q => ta ρ fun u ρ1 => tl ρ1 fun l ρ2 => th ρ2 fun h ρ3 => match deref ρ3 u with
  | some (.str z) => z.length ≤ sizeLine ∧ Q (.str (cutS z l h)) ρ3
  | _ => False
theorem je_slS {tl th : VO} {lo hi : Option Expr} {p2 : Pos} (ha : JT X a ta) (hl : JO X lo tl) (hh : JO X hi th) : JE X (.Subscript a (.Slice lo hi none p2) pos) (tSlS ta tl th) := by
  intro σ S H ρ Q hR ht
  refine W.of (pe_slice sl_str peW poW poW) (three hR ha hl hh ht fun v H3 S3 ρ3 u l h R3 E d q => ?_)
  split at q
  · rename_i z e
    exact ⟨z, d.str e, q.1, S3, ρ3, _, R3, E, .str _, q.2⟩
  · exact q.elim
end
end WA

/-! WA5: built-ins, methods, calls of defs. -/
namespace WA
open PySem PySem.Spec PyProof.Rows L2

/-! ### built-ins that give a number, a text, a truth -/
inductive Bl where
  | len | str | int | sum | min1 | max1 | min2 | max2 | any | all | abs
  deriving DecidableEq
def Bl.name : Bl → Str
  | .len => "len"
  | .str => "str"
  | .int => "int"
  | .sum => "sum"
  | .min1 => "min"
  | .max1 => "max"
  | .min2 => "min"
  | .max2 => "max"
  | .any => "any"
  | .all => "all"
  | .abs => "abs"
def Bl.ty : Bl → Bool
  | .str => true
  | .int => true
  | _ => false
def Bl.id : Bl → String
  | .len => "len"
  | .str => "str"
  | .int => "int"
  | .sum => "sum"
  | .min1 => "min"
  | .max1 => "max"
  | .min2 => "min"
  | .max2 => "max"
  | .any => "any"
  | .all => "all"
  | .abs => "abs"
def Bl.v (b : Bl) : Value := if b.ty then .type b.id else .builtin b.id
theorem Bl.boot (b : Bl) : bootBuiltins b.name = some b.v := by cases b <;> decide +kernel
theorem Bl.nn (b : Bl) : b.name ≠ "__name__" := by cases b <;> decide +kernel
theorem Bl.nd (b : Bl) : (b.name == ("__debug__" : Str)) = false := by cases b <;> decide +kernel
def vBlt (b : Bl) (xs : List (Option D)) (Q : D → Prop) : Prop := match b, xs with
  | .len, [some (.list xs)] => Q (.int xs.length)
  | .len, [some (.tuple xs)] => Q (.int xs.length)
  | .len, [some (.str z)] => z.length ≤ sizeLine ∧ Q (.int z.length)
  | .str, [some (.int i)] => i.natAbs.log2 < 1920 ∧ Q (.str (toString i))
  | .int, [some (.int i)] => Q (.int i)
  | .int, [some (.bool k)] => Q (.int (if k then 1 else 0))
  | .int, [some (.str a)] => ∃ n, PySem.intText? a = some n ∧ a.length ≤ 640 ∧ Q (.int n)
  | .sum, [some (.list xs)] => ∃ ns : List Int, xs = ns.map PyData.int ∧ Q (.int ns.sum)
  | .min1, [some (.list xs)] => ∃ ns : List Int, xs = ns.map PyData.int ∧ 0 < ns.length ∧ ∀ m, m ∈ ns → (∀ y, y ∈ ns → m ≤ y) → Q (.int m)
  | .max1, [some (.list xs)] => ∃ ns : List Int, xs = ns.map PyData.int ∧ 0 < ns.length ∧ ∀ m, m ∈ ns → (∀ y, y ∈ ns → y ≤ m) → Q (.int m)
  | .min2, [some (.int i), some (.int j)] => Q (.int (if j < i then j else i))
  | .max2, [some (.int i), some (.int j)] => Q (.int (if j > i then j else i))
  | .any, [some (.list xs)] => ∃ bs : List Bool, xs = bs.map PyData.bool ∧ Q (.bool (bs.any id))
  | .all, [some (.list xs)] => ∃ bs : List Bool, xs = bs.map PyData.bool ∧ Q (.bool (bs.all id))
  | .abs, [some (.int i)] => Q (.int (if i < 0 then -i else i))
  | _, _ => False
section
variable {X : Cx} {pos p : Pos} {e a b : Expr} {es : List Expr} {ta tb : VT} {σ : L2.St} {S H : Hp} {ρ : R} {K : PySem.W.Frag} {B : Nat}
theorem ars1 {vs : List V} {as : List AV} {x : Option D} (h : ARs K S σ vs as) (e : as.map (deref ρ) = [x]) : ∃ v a, vs = [v] ∧ as = [a] ∧ ARep K S σ v a ∧ deref ρ a = x := by
  cases h with
  | nil => cases e
  | cons r t =>
    cases t with
    | nil => exact ⟨_, _, rfl, rfl, r, by simpa using e⟩
    | cons r' t' => simp at e
theorem ars2 {vs : List V} {as : List AV} {x y : Option D} (h : ARs K S σ vs as) (e : as.map (deref ρ) = [x, y]) : ∃ v a w b, vs = [v, w] ∧ as = [a, b] ∧ ARep K S σ v a ∧ deref ρ a = x ∧ ARep K S σ w b ∧ deref ρ b = y := by
  cases h with
  | nil => cases e
  | cons r t =>
    cases t with
    | nil => simp at e
    | cons r' t' =>
      cases t' with
      | nil =>
        simp at e
        exact ⟨_, _, _, _, rfl, rfl, r, e.1, r', e.2⟩
      | cons r'' t'' => simp at e
theorem blt_core {bl : Bl} {vs : List V} {as : List AV} {Q : VK} {P : D → Prop} (hc : X.calm = true) (R : Rel X.K (bd X) S H σ ρ) (d : ARs X.K S σ vs as) (h : vBlt bl (as.map (deref ρ)) P) (hq : ∀ x v, P x → Rp S v x → Q v H) : WCl X bl.v vs H Q := by
  unfold vBlt at h
  split at h
  · rename_i xs e
    obtain ⟨v, a, rfl, rfl, r, e1⟩ := ars1 d e
    obtain ⟨p, ws, rfl, g1, g2⟩ := r.list R e1
    exact WCl.of call_len_seq ⟨p, ws, rfl, .inl g1, by rw [rps_len g2]; exact hq _ _ h (.int _)⟩
  · rename_i xs e
    obtain ⟨v, a, rfl, rfl, r, e1⟩ := ars1 d e
    obtain ⟨p, ws, rfl, g1, g2⟩ := r.tup e1
    exact WCl.of call_len_seq ⟨p, ws, rfl, .inr (.of (R.sub _ _ g1)), by rw [rps_len g2]; exact hq _ _ h (.int _)⟩
  · rename_i z e
    obtain ⟨v, a, rfl, rfl, r, e1⟩ := ars1 d e
    rw [r.str e1]
    exact WCl.of call_len_str ⟨z, rfl, h.1, hq _ _ h.2 (.int _)⟩
  · rename_i i e
    obtain ⟨v, a, rfl, rfl, r, e1⟩ := ars1 d e
    rw [r.int e1]
    exact WCl.of call_str_int ⟨i, rfl, h.1, hq _ _ h.2 (.str _)⟩
  · rename_i i e
    obtain ⟨v, a, rfl, rfl, r, e1⟩ := ars1 d e
    rw [r.int e1]
    exact WCl.of call_int1 (.inl ⟨i, rfl, hq _ _ h (.int _)⟩)
  · rename_i k e
    obtain ⟨v, a, rfl, rfl, r, e1⟩ := ars1 d e
    rw [r.bl e1]
    exact WCl.of call_int1 (.inr ⟨k, rfl, hq _ _ h (.int _)⟩)
  · rename_i z e
    obtain ⟨v, a, rfl, rfl, r, e1⟩ := ars1 d e
    obtain ⟨n, h1, h2, h⟩ := h
    rw [r.str e1]
    exact WCl.of call_int_str ⟨z, n, rfl, h1, h2, hq _ _ h (.int _)⟩
  · rename_i xs e
    obtain ⟨v, a, rfl, rfl, r, e1⟩ := ars1 d e
    obtain ⟨ns, rfl, h⟩ := h
    obtain ⟨p, ws, rfl, g1, g2⟩ := r.list R e1
    have e := rps_ints g2
    subst e
    exact WCl.of (cr_sum hc) ⟨p, ns, rfl, g1, hq _ _ h (.int _)⟩
  · rename_i xs e
    obtain ⟨v, a, rfl, rfl, r, e1⟩ := ars1 d e
    obtain ⟨ns, rfl, hn, h⟩ := h
    obtain ⟨p, ws, rfl, g1, g2⟩ := r.list R e1
    have e := rps_ints g2
    subst e
    exact WCl.of (cr_min hc) ⟨p, ns, rfl, g1, hn, fun m h1 h2 => hq _ _ (h m h1 h2) (.int _)⟩
  · rename_i xs e
    obtain ⟨v, a, rfl, rfl, r, e1⟩ := ars1 d e
    obtain ⟨ns, rfl, hn, h⟩ := h
    obtain ⟨p, ws, rfl, g1, g2⟩ := r.list R e1
    have e := rps_ints g2
    subst e
    exact WCl.of (cr_max hc) ⟨p, ns, rfl, g1, hn, fun m h1 h2 => hq _ _ (h m h1 h2) (.int _)⟩
  · rename_i i j e
    obtain ⟨v, a, w, b, rfl, rfl, r, e1, r', e2⟩ := ars2 d e
    rw [r.int e1, r'.int e2]
    exact WCl.of (call_min2 hc) ⟨i, j, rfl, hq _ _ h (.int _)⟩
  · rename_i i j e
    obtain ⟨v, a, w, b, rfl, rfl, r, e1, r', e2⟩ := ars2 d e
    rw [r.int e1, r'.int e2]
    exact WCl.of (call_max2 hc) ⟨i, j, rfl, hq _ _ h (.int _)⟩
  · rename_i xs e
    obtain ⟨v, a, rfl, rfl, r, e1⟩ := ars1 d e
    obtain ⟨bs, rfl, h⟩ := h
    obtain ⟨p, ws, rfl, g1, g2⟩ := r.list R e1
    have e := rps_bls g2
    subst e
    exact WCl.of (cr_any hc) ⟨p, bs, rfl, g1, hq _ _ h (.bl _)⟩
  · rename_i xs e
    obtain ⟨v, a, rfl, rfl, r, e1⟩ := ars1 d e
    obtain ⟨bs, rfl, h⟩ := h
    obtain ⟨p, ws, rfl, g1, g2⟩ := r.list R e1
    have e := rps_bls g2
    subst e
    exact WCl.of (cr_all hc) ⟨p, bs, rfl, g1, hq _ _ h (.bl _)⟩
  · rename_i i e
    obtain ⟨v, a, rfl, rfl, r, e1⟩ := ars1 d e
    rw [r.int e1]
    exact WCl.of call_abs ⟨i, rfl, hq _ _ h (.int _)⟩
  · exact h.elim
def tBlt (b : Bl) (t : VA) : VE := fun ρ Q => t ρ fun as ρ1 => vBlt b (as.map (deref ρ1)) fun r => Q r ρ1
theorem je_blt {bl : Bl} {t : VA} (hc : X.calm = true) (hg : Gl X bl.name) (hm : X.mg bl.name = none) (h : JA X (e :: es) t) (hs : (e :: es).all notStar = true) : JE X (.Call (.Name bl.name p) (e :: es) [] pos) (tBlt bl t) := by
  intro σ S H ρ Q hR ht
  rw [List.all_cons, Bool.and_eq_true] at hs
  have hb := bl.boot
  have go : WAr X (e :: es) σ H fun vs H1 => WCl X bl.v vs H1 (PostE X σ S H ρ Q) := by
    refine (h σ S H ρ _ hR ht).mono fun vs H1 q => ?_
    obtain ⟨S1, ρ1, as, R1, E1, d1, q1⟩ := q
    exact blt_core hc R1 d1 q1 fun x v h r => ⟨S1, ρ1, x, R1, E1, r, h⟩
  cases ht : bl.ty with
  | true =>
    have e1 : bl.v = .type bl.id := by unfold Bl.v; rw [ht]; rfl
    rw [e1] at hb go
    exact W.of (pe_callTy clW hg hm hb paW bl.nn bl.nd (star_cons hs.1) (star_none hs.2)) go
  | false =>
    have e1 : bl.v = .builtin bl.id := by unfold Bl.v; rw [ht]; rfl
    rw [e1] at hb go
    exact W.of (pe_callB clW hg hm hb paW bl.nn bl.nd (star_cons hs.1) (star_none hs.2)) go

/-! ### sorted(xs), list(xs) -/
def tSrt (ta : VT) : VE := fun ρ Q => ta ρ fun u ρ1 => match deref ρ1 u with
  | some (.list xs) => ∃ zs : List Str, xs = zs.map PyData.str ∧ Q (.list ((srt zs).map PyData.str)) ρ1
  | _ => False
theorem jn_srt (hg : Gl X "sorted") (hm : X.mg "sorted" = none) (ha : JT X a ta) (hs : notStar a = true) : JN X (.Call (.Name "sorted" p) [a] [] pos) (tSrt ta) := by
  intro σ S H ρ Q hR ht
  refine W.of (pe_callB (id := "sorted") clW hg hm (by decide +kernel) (pa_cons peW pa_nil (star_cons hs)) (by decide) (by decide) (star_cons hs) rfl) ((ha σ S H ρ _ hR ht).mono fun v H1 q => ?_)
  obtain ⟨S1, ρ1, u, R1, E1, d1, q1⟩ := q
  split at q1
  · rename_i xs e1
    obtain ⟨zs, rfl, q1⟩ := q1
    obtain ⟨p, ws, rfl, g1, g2⟩ := d1.list R1 e1
    have e := rps_strs g2
    subst e
    exact WCl.of cr_sortedT ⟨p, zs, rfl, g1, fun n hn => ⟨S1, ρ1, n, _, _, R1.new0 hn, E1.trans (.new0 R1 hn), rfl, E_none E1 hn, R1.sub.free hn, upd_same, rps_of_strs _, q1⟩⟩
  · exact q1.elim
def tLs (ta : VT) : VE := fun ρ Q => ta ρ fun u ρ1 => match deref ρ1 u with
  | some (.list xs) => Q (.list xs) ρ1
  | some (.tuple xs) => Q (.list xs) ρ1
  | _ => False
theorem jn_ls (hg : Gl X "list") (hm : X.mg "list" = none) (ha : JT X a ta) (hs : notStar a = true) : JN X (.Call (.Name "list" p) [a] [] pos) (tLs ta) := by
  intro σ S H ρ Q hR ht
  refine W.of (pe_callTy (T := "list") clW hg hm (by decide +kernel) (pa_cons peW pa_nil (star_cons hs)) (by decide) (by decide) (star_cons hs) rfl) ((ha σ S H ρ _ hR ht).mono fun v H1 q => ?_)
  obtain ⟨S1, ρ1, u, R1, E1, d1, q1⟩ := q
  split at q1
  · rename_i xs e1
    obtain ⟨p, ws, rfl, g1, g2⟩ := d1.list R1 e1
    exact WCl.of call_list_of ⟨p, ws, rfl, .inl g1, fun n hn => ⟨S1, ρ1, n, _, _, R1.new0 hn, E1.trans (.new0 R1 hn), rfl, E_none E1 hn, R1.sub.free hn, upd_same, g2, q1⟩⟩
  · rename_i xs e1
    obtain ⟨p, ws, rfl, g1, g2⟩ := d1.tup e1
    exact WCl.of call_list_of ⟨p, ws, rfl, .inr (.of (R1.sub _ _ g1)), fun n hn => ⟨S1, ρ1, n, _, _, R1.new0 hn, E1.trans (.new0 R1 hn), rfl, E_none E1 hn, R1.sub.free hn, upd_same, g2, q1⟩⟩
  · exact q1.elim

/-! ### isinstance(x, T) -/
def kindD : D → String
  | .none => "NoneType"
  | .bool _ => "bool"
  | .int _ => "int"
  | .str _ => "str"
  | .list _ => "list"
  | .tuple _ => "tuple"
  | .dict _ => "dict"
inductive Ty where
  | int | bool | str | list | tuple
def Ty.s : Ty → String
  | .int => "int"
  | .bool => "bool"
  | .str => "str"
  | .list => "list"
  | .tuple => "tuple"
def Ty.name : Ty → Str
  | .int => "int"
  | .bool => "bool"
  | .str => "str"
  | .list => "list"
  | .tuple => "tuple"
theorem Ty.boot (t : Ty) : bootBuiltins t.name = some (.type t.s) := by cases t <;> decide +kernel
theorem Ty.nn (b : Ty) : b.name ≠ "__name__" := by cases b <;> decide +kernel
theorem Ty.nd (b : Ty) : (b.name == ("__debug__" : Str)) = false := by cases b <;> decide +kernel
def isiD (t : Ty) (x : D) : Bool := kindD x == t.s || (kindD x == "bool" && t.s == "int")
theorem isi_kit {K : PySem.W.Frag} (t : Ty) (k : String) (hk : k = "NoneType" ∨ k = "bool" ∨ k = "int" ∨ k = "str" ∨ k = "list" ∨ k = "tuple") : PySem.W.kitOne K (.type k) (.type t.s) = some (k == t.s || (k == "bool" && t.s == "int")) := by
  rcases hk with rfl | rfl | rfl | rfl | rfl | rfl <;> cases t <;> exact kit_ty (by decide +kernel)
theorem rp_tyx {v : V} {u : AV} {x : D} (R : Rel K B S H σ ρ) (d : ARep K S σ v u) (e : deref ρ u = some x) (st : strict ρ u = true) : TyX K H v (.type (kindD x)) ∧ (kindD x = "NoneType" ∨ kindD x = "bool" ∨ kindD x = "int" ∨ kindD x = "str" ∨ kindD x = "list" ∨ kindD x = "tuple") := by
  cases x with
  | none => rw [d.non e]; exact ⟨.base .non, .inl rfl⟩
  | bool b => rw [d.bl e]; exact ⟨.base (.bl _), .inr (.inl rfl)⟩
  | int b => rw [d.int e]; exact ⟨.base (.int _), .inr (.inr (.inl rfl))⟩
  | str b => rw [d.str e]; exact ⟨.base (.str _), .inr (.inr (.inr (.inl rfl)))⟩
  | list xs =>
    obtain ⟨p, ws, rfl, g1, g2⟩ := d.listS R e st
    exact ⟨.base (.lst g1), .inr (.inr (.inr (.inr (.inl rfl))))⟩
  | tuple xs =>
    obtain ⟨p, ws, rfl, g1, g2⟩ := d.tup e
    exact ⟨.base (.tup (R.sub _ _ g1)), .inr (.inr (.inr (.inr (.inr rfl))))⟩
  | dict kvs => cases d.flat e (fun _ z => by cases z)
def tIsi (t : Ty) (ta : VT) : VE := fun ρ Q => ta ρ fun u ρ1 => match deref ρ1 u with
  | some x => strict ρ1 u = true ∧ Q (.bool (isiD t x)) ρ1
  | none => False
theorem je_isi {t : Ty} {p2 : Pos} (hg : Gl X "isinstance") (hm : X.mg "isinstance" = none) (hg2 : Gl X t.name) (hm2 : X.mg t.name = none) (ha : JT X a ta) (hs : notStar a = true) : JE X (.Call (.Name "isinstance" p) [a, .Name t.name p2] [] pos) (tIsi t ta) := by
  intro σ S H ρ Q hR ht
  refine W.of (pe_callB (id := "isinstance") clW hg hm (by decide +kernel) (pa_cons peW (pa_cons (pe_bltn (v := .ty t.s) hg2 hm2 t.boot rfl t.nn t.nd) pa_nil) (star_cons hs)) (by decide) (by decide) (star_cons hs) rfl) ((ha σ S H ρ _ hR ht).mono fun v H1 q => ?_)
  obtain ⟨S1, ρ1, u, R1, E1, d1, q1⟩ := q
  split at q1
  · rename_i x e1
    obtain ⟨h1, h2⟩ := rp_tyx R1 d1 e1 q1.1
    exact WCl.of call_isi ⟨v, .ty t.s, _, _, _, rfl, .ty _, h1, isi_kit t _ h2, S1, ρ1, _, R1, E1, .bl _, q1.2⟩
  · exact q1.elim

/-! ### a list of one's own is changed -/
theorem sqL_upd {a b : Addr} {o : HO} {ws : List V} (h : SqL K H b ws) (n : b ≠ a) : SqL K (upd H a o) b ws := by
  rcases h with (h | ⟨ob, h⟩) | h
  · exact .inl (.inl (by rw [upd_ne n]; exact h))
  · exact .inl (.inr ⟨ob, by rw [upd_ne n]; exact h⟩)
  · exact .inr h
theorem Rel.put {i : Nat} {a : Addr} {xs ys : List D} {vs : List V} (h : Rel K B S H σ ρ) (ho : ρ[i]? = some (.own xs)) (ha : σ[i]? = some (some (.ref a))) (g : RpAll S vs ys) : Rel K B S (upd H a (.lst vs)) σ (ρ.set i (.own ys)) := by
  have hi : i < ρ.length := (List.getElem?_eq_some_iff.mp ho).1
  have hS : S a = none := (h.own_at ⟨i, _, ow ho, ha⟩).1
  have get : ∀ (j : Nat) (x : Sl), (ρ.set i (.own ys))[j]? = some x → (j = i ∧ x = .own ys) ∨ (j ≠ i ∧ ρ[j]? = some x) := fun j x hx => by
    by_cases e : j = i
    · subst e
      rw [List.getElem?_set_self hi] at hx
      exact .inl ⟨rfl, (Option.some.inj hx).symm⟩
    · rw [List.getElem?_set_ne (fun z => e z.symm)] at hx
      exact .inr ⟨e, hx⟩
  have oa : ∀ {b : Addr}, OwnAt σ (ρ.set i (.own ys)) b → OwnAt σ ρ b := fun {b} ⟨m, us, hm, e⟩ => by
    rcases get m _ hm.1 with ⟨rfl, _⟩ | ⟨_, q⟩
    · exact ⟨m, _, ow ho, e⟩
    · exact ⟨m, us, ⟨q, hm.2⟩, e⟩
  refine ⟨by rw [List.length_set]; exact h.len, fun b o e => ?_, fun j x hx => ?_, fun j zs hx => ?_, fun j k zs hx => ?_, fun j k s t b h1 h2 h3 h4 => ?_, ?_⟩
  · rw [upd_ne (ne_of_none e hS)]
    exact h.sub _ _ e
  · rcases get j _ hx with ⟨_, q⟩ | ⟨_, q⟩
    · cases q
    · exact h.val j x q
  · rcases get j _ hx with ⟨rfl, q⟩ | ⟨n, q⟩
    · cases q
      exact ⟨a, vs, ha, hS, upd_same, g⟩
    · obtain ⟨b, ws, b1, b2, b3, b4⟩ := h.own j zs q
      have nb : b ≠ a := fun z => n (h.sep j i _ _ b (ow q) (ow ho) b1 (by rw [z]; exact ha))
      exact ⟨b, ws, b1, b2, by rw [upd_ne nb]; exact b3, b4⟩
  · rcases get j _ hx with ⟨_, q⟩ | ⟨_, q⟩
    · cases q
    · obtain ⟨b, ws, b1, b2, b3⟩ := h.ro j k zs q
      refine ⟨b, ws, b1, b2.to (fun o e n => ?_) (fun _ z => ?_), b3⟩
      · rw [upd_ne (fun z => n ⟨i, _, ow ho, by rw [z]; exact ha⟩)]
        exact e
      · exact oa z
  · rcases get j _ h1.1 with ⟨rfl, _⟩ | ⟨n1, q1⟩
    · rcases get k _ h2.1 with ⟨rfl, _⟩ | ⟨n2, q2⟩
      · rfl
      · exact h.sep _ _ _ _ b (ow ho) ⟨q2, h2.2⟩ h3 h4
    · rcases get k _ h2.1 with ⟨rfl, _⟩ | ⟨n2, q2⟩
      · exact h.sep _ _ _ _ b ⟨q1, h1.2⟩ (ow ho) h3 h4
      · exact h.sep _ _ _ _ b ⟨q1, h1.2⟩ ⟨q2, h2.2⟩ h3 h4
  · refine h.vir.to (fun j s q l => ?_) (fun _ _ => rfl) (fun j k is c u q1 q2 q3 q4 => ⟨q3, ?_⟩) (fun d c q1 q2 n => ⟨q2, ?_, fun z => n (oa z)⟩)
    · rcases get j _ q with ⟨_, z⟩ | ⟨_, z⟩
      · rw [z] at l; cases l
      · exact ⟨z, rfl⟩
    · have n : j ≠ i := fun z => by rw [z, ho] at q1; cases q1
      rw [upd_ne (fun z => n (h.sep j i _ _ c ⟨q1, rfl⟩ (ow ho) q2 (by rw [z]; exact ha)))]
      exact q4
    · obtain ⟨a', ws, e1, _, e3, _⟩ := h.own i xs ho
      rw [ha] at e1
      cases e1
      rw [upd_ne (fun z => by rw [z, e3] at q1; cases q1)]
      exact q1
theorem Ext.put {i : Nat} {a : Addr} {xs ys : List D} {vs : List V} (h : Rel K B S H σ ρ) (ho : ρ[i]? = some (.own xs)) (ha : σ[i]? = some (some (.ref a))) : Ext σ S H ρ S (upd H a (.lst vs)) (ρ.set i (.own ys)) := by
  have hi : i < ρ.length := (List.getElem?_eq_some_iff.mp ho).1
  refine ⟨Same.refl _, fun b hb => ?_, fun _ _ q => q, fun b o e _ n => ?_, fun j => ?_, fun j n => ?_⟩
  · by_cases z : b = a
    · rw [z, upd_same]; simp
    · rw [upd_ne z]; exact hb
  · rw [upd_ne (fun z => n ⟨i, _, ow ho, by rw [z]; exact ha⟩)]
    exact e
  · by_cases e : j = i
    · subst e
      rw [List.getElem?_set_self hi]
      exact ⟨fun _ => ⟨_, rfl⟩, fun _ => ⟨_, ho⟩⟩
    · rw [List.getElem?_set_ne (fun z => e z.symm)]
  · have e : j ≠ i := fun e => n xs (by rw [e]; exact ho)
    rw [List.getElem?_set_ne (fun z => e z.symm)]
/-- a name of the def, as the thing that a method changes -/
def isOwn (ρ : R) (i : Nat) : Prop := ∃ xs, ρ[i]? = some (.own xs)
theorem few1 {cpos : Pos} {env : Env} (h : notStar e = true) : ((backTo cpos (starEach [e] env)).all (fun x => !x.1) && (backToKw cpos (keywordEach [] env)).all (fun x => x.1.isSome)
      && decide ([e].length + ([] : List Keyword).length + (if ([] : List Keyword).isEmpty then 0 else 1) < 30)) = true := by
  rw [star_cons h]
  rfl
/-- what is asked of a name at the head of a method's call -/
structure Nm (X : Cx) (i : Nat) (x : Str) : Prop where
  n : X.N[i]? = some x
  v : Vis X.env.scope x
  d : (x == ("__debug__" : Str)) = false
  c : (x == ("__classdict__" : Str)) = false
theorem Nm.pe {i : Nat} {x : Str} (h : Nm X i x) : PE X (.Name x p) (tVar i) := pe_var h.n h.v h.d h.c
def tApp (i : Nat) (te : VT) : VE := fun ρ Q => isOwn ρ i ∧ te ρ fun u ρ1 => match u, ρ1[i]? with
  | .val d, some (.own xs) => xs.length < sizeLine ∧ Q .none (ρ1.set i (.own (xs ++ [d])))
  | _, _ => False
theorem je_app {i : Nat} {x : Str} {apos : Pos} (hn : Nm X i x) (ha : JT X a ta) (hs : notStar a = true) (hl : (apos.endLine == pos.line) = true) : JE X (.Call (.Attribute (.Name x p) "append" apos) [a] [] pos) (tApp i ta) := by
  intro σ S H ρ Q hR ht
  obtain ⟨⟨zs, hz⟩, ht⟩ := ht
  obtain ⟨l, ws, l1, l2, l3, l4⟩ := hR.own i zs hz
  refine W.of (pe_bm PySem.F.plainAttrs_list PySem.F.slot_list_append PySem.F.type_list_append mt_append hn.pe (pa_cons peW pa_nil (star_cons hs)) rfl (few1 hs) hl (star_cons hs) rfl) ?_
  refine ⟨.ref l, l1, .inl ⟨rfl, _, SqL.of l3⟩, (ha σ S H ρ _ hR ht).mono fun v H1 q => ?_⟩
  obtain ⟨S1, ρ1, u, R1, E1, d1, q1⟩ := q
  split at q1
  · rename_i d xs e
    obtain ⟨b, vs, b1, b2, b3, b4⟩ := R1.own i xs e
    rw [l1] at b1
    cases b1
    refine ⟨l, vs, v, rfl, rfl, b3, by rw [rps_len b4]; exact q1.1, S1, _, _, R1.put e l1 (rps_app b4 (rps_one d1)), E1.trans (.put R1 e l1), .non, q1.2⟩
  · exact q1.elim
def tXtd (i : Nat) (te : VT) : VE := fun ρ Q => isOwn ρ i ∧ te ρ fun u ρ1 => match deref ρ1 u, ρ1[i]? with
  | some (.list ds), some (.own xs) => strict ρ1 u = true ∧ xs.length + ds.length ≤ sizeLine ∧ Q .none (ρ1.set i (.own (xs ++ ds)))
  | _, _ => False
theorem je_xtd {i : Nat} {x : Str} {apos : Pos} (hn : Nm X i x) (ha : JT X a ta) (hs : notStar a = true) (hl : (apos.endLine == pos.line) = true) : JE X (.Call (.Attribute (.Name x p) "extend" apos) [a] [] pos) (tXtd i ta) := by
  intro σ S H ρ Q hR ht
  obtain ⟨⟨zs, hz⟩, ht⟩ := ht
  obtain ⟨l, ws, l1, l2, l3, l4⟩ := hR.own i zs hz
  refine W.of (pe_bm PySem.F.plainAttrs_list PySem.F.slot_list_extend PySem.F.type_list_extend mt_extend hn.pe (pa_cons peW pa_nil (star_cons hs)) rfl (few1 hs) hl (star_cons hs) rfl) ?_
  refine ⟨.ref l, l1, .inl ⟨rfl, _, SqL.of l3⟩, (ha σ S H ρ _ hR ht).mono fun v H1 q => ?_⟩
  obtain ⟨S1, ρ1, u, R1, E1, d1, q1⟩ := q
  split at q1
  · rename_i ds xs e1 e
    obtain ⟨st, hz, q1⟩ := q1
    obtain ⟨b, vs, b1, b2, b3, b4⟩ := R1.own i xs e
    obtain ⟨p, us, rfl, c1, c2⟩ := d1.listS R1 e1 st
    rw [l1] at b1
    cases b1
    exact ⟨l, p, vs, us, rfl, rfl, b3, c1, by rw [rps_len b4, rps_len c2]; exact hz, S1, _, _, R1.put e l1 (rps_app b4 c2), E1.trans (.put R1 e l1), .non, q1⟩
  · exact q1.elim
def tPop (i : Nat) : VE := fun ρ Q => match ρ[i]? with
  | some (.own xs) => ∃ d, xs[xs.length - 1]? = some d ∧ Q d (ρ.set i (.own xs.dropLast))
  | _ => False
theorem je_pop {i : Nat} {x : Str} {apos : Pos} (hn : Nm X i x) (hl : (apos.endLine == pos.line) = true) : JE X (.Call (.Attribute (.Name x p) "pop" apos) [] [] pos) (tPop i) := by
  intro σ S H ρ Q hR ht
  unfold tPop at ht
  split at ht
  · rename_i xs e
    obtain ⟨l, vs, l1, l2, l3, l4⟩ := hR.own i xs e
    obtain ⟨d, hd, ht⟩ := ht
    obtain ⟨v, hv, hr⟩ := rps_get l4 hd
    refine W.of (pe_bm0 PySem.F.plainAttrs_list PySem.F.slot_list_pop PySem.F.type_list_pop mt_pop hn.pe rfl hl) ?_
    refine ⟨.ref l, l1, .inl ⟨rfl, _, SqL.of l3⟩, l, vs, v, rfl, rfl, l3, by rw [rps_len l4]; exact hv, S, _, d, hR.put e l1 (rps_dropLast l4), .put hR e l1, hr, ht⟩
  · exact ht.elim
def tPopAt (i : Nat) (te : VT) : VE := fun ρ Q => isOwn ρ i ∧ te ρ fun u ρ1 => match deref ρ1 u, ρ1[i]? with
  | some (.int k), some (.own xs) => -(2 ^ 63) ≤ k ∧ k < 2 ^ 63 ∧ ∃ j d, seqIndex? k xs.length = some j ∧ xs[j]? = some d ∧ Q d (ρ1.set i (.own (xs.eraseIdx j)))
  | _, _ => False
theorem je_popAt {i : Nat} {x : Str} {apos : Pos} (hn : Nm X i x) (ha : JT X a ta) (hs : notStar a = true) (hl : (apos.endLine == pos.line) = true) : JE X (.Call (.Attribute (.Name x p) "pop" apos) [a] [] pos) (tPopAt i ta) := by
  intro σ S H ρ Q hR ht
  obtain ⟨⟨zs, hz⟩, ht⟩ := ht
  obtain ⟨l, ws, l1, l2, l3, l4⟩ := hR.own i zs hz
  refine W.of (pe_bm PySem.F.plainAttrs_list PySem.F.slot_list_pop PySem.F.type_list_pop mt_popAt hn.pe (pa_cons peW pa_nil (star_cons hs)) rfl (few1 hs) hl (star_cons hs) rfl) ?_
  refine ⟨.ref l, l1, .inl ⟨rfl, _, SqL.of l3⟩, (ha σ S H ρ _ hR ht).mono fun v H1 q => ?_⟩
  obtain ⟨S1, ρ1, u, R1, E1, d1, q1⟩ := q
  split at q1
  · rename_i k xs e1 e
    obtain ⟨h1, h2, q1⟩ := q1
    obtain ⟨b, vs, b1, b2, b3, b4⟩ := R1.own i xs e
    rw [l1] at b1
    cases b1
    obtain ⟨j, d, hj, hd, q1⟩ := q1
    obtain ⟨y, hy, hr⟩ := rps_get b4 hd
    refine ⟨l, vs, k, j, y, rfl, by rw [d1.int e1], b3, h1, h2, by rw [rps_len b4]; exact hj, hy, S1, _, d, R1.put e l1 (rps_erase j b4), E1.trans (.put R1 e l1), hr, q1⟩
  · exact q1.elim
def tRev (i : Nat) : VE := fun ρ Q => match ρ[i]? with
  | some (.own xs) => Q .none (ρ.set i (.own xs.reverse))
  | _ => False
theorem je_rev {i : Nat} {x : Str} {apos : Pos} (hn : Nm X i x) (hl : (apos.endLine == pos.line) = true) : JE X (.Call (.Attribute (.Name x p) "reverse" apos) [] [] pos) (tRev i) := by
  intro σ S H ρ Q hR ht
  unfold tRev at ht
  split at ht
  · rename_i xs e
    obtain ⟨l, vs, l1, l2, l3, l4⟩ := hR.own i xs e
    refine W.of (pe_bm0 PySem.F.plainAttrs_list PySem.F.slot_list_reverse PySem.F.type_list_reverse mt_reverse hn.pe rfl hl) ?_
    exact ⟨.ref l, l1, .inl ⟨rfl, _, SqL.of l3⟩, l, vs, rfl, rfl, l3, S, _, .none, hR.put e l1 (rps_rev l4), .put hR e l1, .non, ht⟩
  · exact ht.elim
def tClr (i : Nat) : VE := fun ρ Q => match ρ[i]? with
  | some (.own xs) => Q .none (ρ.set i (.own []))
  | _ => False
theorem je_clr {i : Nat} {x : Str} {apos : Pos} (hn : Nm X i x) (hl : (apos.endLine == pos.line) = true) : JE X (.Call (.Attribute (.Name x p) "clear" apos) [] [] pos) (tClr i) := by
  intro σ S H ρ Q hR ht
  unfold tClr at ht
  split at ht
  · rename_i xs e
    obtain ⟨l, vs, l1, l2, l3, l4⟩ := hR.own i xs e
    refine W.of (pe_bm0 PySem.F.plainAttrs_list PySem.F.slot_list_clear PySem.F.type_list_clear mt_clear hn.pe rfl hl) ?_
    exact ⟨.ref l, l1, .inl ⟨rfl, _, SqL.of l3⟩, l, vs, rfl, rfl, l3, S, _, .none, hR.put e l1 .nil, .put hR e l1, .non, ht⟩
  · exact ht.elim
/-! ### sep.join(xs) -/
def tJoin (ta tb : VT) : VE := fun ρ Q => ta ρ fun u ρ1 => (∃ z, deref ρ1 u = some (.str z)) ∧ tb ρ1 fun w ρ2 => match deref ρ2 u, deref ρ2 w with
  | some (.str z), some (.list xs) => ∃ ys : List Str, xs = ys.map PyData.str ∧ (ys.map (·.length)).sum + ys.length * z.length ≤ 16777216 ∧ Q (.str (Txt.join z ys)) ρ2
  | _, _ => False
theorem je_join {apos : Pos} (ha : JT X a ta) (hb : JT X b tb) (hs : notStar b = true) (hba : attributeBase a "join" X.env (eval a X.env) = eval a X.env) (hl : (apos.endLine == pos.line) = true) : JE X (.Call (.Attribute a "join" apos) [b] [] pos) (tJoin ta tb) := by
  intro σ S H ρ Q hR ht
  refine W.of (pe_join peW peW (star_cons hs) hba hl) ((ha σ S H ρ _ hR ht).mono fun v H1 q => ?_)
  obtain ⟨S1, ρ1, u, R1, E1, d1, ⟨z0, e0⟩, q1⟩ := q
  refine ⟨⟨z0, d1.str e0⟩, (hb σ S1 H1 ρ1 _ R1 q1).mono fun w H2 q => ?_⟩
  obtain ⟨S2, ρ2, t, R2, E2, d2, q2⟩ := q
  split at q2
  · rename_i z xs e1 e2
    obtain ⟨ys, rfl, hz, q2⟩ := q2
    obtain ⟨p, vs, rfl, c1, c2⟩ := d2.list R2 e2
    have e := rps_strs c2
    subst e
    exact ⟨z, p, ys, ARep.str (d1.mono E2.same) e1, rfl, .inl c1, hz, S2, ρ2, _, R2, E1.trans E2, .str _, q2⟩
  · exact q2.elim
end
end WA

/-! WA6: what is walked, list comprehensions. -/
namespace WA
open PySem PySem.Spec PyProof.Rows L2

/-! ### targets -/
inductive Tg where
  | one (i : Nat)
  | two (i j : Nat)
def Tg.ix : Tg → List Nat
  | .one i => [i]
  | .two i j => [i, j]
def putT (ρ : R) : Tg → List D → Option R
  | .one i, [x] => some (ρ.set i (.v x))
  | .two i j, [x, y] => some ((ρ.set i (.v x)).set j (.v y))
  | _, _ => none
def gT (K : PySem.W.Frag) : Tg → TG
  | .one i => gName i
  | .two i j => gTup K 2 (gCons (gName i) (gCons (gName j) gNil))
/-- what a turn gives: a value, or a new pair -/
inductive ItemR (S H : Hp) : Bool → V → Hp → List D → Prop where
  | one {v : V} {d : D} : Rp S v d → ItemR S H false v H [d]
  | two {T : Addr} {ws : List V} {ds : List D} : H T = none → RpAll S ws ds → ItemR S H true (.ref T) (upd H T (.tup ws)) ds
def Tg.pair : Tg → Bool
  | .one _ => false
  | .two _ _ => true
section
variable {K : PySem.W.Frag} {B : Nat} {S H : Hp} {σ : L2.St} {ρ : R}
theorem get_set {α : Type} {l : List α} {i j : Nat} {x y : α} (h : (l.set i x)[j]? = some y) : (j = i ∧ y = x ∧ i < l.length) ∨ (j ≠ i ∧ l[j]? = some y) := by
  by_cases e : j = i
  · subst e
    by_cases hi : j < l.length
    · rw [List.getElem?_set_self hi] at h
      exact .inl ⟨rfl, (Option.some.inj h).symm, hi⟩
    · rw [List.getElem?_eq_none (by rw [List.length_set]; omega)] at h
      cases h
  · rw [List.getElem?_set_ne (fun z => e z.symm)] at h
    exact .inr ⟨e, h⟩
/-- what a slot's change leaves of the things that lean on others -/
theorem VRel.set {i : Nat} {v : Option V} {s : Sl} (h : VRel B S H σ ρ) (hi : i < B) (hs : s.leans = false) (ho : ∀ b, OwnAt (σ.set i v) (ρ.set i s) b → H b ≠ none → OwnAt σ ρ b) : VRel B S H (σ.set i v) (ρ.set i s) := by
  refine h.to (fun j t q l => ?_) (fun m hm => List.getElem?_set_ne (by omega)) (fun _ _ _ _ _ _ _ q1 q2 => ⟨q1, q2⟩) (fun d c q1 q2 n => ⟨q2, q1, fun z => n (ho d z (by rw [q1]; simp))⟩)
  rcases get_set q with ⟨rfl, q, _⟩ | ⟨n, q⟩
  · rw [q, hs] at l
    cases l
  · exact ⟨q, List.getElem?_set_ne (fun z => n z.symm)⟩
/-- a slot that owns nothing, given anew -/
theorem own_set {i : Nat} {v : Option V} {s : Sl} (hs : s.owns = false) {b : Addr} (z : OwnAt (σ.set i v) (ρ.set i s) b) : OwnAt σ ρ b := by
  obtain ⟨m, us, hm, e⟩ := z
  rcases get_set hm.1 with ⟨rfl, q', _⟩ | ⟨n', q'⟩
  · have := hm.2
    rw [q', hs] at this
    cases this
  · rw [List.getElem?_set_ne (fun z => n' z.symm)] at e
    exact ⟨m, us, ⟨q', hm.2⟩, e⟩
theorem sep_set {i : Nat} {v : Option V} {s : Sl} (hs : s.owns = false) (h : Rel K B S H σ ρ) {j k : Nat} {t u : Sl} {b : Addr} (h1 : Ow (ρ.set i s) j t) (h2 : Ow (ρ.set i s) k u) (h3 : (σ.set i v)[j]? = some (some (.ref b))) (h4 : (σ.set i v)[k]? = some (some (.ref b))) : j = k := by
  rcases get_set h1.1 with ⟨rfl, q, _⟩ | ⟨n1, q1⟩
  · have := h1.2
    rw [q, hs] at this
    cases this
  · rcases get_set h2.1 with ⟨rfl, q, _⟩ | ⟨n2, q2⟩
    · have := h2.2
      rw [q, hs] at this
      cases this
    · rw [List.getElem?_set_ne (fun z => n1 z.symm)] at h3
      rw [List.getElem?_set_ne (fun z => n2 z.symm)] at h4
      exact h.sep _ _ _ _ b ⟨q1, h1.2⟩ ⟨q2, h2.2⟩ h3 h4
/-- a slot is given a value -/
theorem Rel.setv {i : Nat} {v : V} {d : D} (h : Rel K B S H σ ρ) (hi : i < B) (hv : Rp S v d) : Rel K B S H (σ.set i (some v)) (ρ.set i (.v d)) := by
  refine ⟨by rw [List.length_set, List.length_set]; exact h.len, h.sub, fun j x hx => ?_, fun j zs hx => ?_, fun j k zs hx => ?_, fun j k s t b h1 h2 h3 h4 => sep_set rfl h h1 h2 h3 h4, h.vir.set hi rfl fun b z _ => own_set rfl z⟩
  · rcases get_set hx with ⟨rfl, q, hi⟩ | ⟨n, q⟩
    · cases q
      exact ⟨v, List.getElem?_set_self (by rw [h.len]; exact hi), hv⟩
    · obtain ⟨w, h1, h2⟩ := h.val j x q
      exact ⟨w, by rw [List.getElem?_set_ne (fun z => n z.symm)]; exact h1, h2⟩
  · rcases get_set hx with ⟨rfl, q, hi⟩ | ⟨n, q⟩
    · cases q
    · obtain ⟨b, ws, b1, b2, b3, b4⟩ := h.own j zs q
      exact ⟨b, ws, by rw [List.getElem?_set_ne (fun z => n z.symm)]; exact b1, b2, b3, b4⟩
  · rcases get_set hx with ⟨rfl, q, hi⟩ | ⟨n, q⟩
    · cases q
    · obtain ⟨b, ws, b1, b2, b3⟩ := h.ro j k zs q
      exact ⟨b, ws, by rw [List.getElem?_set_ne (fun z => n z.symm)]; exact b1, b2.to (fun o e _ => e) (fun _ z => own_set rfl z), b3⟩
theorem tgt_ok {tg : Tg} {v : V} {H' : Hp} {x : List D} {ρ1 : R} {Q : L2.St → Hp → Prop} (R : Rel K B S H σ ρ) (it : ItemR S H tg.pair v H' x) (hp : putT ρ tg x = some ρ1) (htg : ∀ i ∈ tg.ix, i < B)
    (h : ∀ σ1, Rel K B S H' σ1 ρ1 → (∀ i : Nat, i ∉ tg.ix → σ1[i]? = σ[i]?) → σ1.length = σ.length → Q σ1 H') : gT K tg v σ H' Q := by
  cases tg with
  | one i =>
    cases it with
    | one hv =>
      cases hp
      refine h _ (R.setv (htg i (by simp [Tg.ix])) hv) (fun j hj => List.getElem?_set_ne (fun z => hj (by simp [Tg.ix, z]))) (by rw [List.length_set])
  | two i j =>
    cases it with
    | two hT g =>
      match x, hp with
      | [a, b], hp =>
        cases hp
        cases g with
        | cons g1 g =>
          cases g with
          | cons g2 g =>
            cases g
            refine ⟨_, _, rfl, .of upd_same, rfl, _, _, rfl, _, _, rfl, rfl, ?_⟩
            refine h _ (((R.new0 hT).setv (htg i (by simp [Tg.ix])) g1).setv (htg j (by simp [Tg.ix])) g2) (fun k hk => ?_) (by rw [List.length_set, List.length_set])
            rw [List.getElem?_set_ne (fun z => hk (by simp [Tg.ix, z])), List.getElem?_set_ne (fun z => hk (by simp [Tg.ix, z]))]
      | [], hp => cases hp
      | [_], hp => cases hp
      | _ :: _ :: _ :: _, hp => cases hp
end

/-! ### what is walked -/
/-- the items of a walk over lists that stand at as -/
def Serves (K : PySem.W.Frag) (pr : Bool) (J : It) (as : List (Addr × List D)) (its : List (List D)) : Prop := ∀ S H : Hp, (∀ p ∈ as, ∃ vs, SqL K H p.1 vs ∧ RpAll S vs p.2) →
  J.stop its.length H ∧ ∀ (i : Nat) (x : List D), its[i]? = some x → J.go i H ∧ ∀ v H', J.yld i H v H' → ItemR S H pr v H' x
abbrev VI := R → (List (List D) → List (Nat × List D) → R → Prop) → Prop
def guardR (gs : List (Nat × List D)) (ρ : R) : Prop := ∀ p ∈ gs, deref ρ (.slot p.1) = some (.list p.2)
def Linked (S : Hp) (σ : L2.St) (gs : List (Nat × List D)) (as : List (Addr × List D)) : Prop := ∀ p ∈ as, (∃ vs, S p.1 = some (.lst vs) ∧ RpAll S vs p.2) ∨ ∃ i : Nat, (i, p.2) ∈ gs ∧ σ[i]? = some (some (.ref p.1))
theorem linked_now {K : PySem.W.Frag} {B : Nat} {S S' H' : Hp} {σ σ' : L2.St} {ρ' : R} {gs : List (Nat × List D)} {as : List (Addr × List D)} (L : Linked S σ gs as) (R : Rel K B S' H' σ' ρ') (e : Same S S') (g : guardR gs ρ') (hσ : ∀ p ∈ gs, σ'[p.1]? = σ[p.1]?) : ∀ p ∈ as, ∃ vs, SqL K H' p.1 vs ∧ RpAll S' vs p.2 := by
  intro p hp
  rcases L p hp with ⟨vs, h1, h2⟩ | ⟨i, h1, h2⟩
  · exact ⟨vs, .of (R.sub _ _ (e _ _ h1)), h2.mono e⟩
  · have r : ARep K S' σ' (.ref p.1) (.slot i) := by
      show σ'[i]? = _
      rw [hσ _ h1]
      exact h2
    obtain ⟨q, vs, e1, e2, e3⟩ := r.list R (g _ h1)
    cases e1
    exact ⟨vs, e2, e3⟩
def WIt (X : Cx) (tg iter : Expr) : TI := fun σ H Q => ∀ (pins : List (Addr × Obj)) (s : Shared), Inv X pins σ H s →
    wpAny (model X.prog X.w) X.A (eval iter X.env) (fun v s1 => wpAny (model X.prog X.w) X.A (pyIter v) (PIE X pins σ tg Q) X.xe s1) X.xe s
def PostI (X : Cx) (pr : Bool) (σ : L2.St) (S H : Hp) (ρ : R) (Q : List (List D) → List (Nat × List D) → R → Prop) : It → Hp → Prop := fun J H' => ∃ S' ρ' its gs as, Rel X.K (bd X) S' H' σ ρ' ∧ Ext σ S H ρ S' H' ρ' ∧ Serves X.K pr J as its ∧ Linked S' σ gs as ∧ Q its gs ρ'
def JI (X : Cx) (pr : Bool) (tg iter : Expr) (t : VI) : Prop := ∀ σ S H ρ Q, Rel X.K (bd X) S H σ ρ → t ρ Q → WIt X tg iter σ H (PostI X pr σ S H ρ Q)
section
variable {X : Cx} {pos p : Pos} {tg e a b : Expr} {ta tb : VT} {σ : L2.St} {S H : Hp} {ρ : R} {K : PySem.W.Frag} {B : Nat}
theorem piW {iter : Expr} : PI X tg iter (WIt X tg iter) := ⟨fun pins s _ _ _ I h => h pins s I⟩
theorem WIt.of {iter : Expr} {t : TI} {Q : It → Hp → Prop} (h : PI X tg iter t) (ht : t σ H Q) : WIt X tg iter σ H Q := fun pins s I => h.run pins s σ H Q I ht
theorem WIt.mono {iter : Expr} {Q Q' : It → Hp → Prop} (h : WIt X tg iter σ H Q) (hq : ∀ v H', Q v H' → Q' v H') : WIt X tg iter σ H Q' := fun pins s I =>
  thn (h pins s I) fun _ _ h1 => thn h1 fun _ _ ⟨it, fp, tn, J, H', e1, I', T, t0, f, q⟩ => ⟨it, fp, tn, J, H', e1, I', T, t0, f, hq J H' q⟩
/-- an operand's place and its guard -/
def gsOf (u : AV) (xs : List D) : List (Nat × List D) := match u with
  | .val _ => []
  | .slot i => [(i, xs)]
theorem linked_of {v : V} {u : AV} {xs : List D} (R : Rel K B S H σ ρ) (d : ARep K S σ v u) (e : deref ρ u = some (.list xs)) : ∃ q, v = .ref q ∧ Linked S σ (gsOf u xs) [(q, xs)] ∧ ∃ vs, SqL K H q vs ∧ RpAll S vs xs := by
  obtain ⟨q, vs, rfl, e2, e3⟩ := d.list R e
  refine ⟨q, rfl, fun p hp => ?_, vs, e2, e3⟩
  have hp : p = (q, xs) := by simpa using hp
  subst hp
  cases u with
  | val x =>
    cases e
    have d : Rp S (.ref q) (.list xs) := d
    cases d with
    | lst h1 h2 => exact .inl ⟨_, h1, h2⟩
  | slot i => exact .inr ⟨i, by simp [gsOf], d⟩
/-! lists, tuples, texts -/
def tIt (ta : VT) : VI := fun ρ Q => ta ρ fun u ρ1 => match deref ρ1 u with
  | some (.list xs) => Q (xs.map fun x => [x]) (gsOf u xs) ρ1
  | _ => False
theorem serves_list {q : Addr} {xs : List D} : Serves K false (Itl K q) [(q, xs)] (xs.map fun x => [x]) := by
  intro S H h
  obtain ⟨vs, h1, h2⟩ := h (q, xs) (by simp)
  refine ⟨⟨vs, h1, by rw [List.length_map, rps_len h2]; exact Nat.le_refl _⟩, fun i x hx => ?_⟩
  rw [List.getElem?_map] at hx
  cases hd : xs[i]? with
  | none => rw [hd] at hx; cases hx
  | some d =>
    rw [hd] at hx
    cases hx
    obtain ⟨v, hv, hr⟩ := rps_get h2 hd
    refine ⟨⟨vs, v, h1, hv⟩, fun w H' y => ?_⟩
    obtain ⟨rfl, y⟩ := y
    have e := (y vs h1).symm.trans hv
    cases e
    exact .one hr
theorem ji_list (ha : JT X a ta) : JI X false tg a (tIt ta) := by
  intro σ S H ρ Q hR ht
  refine WIt.of (pi_list peW) ((ha σ S H ρ _ hR ht).mono fun v H1 q => ?_)
  obtain ⟨S1, ρ1, u, R1, E1, d1, q1⟩ := q
  split at q1
  · rename_i xs e
    obtain ⟨q, rfl, L, vs, h1, h2⟩ := linked_of R1 d1 e
    exact ⟨q, rfl, ⟨vs, h1⟩, S1, ρ1, _, _, _, R1, E1, serves_list, L, q1⟩
  · exact q1.elim
def tItS (ta : VT) : VI := fun ρ Q => ta ρ fun u ρ1 => match deref ρ1 u with
  | some (.str z) => Q (z.cps.toList.map fun c => [PyData.str ⟨#[c]⟩]) [] ρ1
  | _ => False
theorem serves_str {z : Str} : Serves K false (Its z) [] (z.cps.toList.map fun c => [PyData.str ⟨#[c]⟩]) := by
  intro S H _
  refine ⟨by rw [List.length_map, Array.length_toList]; exact Nat.le_refl _, fun i x hx => ?_⟩
  rw [List.getElem?_map] at hx
  cases hd : z.cps.toList[i]? with
  | none => rw [hd] at hx; cases hx
  | some c =>
    rw [hd] at hx
    cases hx
    have hd' : z.cps[i]? = some c := by rw [← Array.getElem?_toList]; exact hd
    refine ⟨(Array.getElem?_eq_some_iff.mp hd').1, fun w H' y => ?_⟩
    obtain ⟨rfl, c', h1, rfl⟩ := y
    rw [hd'] at h1
    cases h1
    exact .one (.str _)
theorem ji_str (ha : JT X a ta) : JI X false tg a (tItS ta) := by
  intro σ S H ρ Q hR ht
  refine WIt.of (pi_str peW) ((ha σ S H ρ _ hR ht).mono fun v H1 q => ?_)
  obtain ⟨S1, ρ1, u, R1, E1, d1, q1⟩ := q
  split at q1
  · rename_i z e
    exact ⟨z, d1.str e, S1, ρ1, _, _, _, R1, E1, serves_str, fun p hp => absurd hp (by simp), q1⟩
  · exact q1.elim
/-! range -/
def rangeD (lo : Int) (n : Nat) : List (List D) := (List.range n).map fun i => [PyData.int (lo + (i : Nat))]
theorem serves_range {lo : Int} {n : Nat} : Serves K false (Itr lo n) [] (rangeD lo n) := by
  intro S H _
  refine ⟨by rw [rangeD, List.length_map, List.length_range]; exact Nat.le_refl _, fun i x hx => ?_⟩
  rw [rangeD, List.getElem?_map] at hx
  by_cases hi : i < n
  · rw [List.getElem?_range hi] at hx
    cases hx
    refine ⟨hi, fun w H' y => ?_⟩
    obtain ⟨rfl, rfl⟩ := y
    exact .one (.int _)
  · rw [List.getElem?_eq_none (by rw [List.length_range]; omega)] at hx
    cases hx
def tRng1 (ta : VT) : VI := fun ρ Q => ta ρ fun u ρ1 => match deref ρ1 u with
  | some (.int j) => -(2 ^ 62) ≤ j ∧ j < 2 ^ 62 ∧ Q (rangeD 0 j.toNat) [] ρ1
  | _ => False
theorem ji_rng1 (hg : Gl X "range") (hm : X.mg "range" = none) (ha : JT X a ta) (hs : notStar a = true) : JI X false tg (.Call (.Name "range" p) [a] [] pos) (tRng1 ta) := by
  intro σ S H ρ Q hR ht
  refine WIt.of (pi_range1 hg hm (pa_cons peW pa_nil (star_cons hs)) (star_cons hs)) ((ha σ S H ρ _ hR ht).mono fun v H1 q => ?_)
  obtain ⟨S1, ρ1, u, R1, E1, d1, q1⟩ := q
  split at q1
  · rename_i j e
    exact ⟨j, by rw [d1.int e], q1.1, q1.2.1, S1, ρ1, _, _, _, R1, E1, serves_range, fun p hp => absurd hp (by simp), q1.2.2⟩
  · exact q1.elim
def tRng2 (ta tb : VT) : VI := fun ρ Q => ta ρ fun u ρ1 => tb ρ1 fun w ρ2 => match deref ρ2 u, deref ρ2 w with
  | some (.int i), some (.int j) => (-(2 ^ 62) ≤ i ∧ i < 2 ^ 62 ∧ -(2 ^ 62) ≤ j ∧ j < 2 ^ 62) ∧ Q (rangeD i (j - i).toNat) [] ρ2
  | _, _ => False
theorem ji_rng2 (hg : Gl X "range") (hm : X.mg "range" = none) (ha : JT X a ta) (hb : JT X b tb) (hs : notStar a = true) (hs2 : notStar b = true) : JI X false tg (.Call (.Name "range" p) [a, b] [] pos) (tRng2 ta tb) := by
  intro σ S H ρ Q hR ht
  have e1 : starEach [a, b] X.env = [(false, eval a X.env), (false, eval b X.env)] := by rw [star_cons hs, star_cons hs2]; rfl
  refine WIt.of (pi_range2 hg hm (pa_cons peW (pa_cons peW pa_nil (star_cons hs2)) (star_cons hs)) e1 (star_cons hs2)) (two hR ha hb ht fun v w H2 S2 ρ2 u z R2 E d1 d2 q => ?_)
  split at q
  · rename_i i j e1 e2
    exact ⟨i, j, by rw [d1.int e1, d2.int e2], q.1, S2, ρ2, _, _, _, R2, E, serves_range, fun p hp => absurd hp (by simp), q.2⟩
  · exact q.elim
/-! enumerate, zip of lists -/
def enumD (xs : List D) : List (List D) := (List.range xs.length).map fun i => [PyData.int (i : Nat), xs.getD i .none]
theorem serves_enum {q : Addr} {xs : List D} : Serves K true (Ite K q) [(q, xs)] (enumD xs) := by
  intro S H h
  obtain ⟨vs, h1, h2⟩ := h (q, xs) (by simp)
  refine ⟨⟨vs, h1, by rw [enumD, List.length_map, List.length_range, rps_len h2]; exact Nat.le_refl _⟩, fun i x hx => ?_⟩
  rw [enumD, List.getElem?_map] at hx
  by_cases hi : i < xs.length
  · rw [List.getElem?_range hi] at hx
    cases hx
    have hd : xs[i]? = some (xs.getD i .none) := by rw [List.getElem?_eq_getElem hi, List.getD_eq_getElem?_getD, List.getElem?_eq_getElem hi]; rfl
    obtain ⟨v, hv, hr⟩ := rps_get h2 hd
    refine ⟨⟨vs, v, h1, hv⟩, fun w H' y => ?_⟩
    obtain ⟨T, z, rfl, hT, rfl, hz⟩ := y
    have e := (hz vs h1).symm.trans hv
    cases e
    exact .two hT (.cons (.int _) (.cons hr .nil))
  · rw [List.getElem?_eq_none (by rw [List.length_range]; omega)] at hx
    cases hx
def tEnum (ta : VT) : VI := fun ρ Q => ta ρ fun u ρ1 => match deref ρ1 u with
  | some (.list xs) => Q (enumD xs) (gsOf u xs) ρ1
  | _ => False
theorem ji_enum {elts : List Expr} {kk : Nat} {tpos : Pos} (hg : Gl X "enumerate") (hm : X.mg "enumerate" = none) (ha : JT X a ta) (hs : notStar a = true) : JI X true (.Tuple elts kk tpos) (.Call (.Name "enumerate" p) [a] [] pos) (tEnum ta) := by
  intro σ S H ρ Q hR ht
  refine WIt.of (pi_enum hg hm (pa_cons peW pa_nil (star_cons hs)) (star_cons hs)) ((ha σ S H ρ _ hR ht).mono fun v H1 q => ?_)
  obtain ⟨S1, ρ1, u, R1, E1, d1, q1⟩ := q
  split at q1
  · rename_i xs e
    obtain ⟨q, rfl, L, vs, h1, h2⟩ := linked_of R1 d1 e
    exact ⟨q, vs, rfl, h1, S1, ρ1, _, _, _, R1, E1, serves_enum, L, q1⟩
  · exact q1.elim
def zipD (xs ys : List D) : List (List D) := (xs.zip ys).map fun p => [p.1, p.2]
theorem serves_zip {q r : Addr} {xs ys : List D} : Serves K true (Itz K q r) [(q, xs), (r, ys)] (zipD xs ys) := by
  intro S H h
  obtain ⟨vs, h1, h2⟩ := h (q, xs) (by simp)
  obtain ⟨ws, g1, g2⟩ := h (r, ys) (by simp)
  refine ⟨⟨vs, ws, h1, g1, ?_⟩, fun i x hx => ?_⟩
  · have l1 : vs.length = xs.length := rps_len h2
    have l2 : ws.length = ys.length := rps_len g2
    rw [zipD, List.length_map, List.length_zip]
    omega
  · rw [zipD, List.getElem?_map] at hx
    cases hz : (xs.zip ys)[i]? with
    | none => rw [hz] at hx; cases hx
    | some pr =>
      rw [hz] at hx
      cases hx
      obtain ⟨hx, hy⟩ := List.getElem?_zip_eq_some.mp hz
      obtain ⟨v, hv, hr⟩ := rps_get h2 hx
      obtain ⟨w, hw, hr'⟩ := rps_get g2 hy
      refine ⟨⟨vs, ws, v, w, h1, g1, hv, hw⟩, fun u H' y => ?_⟩
      obtain ⟨T, x1, y1, rfl, hT, rfl, hz1, hz2⟩ := y
      have e := (hz1 vs h1).symm.trans hv
      cases e
      have e := (hz2 ws g1).symm.trans hw
      cases e
      exact .two hT (.cons hr (.cons hr' .nil))
def tZip (ta tb : VT) : VI := fun ρ Q => ta ρ fun u ρ1 => tb ρ1 fun w ρ2 => match deref ρ2 u, deref ρ2 w with
  | some (.list xs), some (.list ys) => Q (zipD xs ys) (gsOf u xs ++ gsOf w ys) ρ2
  | _, _ => False
theorem linked_app {gs gs' : List (Nat × List D)} {as as' : List (Addr × List D)} (h : Linked S σ gs as) (h' : Linked S σ gs' as') : Linked S σ (gs ++ gs') (as ++ as') := by
  intro p hp
  rcases List.mem_append.mp hp with q | q
  · rcases h p q with z | ⟨i, z1, z2⟩
    · exact .inl z
    · exact .inr ⟨i, List.mem_append_left _ z1, z2⟩
  · rcases h' p q with z | ⟨i, z1, z2⟩
    · exact .inl z
    · exact .inr ⟨i, List.mem_append_right _ z1, z2⟩
theorem ji_zip {elts : List Expr} {kk : Nat} {tpos : Pos} (hg : Gl X "zip") (hm : X.mg "zip" = none) (ha : JT X a ta) (hb : JT X b tb) (hs : notStar a = true) (hs2 : notStar b = true) : JI X true (.Tuple elts kk tpos) (.Call (.Name "zip" p) [a, b] [] pos) (tZip ta tb) := by
  intro σ S H ρ Q hR ht
  refine WIt.of (pi_zip hg hm (pa_cons peW (pa_cons peW pa_nil (star_cons hs2)) (star_cons hs)) (star_cons hs) (star_none (by simp [hs2]))) (two hR ha hb ht fun v w H2 S2 ρ2 u z R2 E d1 d2 q => ?_)
  split at q
  · rename_i xs ys e1 e2
    obtain ⟨q1, rfl, L1, vs, h1, h2⟩ := linked_of R2 d1 e1
    obtain ⟨q2, rfl, L2, ws, g1, g2⟩ := linked_of R2 d2 e2
    exact ⟨q1, q2, vs, ws, rfl, h1, g1, S2, ρ2, _, _, [(q1, xs), (q2, ys)], R2, E, serves_zip, linked_app L1 L2, q⟩
  · exact q.elim
end
end WA

/-! WA7: list comprehensions. -/
namespace WA
open PySem PySem.Spec PyProof.Rows L2

def wipeR (ρ : R) : List Nat → R
  | [] => ρ
  | v :: vs => (wipeR ρ vs).set v .no
def backR (ρ ρ' : R) : List Nat → R
  | [] => ρ'
  | v :: vs => (backR ρ ρ' vs).set v (ρ.getD v .no)
/-- slots that may be lent to a comprehension -/
def lent (ρ : R) (vs : List Nat) : Bool := vs.all fun i => match ρ[i]? with
  | some .no => true
  | some (.v _) => true
  | _ => false
theorem wipeR_len (ρ : R) : ∀ vs : List Nat, (wipeR ρ vs).length = ρ.length
  | [] => rfl
  | v :: vs => by unfold wipeR; rw [List.length_set, wipeR_len ρ vs]
theorem backR_len (ρ ρ' : R) : ∀ vs : List Nat, (backR ρ ρ' vs).length = ρ'.length
  | [] => rfl
  | v :: vs => by unfold backR; rw [List.length_set, backR_len ρ ρ' vs]
theorem wipeR_out {ρ : R} {i : Nat} : ∀ {vs : List Nat}, i ∉ vs → (wipeR ρ vs)[i]? = ρ[i]?
  | [], _ => rfl
  | v :: vs, h => by
    unfold wipeR
    rw [List.getElem?_set_ne (fun z => h (by simp [z])), wipeR_out (fun z => h (List.mem_cons_of_mem _ z))]
theorem wipeR_in {ρ : R} {i : Nat} {x : Sl} : ∀ {vs : List Nat}, (wipeR ρ vs)[i]? = some x → i ∈ vs → x = .no
  | v :: vs, h, hm => by
    unfold wipeR at h
    rcases get_set h with ⟨_, q, _⟩ | ⟨n, q⟩
    · exact q
    · rcases List.mem_cons.mp hm with z | z
      · exact absurd z n
      · exact wipeR_in q z
theorem wipe_out2 {σ : L2.St} {i : Nat} : ∀ {vs : List Nat}, i ∉ vs → (wipe σ vs)[i]? = σ[i]?
  | [], _ => rfl
  | v :: vs, h => by
    unfold wipe
    rw [List.getElem?_set_ne (fun z => h (by simp [z])), wipe_out2 (fun z => h (List.mem_cons_of_mem _ z))]
theorem backR_out {ρ ρ' : R} {i : Nat} : ∀ {vs : List Nat}, i ∉ vs → (backR ρ ρ' vs)[i]? = ρ'[i]?
  | [], _ => rfl
  | v :: vs, h => by
    unfold backR
    rw [List.getElem?_set_ne (fun z => h (by simp [z])), backR_out (fun z => h (List.mem_cons_of_mem _ z))]
theorem backR_in {ρ ρ' : R} {i : Nat} (hl : ρ.length = ρ'.length) : ∀ {vs : List Nat}, i ∈ vs → (backR ρ ρ' vs)[i]? = ρ[i]?
  | v :: vs, h => by
    unfold backR
    by_cases e : i = v
    · subst e
      by_cases hi : i < ρ.length
      · rw [List.getElem?_set_self (by rw [backR_len, ← hl]; exact hi), List.getD_eq_getElem?_getD, List.getElem?_eq_getElem hi]
        rfl
      · rw [List.getElem?_eq_none (by rw [List.length_set, backR_len, ← hl]; omega), List.getElem?_eq_none (by omega)]
    · rw [List.getElem?_set_ne (fun z => e z.symm)]
      rcases List.mem_cons.mp h with z | z
      · exact absurd z e
      · exact backR_in hl z
section
variable {K : PySem.W.Frag} {B : Nat} {S H S1 H1 S2 H2 : Hp} {σ : L2.St} {ρ ρ1 ρ2 : R} {vs : List Nat}
theorem lent_at (h : lent ρ vs = true) {i : Nat} (hi : i ∈ vs) : ρ[i]? = some .no ∨ ∃ x, ρ[i]? = some (.v x) := by
  have q := List.all_eq_true.mp h i hi
  split at q
  · exact .inl (by assumption)
  · exact .inr ⟨_, by assumption⟩
  · cases q
/-- a comprehension's block begins -/
theorem Rel.wipe (h : Rel K B S H σ ρ) (vs : List Nat) (hv : ∀ i ∈ vs, i < B) : Rel K B S H (L2.wipe σ vs) (wipeR ρ vs) := by
  have out : ∀ {i : Nat} {x : Sl}, (wipeR ρ vs)[i]? = some x → x ≠ .no → i ∉ vs ∧ ρ[i]? = some x := fun {i x} hx n => by
    have hi : i ∉ vs := fun z => n (wipeR_in hx z)
    exact ⟨hi, by rw [wipeR_out hi] at hx; exact hx⟩
  have oa : ∀ {b : Addr}, OwnAt (L2.wipe σ vs) (wipeR ρ vs) b → OwnAt σ ρ b := fun {b} ⟨m, us, hm, e⟩ => by
    obtain ⟨n', q'⟩ := out hm.1 (fun z => by have := hm.2; rw [z] at this; cases this)
    rw [wipe_out2 n'] at e
    exact ⟨m, us, ⟨q', hm.2⟩, e⟩
  refine ⟨by rw [wipe_length, wipeR_len]; exact h.len, h.sub, fun j x hx => ?_, fun j zs hx => ?_, fun j k zs hx => ?_, fun j k s t b h1 h2 h3 h4 => ?_, ?_⟩
  · obtain ⟨n, q⟩ := out hx (fun z => by cases z)
    rw [wipe_out2 n]
    exact h.val j x q
  · obtain ⟨n, q⟩ := out hx (fun z => by cases z)
    rw [wipe_out2 n]
    exact h.own j zs q
  · obtain ⟨n, q⟩ := out hx (fun z => by cases z)
    obtain ⟨b, ws, b1, b2, b3⟩ := h.ro j k zs q
    refine ⟨b, ws, by rw [wipe_out2 n]; exact b1, b2.to (fun o e _ => e) (fun _ z => oa z), b3⟩
  · obtain ⟨n1, q1⟩ := out h1.1 (fun z => by have := h1.2; rw [z] at this; cases this)
    obtain ⟨n2, q2⟩ := out h2.1 (fun z => by have := h2.2; rw [z] at this; cases this)
    rw [wipe_out2 n1] at h3
    rw [wipe_out2 n2] at h4
    exact h.sep _ _ _ _ b ⟨q1, h1.2⟩ ⟨q2, h2.2⟩ h3 h4
  · refine h.vir.to (fun j s q l => ?_) (fun m hm => wipe_out2 fun z => absurd (hv m z) (by omega)) (fun _ _ _ _ _ _ _ q1 q2 => ⟨q1, q2⟩) (fun d c q1 q2 n => ⟨q2, q1, fun z => n (oa z)⟩)
    obtain ⟨n, q⟩ := out q (fun z => by rw [z] at l; cases l)
    exact ⟨q, wipe_out2 n⟩
theorem wipe_own (h : lent ρ vs = true) {b : Addr} : OwnAt (L2.wipe σ vs) (wipeR ρ vs) b ↔ OwnAt σ ρ b := by
  constructor
  · rintro ⟨i, s, ⟨h1, ho⟩, h2⟩
    have hi : i ∉ vs := fun z => by
      rw [wipeR_in h1 z] at ho
      cases ho
    rw [wipeR_out hi] at h1
    rw [wipe_out2 hi] at h2
    exact ⟨i, s, ⟨h1, ho⟩, h2⟩
  · rintro ⟨i, s, ⟨h1, ho⟩, h2⟩
    have hi : i ∉ vs := fun z => by
      rcases lent_at h z with q | ⟨x, q⟩ <;> (rw [q] at h1; cases h1; cases ho)
    exact ⟨i, s, ⟨by rw [wipeR_out hi]; exact h1, ho⟩, by rw [wipe_out2 hi]; exact h2⟩
/-- and ends -/
theorem Rel.back (h : Rel K B S1 H1 σ ρ) (hv : ∀ i ∈ vs, i < B) (hl : lent ρ vs = true) (E : Ext (L2.wipe σ vs) S1 H1 (wipeR ρ vs) S2 H2 ρ2) (h2 : Rel K B S2 H2 (L2.wipe σ vs) ρ2) : Rel K B S2 H2 σ (backR ρ ρ2 vs) := by
  have len : ρ.length = ρ2.length := by
    rw [← h2.len, wipe_length]
    exact h.len.symm
  have inn : ∀ {i : Nat} {x : Sl}, (backR ρ ρ2 vs)[i]? = some x → i ∈ vs → ρ[i]? = some x ∧ (x = .no ∨ ∃ d, x = .v d) := fun {i x} hx hi => by
    rw [backR_in len hi] at hx
    refine ⟨hx, ?_⟩
    rcases lent_at hl hi with q | ⟨d, q⟩
    · rw [q] at hx; cases hx; exact .inl rfl
    · rw [q] at hx; cases hx; exact .inr ⟨d, rfl⟩
  have out : ∀ {i : Nat} {x : Sl}, (backR ρ ρ2 vs)[i]? = some x → x ≠ .no → (∀ d, x ≠ .v d) → i ∉ vs ∧ ρ2[i]? = some x := fun {i x} hx n n' => by
    have hi : i ∉ vs := fun z => by
      rcases (inn hx z).2 with q | ⟨d, q⟩
      · exact n q
      · exact n' d q
    exact ⟨hi, by rw [backR_out hi] at hx; exact hx⟩
  have oa : ∀ {b : Addr}, OwnAt σ (backR ρ ρ2 vs) b → OwnAt (L2.wipe σ vs) ρ2 b := fun {b} ⟨m, us, hm, e⟩ => by
    obtain ⟨n', q'⟩ := out hm.1 (fun z => by have := hm.2; rw [z] at this; cases this) (fun d z => by have := hm.2; rw [z] at this; cases this)
    exact ⟨m, us, ⟨q', hm.2⟩, by rw [wipe_out2 n']; exact e⟩
  refine ⟨by rw [backR_len, ← len]; exact h.len, h2.sub, fun j x hx => ?_, fun j zs hx => ?_, fun j k zs hx => ?_, fun j k s t b g1 g2 g3 g4 => ?_, ?_⟩
  · by_cases hi : j ∈ vs
    · obtain ⟨w, a, b⟩ := h.val j x (inn hx hi).1
      exact ⟨w, a, b.mono E.same⟩
    · rw [backR_out hi] at hx
      obtain ⟨w, a, b⟩ := h2.val j x hx
      rw [wipe_out2 hi] at a
      exact ⟨w, a, b⟩
  · obtain ⟨n, q⟩ := out hx (fun z => by cases z) (fun d z => by cases z)
    obtain ⟨b, ws, b1, r⟩ := h2.own j zs q
    rw [wipe_out2 n] at b1
    exact ⟨b, ws, b1, r⟩
  · obtain ⟨n, q⟩ := out hx (fun z => by cases z) (fun d z => by cases z)
    obtain ⟨b, ws, b1, b2, b3⟩ := h2.ro j k zs q
    rw [wipe_out2 n] at b1
    exact ⟨b, ws, b1, b2.to (fun o e _ => e) (fun _ z => oa z), b3⟩
  · obtain ⟨n1, q1⟩ := out g1.1 (fun z => by have := g1.2; rw [z] at this; cases this) (fun d z => by have := g1.2; rw [z] at this; cases this)
    obtain ⟨n2, q2⟩ := out g2.1 (fun z => by have := g2.2; rw [z] at this; cases this) (fun d z => by have := g2.2; rw [z] at this; cases this)
    exact h2.sep _ _ _ _ b ⟨q1, g1.2⟩ ⟨q2, g2.2⟩ (by rw [wipe_out2 n1]; exact g3) (by rw [wipe_out2 n2]; exact g4)
  · refine h2.vir.to (fun j s q l => ?_) (fun m hm => (wipe_out2 fun z => absurd (hv m z) (by omega)).symm) (fun _ _ _ _ _ _ _ q1 q2 => ⟨q1, q2⟩) (fun d c q1 q2 n => ⟨q2, q1, fun z => n (oa z)⟩)
    obtain ⟨n, q⟩ := out q (fun z => by rw [z] at l; cases l) (fun d z => by rw [z] at l; cases l)
    exact ⟨q, (wipe_out2 n).symm⟩
theorem Ext.back (h : Rel K B S1 H1 σ ρ) (hl : lent ρ vs = true) (E : Ext (L2.wipe σ vs) S1 H1 (wipeR ρ vs) S2 H2 ρ2) (len : ρ.length = ρ2.length) : Ext σ S1 H1 ρ S2 H2 (backR ρ ρ2 vs) := by
  refine ⟨E.same, E.there, E.stay, fun b o hb hs n => E.keep b o hb hs (fun z => n ((wipe_own hl).mp z)), fun i => ?_, fun i n => ?_⟩
  · by_cases hi : i ∈ vs
    · rw [backR_in len hi]
    · rw [backR_out hi, ← E.kind i, wipeR_out hi]
  · by_cases hi : i ∈ vs
    · rw [backR_in len hi]
    · rw [backR_out hi]
      have := E.oth i (fun xs q => n xs (by rw [wipeR_out hi] at q; exact q))
      rw [this, wipeR_out hi]
/-- a place that is no place of ours is written, new since ρ -/
theorem Rel.redo {D : Addr} {o : HO} {us : List V} (R0 : Rel K B S1 H1 σ ρ1) (E : Ext σ S1 H1 ρ1 S2 H2 ρ2) (R : Rel K B S2 H2 σ ρ2) (h0 : H1 D = none) (hS : S2 D = none) (hL : H2 D = some (.lst us)) : Rel K B S2 (upd H2 D o) σ ρ2 := by
  have nD : ¬ OwnAt σ ρ2 D := fun z => own_new R0 h0 (E.at.mpr z)
  refine ⟨R.len, fun b x e => ?_, R.val, fun j zs hx => ?_, fun j k zs hx => ?_, R.sep, R.vir.to (fun _ _ q _ => ⟨q, rfl⟩) (fun _ _ => rfl) (fun i k is a u q1 q2 q3 q4 => ⟨q3, by rw [upd_ne (fun z => nD ⟨i, _, ⟨q1, rfl⟩, by rw [← z]; exact q2⟩)]; exact q4⟩) (fun d c q1 q2 n => ⟨q2, by rw [upd_ne (fun z => by rw [z, hL] at q1; cases q1)]; exact q1, n⟩)⟩
  · rw [upd_ne (ne_of_none e hS)]
    exact R.sub _ _ e
  · obtain ⟨b, ws, b1, b2, b3, b4⟩ := R.own j zs hx
    exact ⟨b, ws, b1, b2, by rw [upd_ne (fun z => nD ⟨j, _, ow hx, by rw [← z]; exact b1⟩)]; exact b3, b4⟩
  · have no : ∀ ys, ρ1[j]? ≠ some (.own ys) := fun ys q => by
      obtain ⟨zs', q'⟩ := (E.kind j).mp ⟨ys, q⟩
      rw [hx] at q'
      cases q'
    have e1 : ρ1[j]? = some (.ro k zs) := by rw [← E.oth j no]; exact hx
    obtain ⟨b, ws, b1, b2, b3⟩ := R0.ro j k zs e1
    refine ⟨b, ws, b1, b2.to (fun o' q nb => ?_) (fun _ z => E.at.mpr z), b3.mono E.same⟩
    have hb : b ≠ D := fun z => by rw [z, h0] at q; cases q
    rw [upd_ne hb]
    cases hs : S1 b with
    | none => exact E.keep b o' q hs nb
    | some o2 =>
      have e2 := R0.sub _ _ hs
      rw [q] at e2
      cases e2
      exact R.sub _ _ (E.same _ _ hs)
theorem Ext.redo {D : Addr} {o : HO} (E : Ext σ S1 H1 ρ1 S2 H2 ρ2) (h0 : H1 D = none) : Ext σ S1 H1 ρ1 S2 (upd H2 D o) ρ2 := by
  have nb : ∀ b, H1 b ≠ none → b ≠ D := fun b h z => h (by rw [z]; exact h0)
  refine ⟨E.same, fun b h => by rw [upd_ne (nb b h)]; exact E.there b h, E.stay, fun b o hb hs n => ?_, E.kind, E.oth⟩
  rw [upd_ne (nb b (by rw [hb]; simp))]
  exact E.keep b o hb hs n
theorem Rel.redo' {D : Addr} {o : HO} {us : List V} (R : Rel K B S2 H2 σ ρ2) (R0 : Rel K B S1 H1 σ ρ1) (E : Ext σ S1 H1 ρ1 S2 H2 ρ2) (h0 : H1 D = none) (hS : S2 D = none) (hL : H2 D = some (.lst us)) : Rel K B S2 (upd H2 D o) σ ρ2 := R0.redo E R h0 hS hL
/-- after a turn: the block's own slots are forgotten -/
theorem Rel.wiped (h : Rel K B S H σ ρ) (vs : List Nat) (hv : ∀ i ∈ vs, i < B) : Rel K B S H (L2.wipe σ vs) (wipeR ρ vs) := h.wipe vs hv
theorem wipe_agree {σ σ' : L2.St} {vs : List Nat} (hl : σ.length = σ'.length) (h : ∀ i : Nat, i ∉ vs → σ[i]? = σ'[i]?) : L2.wipe σ vs = L2.wipe σ' vs := by
  refine List.ext_getElem? fun i => ?_
  by_cases hi : i ∈ vs
  · have inn : ∀ {τ : L2.St} {ws : List Nat}, i ∈ ws → i < τ.length → (L2.wipe τ ws)[i]? = some none := fun {τ ws} => by
      induction ws with
      | nil => intro h; cases h
      | cons w ws ih =>
        intro hm hl
        unfold L2.wipe
        by_cases e : i = w
        · subst e
          rw [List.getElem?_set_self (by rw [wipe_length]; exact hl)]
        · rw [List.getElem?_set_ne (fun z => e z.symm)]
          rcases List.mem_cons.mp hm with z | z
          · exact absurd z e
          · exact ih z hl
    by_cases hlt : i < σ.length
    · rw [inn hi hlt, inn hi (by rw [← hl]; exact hlt)]
    · rw [List.getElem?_eq_none (by rw [wipe_length]; omega), List.getElem?_eq_none (by rw [wipe_length]; omega)]
  · rw [wipe_out2 hi, wipe_out2 hi]
    exact h i hi
theorem wipeR_at {ρ : R} {i : Nat} : ∀ {vs : List Nat}, i ∈ vs → i < ρ.length → (wipeR ρ vs)[i]? = some .no
  | v :: vs, hm, hl => by
    unfold wipeR
    by_cases e : i = v
    · subst e
      rw [List.getElem?_set_self (by rw [wipeR_len]; exact hl)]
    · rw [List.getElem?_set_ne (fun z => e z.symm)]
      rcases List.mem_cons.mp hm with z | z
      · exact absurd z e
      · exact wipeR_at z hl
theorem putT_out {ρ ρ1 : R} {tg : Tg} {x : List D} (h : putT ρ tg x = some ρ1) : ρ1.length = ρ.length ∧ (∀ i : Nat, i ∉ tg.ix → ρ1[i]? = ρ[i]?) ∧ ∀ (i : Nat) (s : Sl), i ∈ tg.ix → ρ1[i]? = some s → s.owns = false := by
  cases tg with
  | one k =>
    match x, h with
    | [a], h =>
      cases h
      refine ⟨by rw [List.length_set], fun i hi => List.getElem?_set_ne (fun z => hi (by simp [Tg.ix, z])), fun i xs hi q => ?_⟩
      have e : i = k := by simpa [Tg.ix] using hi
      subst e
      rcases get_set q with ⟨_, z, _⟩ | ⟨n, _⟩
      · rw [z]; rfl
      · exact absurd rfl n
    | [], h => cases h
    | _ :: _ :: _, h => cases h
  | two k l =>
    match x, h with
    | [a, b], h =>
      cases h
      refine ⟨by rw [List.length_set, List.length_set], fun i hi => ?_, fun i xs hi q => ?_⟩
      · rw [List.getElem?_set_ne (fun z => hi (by simp [Tg.ix, z])), List.getElem?_set_ne (fun z => hi (by simp [Tg.ix, z]))]
      · have e : i = k ∨ i = l := by simpa [Tg.ix] using hi
        rcases get_set q with ⟨_, z, _⟩ | ⟨n, q⟩
        · rw [z]; rfl
        · rcases get_set q with ⟨_, z, _⟩ | ⟨n', _⟩
          · rw [z]; rfl
          · rcases e with e | e
            · exact absurd e n'
            · exact absurd e n
    | [], h => cases h
    | [_], h => cases h
    | _ :: _ :: _ :: _, h => cases h
/-- behind a turn of a block -/
theorem Ext.turn {σw σ1 : L2.St} {ρ' ρp ρ3 : R} {S3 H3 : Hp} (hw : ∀ i : Nat, i ∉ vs → σ1[i]? = σw[i]?) (hno : ∀ i ∈ vs, ρ'[i]? = some .no) (ho : ∀ i : Nat, i ∉ vs → ρp[i]? = ρ'[i]?) (hp : ∀ (i : Nat) (s : Sl), i ∈ vs → ρp[i]? = some s → s.owns = false) (hl : ρ3.length = ρ'.length)
    (E : Ext σ1 S H ρp S3 H3 ρ3) : Ext σw S H ρ' S3 H3 (wipeR ρ3 vs) := by
  have own : ∀ {b : Addr}, OwnAt σ1 ρp b → OwnAt σw ρ' b := fun {b} ⟨i, s, h1, h2⟩ => by
    have hi : i ∉ vs := fun z => by
      have := hp i s z h1.1
      rw [h1.2] at this
      cases this
    exact ⟨i, s, ⟨by rw [← ho i hi]; exact h1.1, h1.2⟩, by rw [← hw i hi]; exact h2⟩
  refine ⟨E.same, E.there, E.stay, fun b o hb hs n => E.keep b o hb hs fun z => n (own z), fun i => ?_, fun i n => ?_⟩
  · by_cases hi : i ∈ vs
    · constructor
      · rintro ⟨xs, q⟩
        rw [hno i hi] at q
        cases q
      · rintro ⟨xs, q⟩
        cases wipeR_in q hi
    · rw [wipeR_out hi, ← ho i hi]
      exact E.kind i
  · by_cases hi : i ∈ vs
    · have hlt : i < ρ'.length := (List.getElem?_eq_some_iff.mp (hno i hi)).1
      rw [hno i hi, wipeR_at hi (by rw [hl]; exact hlt)]
    · rw [wipeR_out hi, ← ho i hi]
      exact E.oth i fun xs q => n xs (by rw [← ho i hi]; exact q)
end

/-! ### the rule -/
def lcLoop (tg : Tg) (gs : List (Nat × List D)) (c : VC) (e : VT) : List (List D) → List D → R → (List D → R → Prop) → Prop
  | [], acc, ρ, Q => guardR gs ρ ∧ Q acc ρ
  | x :: xs, acc, ρ, Q => guardR gs ρ ∧ match putT ρ tg x with
    | some ρ1 => c ρ1 fun b ρ2 => if b = true then e ρ2 fun y ρ3 => (match y with
        | .val d => acc.length < sizeLine ∧ lcLoop tg gs c e xs (acc ++ [d]) (wipeR ρ3 tg.ix) Q
        | _ => False) else lcLoop tg gs c e xs acc (wipeR ρ2 tg.ix) Q
    | none => False
def tLcV (tg : Tg) (ti : VI) (c : VC) (e : VT) : VE := fun ρ Q => ti ρ fun its gs ρ1 => (gs.all fun p => !tg.ix.contains p.1) = true ∧ lent ρ1 tg.ix = true ∧ lcLoop tg gs c e its [] (wipeR ρ1 tg.ix) fun acc ρ2 => Q (.list acc) (backR ρ1 ρ2 tg.ix)
def WTs (X : Cx) (ifs : List Expr) : TT := fun σ H Q => ∀ (pins : List (Addr × Obj)) (s : Shared), Inv X pins σ H s →
    wpAny (model X.prog X.w) X.A (forIn ifs true fun c r => if r = true then do let ok ← isTrue c X.env (eval c X.env); pure (ForInStep.yield ok) else pure (ForInStep.yield r)) (TP X pins σ Q) X.xe s
theorem ptsW {X : Cx} {ifs : List Expr} : PTs X ifs (WTs X ifs) := ⟨fun pins s _ _ _ I h => h pins s I⟩
def JTs (X : Cx) (ifs : List Expr) (t : VC) : Prop := ∀ σ S H ρ Q, Rel X.K (bd X) S H σ ρ → t ρ Q → WTs X ifs σ H (PostC X σ S H ρ Q)
theorem WTs.of {X : Cx} {ifs : List Expr} {t : TT} {σ : L2.St} {H : Hp} {Q : Bool → Hp → Prop} (h : PTs X ifs t) (ht : t σ H Q) : WTs X ifs σ H Q := fun pins s I => h.run pins s σ H Q I ht
theorem WTs.mono {X : Cx} {ifs : List Expr} {σ : L2.St} {H : Hp} {Q Q' : Bool → Hp → Prop} (h : WTs X ifs σ H Q) (hq : ∀ v H', Q v H' → Q' v H') : WTs X ifs σ H Q' := fun pins s I =>
  thn (h pins s I) fun _ _ ⟨H', I', q⟩ => ⟨H', I', hq _ H' q⟩
def tYesV : VC := fun ρ Q => Q true ρ
theorem jts_nil {X : Cx} : JTs X [] tYesV := fun σ S H ρ Q hR ht => WTs.of pts_nil ⟨S, ρ, hR, .refl, ht⟩
theorem jts_one {X : Cx} {c : Expr} {t : VC} (h : JC X c t) : JTs X [c] t := fun σ S H ρ Q hR ht => WTs.of (pts_one ptW) (h σ S H ρ Q hR ht)
/-- in every block of a comprehension -/
def InBlk (X : Cx) (scope : Scope) (P : Cx → Prop) : Prop := ∀ (s : Shared) (H : Hp) (C : Addr) (cl : List (Str × Addr)) (fp : List Addr), P (X.blk s H scope (compEnvC scope cl C X.env) fp)
def bE (X : Cx) (scope : Scope) (e : Expr) : TE := fun σ H Q => InBlk X scope fun Y => W Y e σ H Q
def bT (X : Cx) (scope : Scope) (ifs : List Expr) : TT := fun σ H Q => InBlk X scope fun Y => WTs Y ifs σ H Q
section
variable {X : Cx} {pos : Pos} {elt tgE iter : Expr} {ifs : List Expr} {scope : Scope} {tg : Tg} {ti : VI} {tc : VC} {te : VT} {σ : L2.St} {S H : Hp} {ρ : R}
theorem lc_read {Q : D → R → Prop} {Q' : VK} (hb : (tg.ix.all fun i => decide (i < bd X)) = true) (hi : JI X tg.pair tgE iter ti) (ht : InBlk X scope fun Y => JTs Y ifs tc) (he : InBlk X scope fun Y => JT Y elt te) (hR : Rel X.K (bd X) S H σ ρ) (h : tLcV tg ti tc te ρ Q) (hQ : ∀ v H', PostN X σ S H ρ Q v H' → Q' v H') :
    tLc (WIt X tgE iter) (gT X.K tg) (bT X scope ifs) (bE X scope elt) tg.ix σ H Q' := by
  refine (hi σ S H ρ _ hR h).mono fun J H1 q => ?_
  obtain ⟨S1, ρ1, its, gs, as, R1, E1, Sv, L, hgs, hlent, q⟩ := q
  intro D hD
  have len1 : ∀ i ∈ tg.ix, i < ρ1.length := fun i hi => by
    rcases lent_at hlent hi with z | ⟨x, z⟩ <;> exact (List.getElem?_eq_some_iff.mp z).1
  have hb' : ∀ i ∈ tg.ix, i < bd X := fun i hi => of_decide_eq_true (List.all_eq_true.mp hb i hi)
  have Rw : Rel X.K (bd X) S1 H1 (L2.wipe σ tg.ix) (wipeR ρ1 tg.ix) := R1.wipe _ hb'
  have hgs' : ∀ p ∈ gs, (L2.wipe σ tg.ix)[p.1]? = σ[p.1]? := fun p hp => by
    have z := List.all_eq_true.mp hgs p hp
    refine wipe_out2 fun hm => ?_
    rw [List.contains_iff_mem.mpr hm] at z
    cases z
  refine ⟨fun i m Hc => m = its.length - i ∧ i ≤ its.length ∧ ∃ S' ρ' ws acc, Rel X.K (bd X) S' Hc (L2.wipe σ tg.ix) ρ' ∧ Ext (L2.wipe σ tg.ix) S1 H1 (wipeR ρ1 tg.ix) S' Hc ρ' ∧ (∀ j ∈ tg.ix, ρ'[j]? = some .no) ∧ S' D = none ∧ Hc D = some (.lst ws) ∧ RpAll S' ws acc ∧ lcLoop tg gs tc te (its.drop i) acc ρ' (fun acc ρ2 => Q (.list acc) (backR ρ1 ρ2 tg.ix)),
    ⟨its.length, by simp, Nat.zero_le _, S1, _, [], [], Rw.new0 hD, .new0 Rw hD, fun j hj => wipeR_at hj (len1 j hj), R1.sub.free hD, upd_same, .nil, q⟩, ?_⟩
  rintro i m Hc ⟨rfl, hle, S', ρ', ws, acc, R', E', hno, hSD, hHD, hacc, hl⟩
  by_cases hlt : i < its.length
  · -- a turn
    rw [List.drop_eq_getElem_cons hlt] at hl
    obtain ⟨hg, hl⟩ := hl
    obtain ⟨_, hsv⟩ := Sv S' Hc (linked_now L R' E'.same hg hgs')
    obtain ⟨hgo, hy⟩ := hsv i its[i] (List.getElem?_eq_getElem hlt)
    refine .inr ⟨hgo, fun Hn => ∃ S' ρ' ws acc, Rel X.K (bd X) S' Hn (L2.wipe σ tg.ix) ρ' ∧ Ext (L2.wipe σ tg.ix) S1 H1 (wipeR ρ1 tg.ix) S' Hn ρ' ∧ (∀ j ∈ tg.ix, ρ'[j]? = some .no) ∧ S' D = none ∧ Hn D = some (.lst ws) ∧ RpAll S' ws acc ∧ lcLoop tg gs tc te (its.drop (i + 1)) acc ρ' (fun acc ρ2 => Q (.list acc) (backR ρ1 ρ2 tg.ix)),
      fun Hn hn => ⟨its.length - (i + 1), by omega, rfl, hlt, hn⟩, fun x H' y => ?_⟩
    have it := hy x H' y
    split at hl
    · rename_i ρp hput
      obtain ⟨pl, po, pn⟩ := putT_out hput
      -- the heap behind the item
      have E0 : Ext (L2.wipe σ tg.ix) S' Hc ρ' S' H' ρ' ∧ H' D = some (.lst ws) := by
        generalize tg.pair = pr at it
        generalize its[i] = xi at it
        cases it with
        | one _ => exact ⟨.refl, hHD⟩
        | two hT _ =>
          refine ⟨.new0 R' hT, ?_⟩
          rw [upd_ne (fun z => by rw [← z, hHD] at hT; cases hT)]
          exact hHD
      refine tgt_ok R' it hput hb' fun σ1 R1p ho1 hl1 => ?_
      refine ⟨by
        rw [wipe_agree hl1 ho1]
        exact wipe_agree (wipe_length _ _) fun j hj => wipe_out2 hj, fun s0 H0 C cl fp => ?_⟩
      refine (ht s0 H0 C cl fp σ1 S' H' ρp _ R1p hl).mono fun b H3 q => ?_
      obtain ⟨S3, ρ3, R3, E3, q3⟩ := q
      have hσ1 : L2.wipe σ1 tg.ix = L2.wipe σ tg.ix := by
        rw [wipe_agree hl1 ho1]
        exact wipe_agree (wipe_length _ _) fun j hj => wipe_out2 hj
      have len3 : ρ3.length = ρ'.length := by rw [← R3.len, hl1, R'.len]
      cases b with
      | false =>
        have Et : Ext (L2.wipe σ tg.ix) S' H' ρ' S3 H3 (wipeR ρ3 tg.ix) := E3.turn ho1 hno po pn len3
        have nD : ¬ OwnAt (L2.wipe σ tg.ix) ρ' D := fun z => own_new Rw hD (E'.at.mpr z)
        have Ea := (E'.trans E0.1).trans Et
        have R3' := R3.wipe tg.ix hb'
        rw [hσ1] at R3'
        exact ⟨S3, _, ws, acc, R3', Ea, fun j hj => wipeR_at hj (by rw [len3]; exact (List.getElem?_eq_some_iff.mp (hno j hj)).1), Et.stay D (by rw [E0.2]; simp) hSD, Et.keep D _ E0.2 hSD nD, hacc.mono Et.same, q3⟩
      | true =>
        show InBlk X scope fun Y => W Y elt σ1 H3 _
        intro s0 H0 C cl fp
        refine (he s0 H0 C cl fp σ1 S3 H3 ρ3 _ R3 q3).mono fun y H4 q => ?_
        obtain ⟨S4, ρ4, u, R4, E4, d4, q4⟩ := q
        split at q4
        · rename_i d
          have len4 : ρ4.length = ρ'.length := by rw [← R4.len, hl1, R'.len]
          have Et : Ext (L2.wipe σ tg.ix) S' H' ρ' S4 H4 (wipeR ρ4 tg.ix) := (E3.trans E4).turn ho1 hno po pn len4
          have nD : ¬ OwnAt (L2.wipe σ tg.ix) ρ' D := fun z => own_new Rw hD (E'.at.mpr z)
          have Ea := (E'.trans E0.1).trans Et
          have R4' := R4.wipe tg.ix hb'
          rw [hσ1] at R4'
          have hSD4 := Et.stay D (by rw [E0.2]; simp) hSD
          refine ⟨ws, Et.keep D _ E0.2 hSD nD, by rw [rps_len hacc]; exact q4.1, S4, _, ws ++ [y], acc ++ [d], R4'.redo' Rw Ea hD hSD4 (Et.keep D _ E0.2 hSD nD), Ea.redo hD, fun j hj => wipeR_at hj (by rw [len4]; exact (List.getElem?_eq_some_iff.mp (hno j hj)).1), hSD4, upd_same, rps_app (hacc.mono Et.same) (rps_one d4), q4.2⟩
        · exact q4.elim
    · exact hl.elim
  · have e : i = its.length := by omega
    subst e
    rw [List.drop_length] at hl
    obtain ⟨hg, hl⟩ := hl
    obtain ⟨hst, _⟩ := Sv S' Hc (linked_now L R' E'.same hg hgs')
    have len2 : ρ1.length = ρ'.length := by rw [← R'.len, wipe_length, R1.len]
    refine .inl ⟨hst, hQ _ _ ⟨S', _, D, ws, acc, R1.back hb' hlent E' R', E1.trans (Ext.back R1 hlent E' len2), rfl, E_none E1 hD, hSD, hHD, hacc, hl⟩⟩
theorem jn_lc {own : List (Str × Nat)} (hb : (tg.ix.all fun i => decide (i < bd X)) = true) (hc : X.calm = true) (hN : X.N.Nodup) (ok : BlkOk X.N X.env.scope scope own) (ho : own.map (·.2) = tg.ix) (hi : JI X tg.pair tgE iter ti)
    (hg : InBlk X scope fun Y => PG Y tgE (gT X.K tg)) (ht : InBlk X scope fun Y => JTs Y ifs tc) (he : InBlk X scope fun Y => JT Y elt te) (hs : ∀ x, foldedSetIterable iter X.env x = pure x) :
    JN X (.ListComp elt [⟨tgE, iter, ifs, 0⟩] scope pos) (tLcV tg ti tc te) := by
  intro σ S H ρ Q hR h
  have hr := lc_read (Q' := PostN X σ S H ρ Q) hb hi ht he hR h fun _ _ z => z
  rw [← ho] at hr
  exact W.of (pe_lc hc hN piW ok hg (fun s H C cl fp => ⟨fun pins s' σ' H' Q I q => q s H C cl fp pins s' I⟩) (fun s H C cl fp => ⟨fun pins s' σ' H' Q I q => q s H C cl fp pins s' I⟩) hs) hr
end
end WA

/-! WA8: defs and their calls. -/
namespace WA
open PySem PySem.Spec PyProof.Rows L2

/-- how a parameter is handed: a value; a list that is read; one that is read and stands by itself; a list that may be changed -/
inductive Md where
  | val | ro | rs | own
  deriving DecidableEq
/-- shapes of what a def hands out new: a forest, first child and next sibling: a value, a list of values, a thing made of parts -/
inductive Fs where
  | nil
  | val (t : Fs)
  | lst (t : Fs)
  | pts (k : SK) (c t : Fs)
@[reducible] def Fs.ofB : Bool → Fs
  | true => .lst .nil
  | false => .val .nil
instance : Coe Bool Fs := ⟨Fs.ofB⟩
/-- the content of a thing, from that of its parts -/
def SK.d : SK → List D → D
  | .lst, xs => .list xs
  | .tup, xs => .tuple xs
  | .ins _ _, xs => .list xs
/-- what stands beside a thing in the heap -/
def SK.dx : HO → List Addr
  | .ins _ d _ => [d]
  | _ => []
/-- what stands at vs is xs, with all of the heap's cells that it is made of (but for those in S) -/
def OwnF (S H : Hp) : Fs → List V → List D → List Addr → Prop
  | .nil, vs, xs, as => vs = [] ∧ xs = [] ∧ as = []
  | .val t, vs, xs, as => ∃ v x vs' xs', vs = v :: vs' ∧ xs = x :: xs' ∧ Rp S v x ∧ OwnF S H t vs' xs' as
  | .lst t, vs, xs, as => ∃ a ws ds vs' xs' as', vs = .ref a :: vs' ∧ xs = .list ds :: xs' ∧ as = a :: as' ∧ H a = some (.lst ws) ∧ RpAll S ws ds ∧ OwnF S H t vs' xs' as'
  | .pts k c t, vs, xs, as => ∃ a us ys o bs vs' xs' as', vs = .ref a :: vs' ∧ xs = k.d ys :: xs' ∧ as = a :: (SK.dx o ++ (bs ++ as')) ∧ H a = some o ∧ k.objR H a us o ∧ OwnF S H c us ys bs ∧ OwnF S H t vs' xs' as'
/-- what a def is promised to do: from the arguments, what is wanted of its answer and of the lists it changed -/
structure FSpec where
  name : Str
  modes : List Md
  new : Fs
  pre : List D → Prop
  post : List D → D → List (List D) → Prop
inductive ArgsR (K : PySem.W.Frag) (S H : Hp) : List Md → List V → List D → List Addr → List Addr → Prop where
  | nil : ArgsR K S H [] [] [] [] []
  | val {ms vs xs os rs v x} : Rp S v x → ArgsR K S H ms vs xs os rs → ArgsR K S H (.val :: ms) (v :: vs) (x :: xs) os rs
  | ro {ms vs xs os rs a ws ds} {o : HO} : (o = .lst ws ∨ ∃ ob, o = .frz ob (.lst ws)) → H a = some o → RpAll S ws ds → ArgsR K S H ms vs xs os rs → ArgsR K S H (.ro :: ms) (.ref a :: vs) (.list ds :: xs) os (a :: rs)
  | kl {ms vs xs os rs a ws ds} : KL K a ws → RpAll S ws ds → ArgsR K S H ms vs xs os rs → ArgsR K S H (.ro :: ms) (.ref a :: vs) (.list ds :: xs) os rs
  | rs {ms vs xs os rs a ws ds} : H a = some (.lst ws) → RpAll S ws ds → ArgsR K S H ms vs xs os rs → ArgsR K S H (.rs :: ms) (.ref a :: vs) (.list ds :: xs) os (a :: rs)
  | own {ms vs xs os rs a ws ds} : S a = none → H a = some (.lst ws) → RpAll S ws ds → ArgsR K S H ms vs xs os rs → ArgsR K S H (.own :: ms) (.ref a :: vs) (.list ds :: xs) (a :: os) rs
structure CExt (S H : Hp) (os : List Addr) (S' H' : Hp) : Prop where
  sub : Same S' H'
  same : Same S S'
  there : ∀ b, H b ≠ none → H' b ≠ none
  stay : ∀ b, H b ≠ none → S b = none → S' b = none
  keep : ∀ b o, H b = some o → S b = none → b ∉ os → H' b = some o
def OwnsR (S' H' : Hp) : List Addr → List (List D) → Prop := Paired fun a ys => ∃ ws, H' a = some (.lst ws) ∧ RpAll S' ws ys
def ResR (f : Fs) (H S' H' : Hp) (v : V) (r : D) : Prop := ∃ as, OwnF S' H' f [v] [r] as ∧ as.Nodup ∧ ∀ a ∈ as, H a = none ∧ S' a = none
theorem ResR.rp {H S' H' : Hp} {v : V} {r : D} (h : ResR false H S' H' v r) : Rp S' v r := by
  obtain ⟨as, ⟨v', x', vs, xs, e1, e2, h, _⟩, _⟩ := h
  cases e1
  cases e2
  exact h
theorem ResR.of {H S' H' : Hp} {v : V} {r : D} (h : Rp S' v r) : ResR false H S' H' v r := ⟨[], ⟨v, r, [], [], rfl, rfl, h, rfl, rfl, rfl⟩, by simp, fun _ h => by cases h⟩
theorem ResR.lst {H S' H' : Hp} {v : V} {r : D} (h : ResR true H S' H' v r) : ∃ a ws ds, v = .ref a ∧ r = .list ds ∧ H a = none ∧ S' a = none ∧ H' a = some (.lst ws) ∧ RpAll S' ws ds := by
  obtain ⟨as, ⟨a, ws, ds, vs, xs, bs, e1, e2, e3, h1, h2, _⟩, _, hn⟩ := h
  cases e1
  cases e2
  obtain ⟨n1, n2⟩ := hn a (by rw [e3]; exact List.mem_cons_self)
  exact ⟨a, ws, ds, rfl, rfl, n1, n2, h1, h2⟩
def spOf (K : PySem.W.Frag) (f : FSpec) : Sp := fun vs H Q _ => ∃ S xs os rs, Same S H ∧ ArgsR K S H f.modes vs xs os rs ∧ os.Nodup ∧ (∀ a ∈ rs, a ∉ os) ∧
  f.pre xs ∧ ∀ r yss, f.post xs r yss → ∀ v S' H', CExt S H os S' H' → OwnsR S' H' os yss → ResR f.new H S' H' v r → Q v H'

/-! ### at the call -/
def argD (ρ : R) : List Md → List AV → Option (List D)
  | [], [] => some []
  | .val :: ms, .val x :: as => (argD ρ ms as).map (x :: ·)
  | .ro :: ms, a :: as => match deref ρ a with
    | some (.list xs) => (argD ρ ms as).map (.list xs :: ·)
    | _ => none
  | .rs :: ms, a :: as => match deref ρ a, strict ρ a with
    | some (.list xs), true => (argD ρ ms as).map (.list xs :: ·)
    | _, _ => none
  | .own :: ms, .slot i :: as => match ρ[i]? with
    | some (.own xs) => (argD ρ ms as).map (.list xs :: ·)
    | _ => none
  | _, _ => none
def ownIx : List Md → List AV → List Nat
  | .own :: ms, .slot i :: as => i :: ownIx ms as
  | _ :: ms, _ :: as => ownIx ms as
  | _, _ => []
def roIx : List Md → List AV → List Nat
  | .ro :: ms, .slot i :: as => i :: roIx ms as
  | .rs :: ms, .slot i :: as => i :: roIx ms as
  | _ :: ms, _ :: as => roIx ms as
  | _, _ => []
def apartIx (ms : List Md) (as : List AV) : Bool := decide (ownIx ms as).Nodup && (roIx ms as).all fun i => !(ownIx ms as).contains i
def putOwn : R → List Nat → List (List D) → R
  | ρ, i :: is, ys :: yss => putOwn (ρ.set i (.own ys)) is yss
  | ρ, _, _ => ρ
section
variable {K : PySem.W.Frag} {B : Nat} {S H S' H' : Hp} {σ : L2.St} {ρ : R}
/-- the arguments as a callee wants them -/
theorem args_ok (R : Rel K B S H σ ρ) : ∀ {ms : List Md} {vs : List V} {as : List AV} {xs : List D}, ARs K S σ vs as → argD ρ ms as = some xs →
    ∃ os rs, ArgsR K S H ms vs xs os rs ∧ Paired (fun (i : Nat) (a : Addr) => σ[i]? = some (some (.ref a)) ∧ ∃ ys, ρ[i]? = some (.own ys)) (ownIx ms as) os ∧
      ∀ a ∈ rs, (∃ o, S a = some o) ∨ ∃ i ∈ roIx ms as, σ[i]? = some (some (.ref a)) ∧ ((∃ ys, ρ[i]? = some (.own ys)) ∨ ∃ k ys, ρ[i]? = some (.ro k ys) ∧ ¬ OwnAt σ ρ a)
  | [], _, _, _, .nil, h => by
    cases h
    exact ⟨[], [], .nil, .nil, fun a ha => absurd ha (by simp)⟩
  | [], _, _, _, .cons _ _, h => by cases h
  | m :: ms, _, _, _, .nil, h => by cases m <;> cases h
  | .val :: ms, _, _, _, .cons (b := .val x) r t, h => by
    cases q : argD ρ ms _ with
    | none => rw [argD, q] at h; cases h
    | some ys =>
      rw [argD, q] at h
      cases h
      obtain ⟨os, rs, h1, h2, h3⟩ := args_ok R t q
      exact ⟨os, rs, .val r h1, h2, h3⟩
  | .val :: ms, _, _, _, .cons (b := .slot i) r t, h => by cases h
  | .ro :: ms, _, _, _, .cons (b := a) (l₂ := as) r t, h => by
    unfold argD at h
    split at h
    · rename_i xs e
      cases q : argD ρ ms _ with
      | none => rw [q] at h; cases h
      | some ys =>
        rw [q] at h
        cases h
        obtain ⟨os, rs, h1, h2, h3⟩ := args_ok R t q
        cases a with
        | val x =>
          cases e
          have r : Rp S _ (.list xs) := r
          cases r with
          | lst z z2 =>
            refine ⟨os, _ :: rs, .ro (.inl rfl) (R.sub _ _ z) z2 h1, h2, fun b hb => ?_⟩
            rcases List.mem_cons.mp hb with rfl | hb
            · exact .inl ⟨_, z⟩
            · exact h3 b hb
        | slot i =>
          have r : σ[i]? = some (some _) := r
          have h3' : ∀ a ∈ rs, (∃ o, S a = some o) ∨ ∃ j ∈ roIx (.ro :: ms) (.slot i :: as), σ[j]? = some (some (.ref a)) ∧ ((∃ ys, ρ[j]? = some (.own ys)) ∨ ∃ k ys, ρ[j]? = some (.ro k ys) ∧ ¬ OwnAt σ ρ a) := fun b hb => by
            rcases h3 b hb with z | ⟨j, z1, z2⟩
            · exact .inl z
            · exact .inr ⟨j, by simp [roIx, z1], z2⟩
          rcases deref_slot e with ⟨zs, he, q⟩ | ⟨k, zs, he, q⟩
          · cases q
            obtain ⟨a, ws, b1, b2, b3, b4⟩ := R.own i _ he
            rw [r] at b1
            cases b1
            refine ⟨os, a :: rs, .ro (.inl rfl) b3 b4 h1, h2, fun b hb => ?_⟩
            rcases List.mem_cons.mp hb with rfl | hb
            · exact .inr ⟨i, by simp [roIx], r, .inl ⟨_, he⟩⟩
            · exact h3' b hb
          · cases q
            obtain ⟨a, ws, b1, b2, b3⟩ := R.ro i k _ he
            rw [r] at b1
            cases b1
            rcases b2 with ⟨_, b2⟩ | ⟨⟨o, q, b2⟩, n⟩
            · exact ⟨os, rs, .kl b2 b3 h1, h2, h3'⟩
            · refine ⟨os, a :: rs, .ro (q.imp _root_.id fun z => z.2) b2 b3 h1, h2, fun b hb => ?_⟩
              rcases List.mem_cons.mp hb with rfl | hb
              · exact .inr ⟨i, by simp [roIx], r, .inr ⟨k, _, he, n⟩⟩
              · exact h3' b hb
    · cases h
  | .rs :: ms, _, _, _, .cons (b := a) r t, h => by
    unfold argD at h
    split at h
    · rename_i xs e st
      cases q : argD ρ ms _ with
      | none => rw [q] at h; cases h
      | some ys =>
        rw [q] at h
        cases h
        obtain ⟨os, rs, h1, h2, h3⟩ := args_ok R t q
        obtain ⟨p, ws, rfl, e1, e2⟩ := ARep.listS R r e st
        cases a with
        | val x =>
          cases e
          refine ⟨os, p :: rs, .rs e1 e2 h1, h2, fun b hb => ?_⟩
          rcases List.mem_cons.mp hb with rfl | hb
          · have r : Rp S (.ref b) (.list xs) := r
            cases r with
            | lst z _ => exact .inl ⟨_, z⟩
          · exact h3 b hb
        | slot i =>
          refine ⟨os, p :: rs, .rs e1 e2 h1, h2, fun b hb => ?_⟩
          rcases List.mem_cons.mp hb with rfl | hb
          · refine .inr ⟨i, by simp [roIx], r, ?_⟩
            rcases deref_slot e with ⟨zs, he, _⟩ | ⟨k, zs, he, _⟩
            · exact .inl ⟨zs, he⟩
            · refine .inr ⟨k, zs, he, ?_⟩
              obtain ⟨a, ws', b1, b2, b3⟩ := R.ro i k _ he
              have r : σ[i]? = some (some _) := r
              rw [r] at b1
              cases b1
              have st : (match ρ[i]? with
                | some (.own _) => true
                | some (.ro k _) => k
                | _ => false) = true := st
              rw [he] at st
              have st : k = true := st
              subst st
              rcases b2 with ⟨q, _⟩ | ⟨_, n⟩
              · cases q
              · exact n
          · rcases h3 b hb with z | ⟨j, z1, z2⟩
            · exact .inl z
            · exact .inr ⟨j, by simp [roIx, z1], z2⟩
    · cases h
  | .own :: ms, _, _, _, .cons (b := .val x) r t, h => by cases h
  | .own :: ms, _, _, _, .cons (b := .slot i) r t, h => by
    unfold argD at h
    split at h
    · rename_i xs e
      cases q : argD ρ ms _ with
      | none => rw [q] at h; cases h
      | some ys =>
        rw [q] at h
        cases h
        obtain ⟨os, rs, h1, h2, h3⟩ := args_ok R t q
        obtain ⟨a, ws, b1, b2, b3, b4⟩ := R.own i xs e
        have r : σ[i]? = some (some _) := r
        rw [r] at b1
        cases b1
        exact ⟨a :: os, rs, .own b2 b3 b4 h1, .cons ⟨r, xs, e⟩ h2, h3⟩
    · cases h
theorem paired_mem {α β : Type} {F : α → β → Prop} : ∀ {xs : List α} {ys : List β}, Paired F xs ys → ∀ y ∈ ys, ∃ x ∈ xs, F x y
  | _, _, .nil, y, h => absurd h (by simp)
  | _, _, .cons r t, y, h => by
    rcases List.mem_cons.mp h with rfl | h
    · exact ⟨_, List.mem_cons_self, r⟩
    · obtain ⟨x, h1, h2⟩ := paired_mem t y h
      exact ⟨x, List.mem_cons_of_mem _ h1, h2⟩
theorem paired_mem' {α β : Type} {F : α → β → Prop} : ∀ {xs : List α} {ys : List β}, Paired F xs ys → ∀ x ∈ xs, ∃ y ∈ ys, F x y
  | _, _, .nil, y, h => absurd h (by simp)
  | _, _, .cons r t, y, h => by
    rcases List.mem_cons.mp h with rfl | h
    · exact ⟨_, List.mem_cons_self, r⟩
    · obtain ⟨x, h1, h2⟩ := paired_mem' t y h
      exact ⟨x, List.mem_cons_of_mem _ h1, h2⟩
theorem owns_nodup (R : Rel K B S H σ ρ) : ∀ {is : List Nat} {os : List Addr}, Paired (fun (i : Nat) (a : Addr) => σ[i]? = some (some (.ref a)) ∧ ∃ ys, ρ[i]? = some (.own ys)) is os → is.Nodup → os.Nodup
  | _, _, .nil, _ => .nil
  | _, _, .cons (a := i) (b := a) r t, h => by
    rw [List.nodup_cons] at h ⊢
    refine ⟨fun hm => ?_, owns_nodup R t h.2⟩
    obtain ⟨j, hj, e, ys, hy⟩ := paired_mem t a hm
    obtain ⟨e', zs, hz⟩ := r
    exact h.1 (R.sep i j _ _ a (ow hz) (ow hy) e' e ▸ hj)
/-- behind the call -/
theorem puts_ok : ∀ {is : List Nat} {os : List Addr} {yss : List (List D)} {ρ : R}, σ.length = ρ.length →
    Paired (fun (i : Nat) (a : Addr) => σ[i]? = some (some (.ref a)) ∧ ∃ ys, ρ[i]? = some (.own ys)) is os → OwnsR S' H' os yss → is.Nodup →
    (∀ (i : Nat) (ys : List D), i ∈ is → (putOwn ρ is yss)[i]? = some (.own ys) → ∃ a ws, σ[i]? = some (some (.ref a)) ∧ H' a = some (.lst ws) ∧ RpAll S' ws ys) ∧
      (∀ i : Nat, i ∈ is → ∃ ys, (putOwn ρ is yss)[i]? = some (.own ys)) ∧ (∀ i : Nat, i ∉ is → (putOwn ρ is yss)[i]? = ρ[i]?) ∧ (putOwn ρ is yss).length = ρ.length
  | _, _, _, ρ, hl, .nil, .nil, _ => ⟨fun i ys h => absurd h (by simp), fun i h => absurd h (by simp), fun _ _ => rfl, rfl⟩
  | _, _, _, ρ, hl, .cons (a := i) (l₁ := is) r t, .cons (b := ys) (l₂ := yss) g gs, hn => by
    obtain ⟨e, zs, hz⟩ := r
    obtain ⟨ws, g1, g2⟩ := g
    rw [List.nodup_cons] at hn
    have hi : i < ρ.length := (List.getElem?_eq_some_iff.mp hz).1
    have t' : Paired (fun (j : Nat) (a : Addr) => σ[j]? = some (some (.ref a)) ∧ ∃ us, (ρ.set i (.own ys))[j]? = some (.own us)) is _ := Paired.mapP t fun j a ⟨q, us, hu⟩ => by
      refine ⟨q, ?_⟩
      by_cases e : j = i
      · subst e
        exact ⟨ys, List.getElem?_set_self hi⟩
      · exact ⟨us, by rw [List.getElem?_set_ne (fun z => e z.symm)]; exact hu⟩
    obtain ⟨h1, h2, h3, h4⟩ := puts_ok (ρ := ρ.set i (.own ys)) (by rw [List.length_set]; exact hl) t' gs hn.2
    have hset : (putOwn ρ (i :: is) (ys :: yss)) = putOwn (ρ.set i (.own ys)) is yss := rfl
    rw [hset]
    refine ⟨fun j us hj hu => ?_, fun j hj => ?_, fun j hj => ?_, by rw [h4, List.length_set]⟩
    · rcases List.mem_cons.mp hj with rfl | hj
      · rw [h3 j hn.1, List.getElem?_set_self hi] at hu
        cases hu
        exact ⟨_, ws, e, g1, g2⟩
      · exact h1 j us hj hu
    · rcases List.mem_cons.mp hj with rfl | hj
      · exact ⟨ys, by rw [h3 j hn.1]; exact List.getElem?_set_self hi⟩
      · exact h2 j hj
    · rw [h3 j fun z => hj (List.mem_cons_of_mem _ z), List.getElem?_set_ne fun z => hj (by simp [z])]
theorem call_rel (R : Rel K B S H σ ρ) {is : List Nat} {os : List Addr} {yss : List (List D)} (hp : Paired (fun (i : Nat) (a : Addr) => σ[i]? = some (some (.ref a)) ∧ ∃ ys, ρ[i]? = some (.own ys)) is os) (hn : is.Nodup) (C : CExt S H os S' H') (O : OwnsR S' H' os yss) :
    Rel K B S' H' σ (putOwn ρ is yss) ∧ Ext σ S H ρ S' H' (putOwn ρ is yss) := by
  obtain ⟨p1, p2, p3, p4⟩ := puts_ok R.len hp O hn
  have notin : ∀ {b : Addr} {j : Nat}, (∀ (m : Nat) (ys : List D), m ∈ is → σ[m]? = some (some (.ref b)) → ρ[m]? = some (.own ys) → False) → b ∉ os := fun {b j} h hb => by
    obtain ⟨m, hm, e, ys, hy⟩ := paired_mem hp b hb
    exact h m ys hm e hy
  have kept : ∀ {b : Addr} {o : HO}, H b = some o → (S b = none → b ∉ os) → H' b = some o := fun {b o} h n => by
    cases hs : S b with
    | none => exact C.keep b o h hs (n hs)
    | some o2 =>
      have e := R.sub _ _ hs
      rw [h] at e
      cases e
      exact C.sub _ _ (C.same _ _ hs)
  have oa : ∀ {b : Addr}, OwnAt σ (putOwn ρ is yss) b → OwnAt σ ρ b := fun {b} ⟨m, u, hm, e⟩ => by
    by_cases hmi : m ∈ is
    · obtain ⟨a', ha', e4, ys, hy⟩ := paired_mem' hp m hmi
      exact ⟨m, _, ow hy, e⟩
    · have := hm.1
      rw [p3 m hmi] at this
      exact ⟨m, u, ⟨this, hm.2⟩, e⟩
  refine ⟨⟨by rw [p4]; exact R.len, C.sub, fun j x hx => ?_, fun j zs hx => ?_, fun j k zs hx => ?_, fun j k s t b h1 h2 h3 h4 => ?_, ?_⟩, ⟨C.same, C.there, C.stay, fun b o hb hs n => ?_, fun i => ?_, fun i n => ?_⟩⟩
  · have hj : j ∉ is := fun z => by
      obtain ⟨ys, q⟩ := p2 j z
      rw [hx] at q
      cases q
    rw [p3 j hj] at hx
    obtain ⟨w, a, b⟩ := R.val j x hx
    exact ⟨w, a, b.mono C.same⟩
  · by_cases hj : j ∈ is
    · obtain ⟨a, ws, e1, e2, e3⟩ := p1 j zs hj hx
      obtain ⟨a', ha', e4, ys, hy⟩ := paired_mem' hp j hj
      rw [e1] at e4
      cases e4
      obtain ⟨b, us, b1, b2, b3, _⟩ := R.own j ys hy
      rw [e1] at b1
      cases b1
      exact ⟨a, ws, e1, C.stay a (by rw [b3]; simp) b2, e2, e3⟩
    · rw [p3 j hj] at hx
      obtain ⟨b, ws, b1, b2, b3, b4⟩ := R.own j zs hx
      refine ⟨b, ws, b1, C.stay b (by rw [b3]; simp) b2, kept b3 fun _ => notin (j := j) fun m ys hm e hy => ?_, b4.mono C.same⟩
      exact hj (R.sep m j _ _ b (ow hy) (ow hx) e b1 ▸ hm)
  · have hj : j ∉ is := fun z => by
      obtain ⟨ys, q⟩ := p2 j z
      rw [hx] at q
      cases q
    rw [p3 j hj] at hx
    obtain ⟨b, ws, b1, b2, b3⟩ := R.ro j k zs hx
    refine ⟨b, ws, b1, b2.to (fun o q n => kept q fun _ => notin (j := j) fun m ys hm e hy => n ⟨m, _, ow hy, e⟩) (fun _ z => oa z), b3.mono C.same⟩
  · have back : ∀ {m : Nat} {u : Sl}, Ow (putOwn ρ is yss) m u → ∃ u', Ow ρ m u' := fun {m u} hm => by
      by_cases hmi : m ∈ is
      · obtain ⟨a', ha', e4, ys, hy⟩ := paired_mem' hp m hmi
        exact ⟨_, ow hy⟩
      · have := hm.1
        rw [p3 m hmi] at this
        exact ⟨u, this, hm.2⟩
    obtain ⟨_, g1⟩ := back h1
    obtain ⟨_, g2⟩ := back h2
    exact R.sep _ _ _ _ b g1 g2 h3 h4
  · refine R.vir.to (fun j s q l => ?_) (fun _ _ => rfl) (fun j k ns a u q1 q2 q3 q4 => ⟨C.stay a (by rw [q4]; simp) q3, kept q4 fun _ => notin (j := j) fun m ys hm e hy => ?_⟩) (fun d c q1 q2 n => ⟨C.stay d (by rw [q1]; simp) q2, kept q1 fun _ => notin (j := 0) fun m ys hm e hy => n ⟨m, _, ow hy, e⟩, fun z => n (oa z)⟩)
    · by_cases hj : j ∈ is
      · obtain ⟨ys, z⟩ := p2 j hj
        rw [q] at z
        cases z
        cases l
      · rw [p3 j hj] at q
        exact ⟨q, rfl⟩
    · have := R.sep j m _ _ a ⟨q1, rfl⟩ (ow hy) q2 e
      subst this
      rw [q1] at hy
      cases hy
  · refine C.keep b o hb hs fun hm => ?_
    obtain ⟨m, hm', e, ys, hy⟩ := paired_mem hp b hm
    exact n ⟨m, _, ow hy, e⟩
  · by_cases hi : i ∈ is
    · obtain ⟨a', ha', e4, ys, hy⟩ := paired_mem' hp i hi
      exact ⟨fun _ => p2 i hi, fun _ => ⟨ys, hy⟩⟩
    · rw [p3 i hi]
  · by_cases hi : i ∈ is
    · obtain ⟨a', ha', e4, ys, hy⟩ := paired_mem' hp i hi
      exact absurd hy (n ys)
    · rw [p3 i hi]
theorem ro_apart (R : Rel K B S H σ ρ) {ms : List Md} {as : List AV} {os rs : List Addr} (hp : Paired (fun (i : Nat) (a : Addr) => σ[i]? = some (some (.ref a)) ∧ ∃ ys, ρ[i]? = some (.own ys)) (ownIx ms as) os)
    (hr : ∀ a ∈ rs, (∃ o, S a = some o) ∨ ∃ i ∈ roIx ms as, σ[i]? = some (some (.ref a)) ∧ ((∃ ys, ρ[i]? = some (.own ys)) ∨ ∃ k ys, ρ[i]? = some (.ro k ys) ∧ ¬ OwnAt σ ρ a)) (hx : apartIx ms as = true) : ∀ a ∈ rs, a ∉ os := fun a ha hm => by
  rw [apartIx, Bool.and_eq_true] at hx
  obtain ⟨m, hm', e, ys, hy⟩ := paired_mem hp a hm
  rcases hr a ha with ⟨o, hs⟩ | ⟨i, hi, e', q⟩
  · have := (R.own_at ⟨m, _, ow hy, e⟩).1
    rw [hs] at this
    cases this
  · rcases q with ⟨zs, q⟩ | ⟨k, zs, q, n⟩
    · have em := R.sep i m _ _ a (ow q) (ow hy) e' e
      subst em
      have z := List.all_eq_true.mp hx.2 i hi
      rw [List.contains_iff_mem.mpr hm'] at z
      cases z
    · exact n ⟨m, _, ow hy, e⟩
end
def tCallF (f : FSpec) (t : VA) : VE := fun ρ Q => t ρ fun as ρ1 => match argD ρ1 f.modes as with
  | some xs => apartIx f.modes as = true ∧ f.pre xs ∧ ∀ r yss, f.post xs r yss → Q r (putOwn ρ1 (ownIx f.modes as) yss)
  | none => False
/-- a def that is known to keep its promise -/
structure Known (X : Cx) (lvl : Nat) (f : FSpec) : Prop where
  ok : ∃ (a : Addr) (fd : FuncData) (ps : List Str), FnOk X.prog X.w X.K X.mg X.base CX0 lvl a fd ps (spOf X.K f) ∧ X.mg f.name = some (.ref a) ∧ PySem.W.keepIn X.K (.ref a) = true ∧ Binds X.K fd ps []
  nd : (f.name == ("__debug__" : Str)) = false
section
variable {X : Cx} {pos p : Pos} {e : Expr} {es : List Expr} {lvl : Nat} {f : FSpec} {t : VA}
theorem call_core (hr : Room lvl X.A) (k : Known X lvl f) (hg : Gl X f.name) (h : JA X (e :: es) t) (hs : (e :: es).all notStar = true) {σ : L2.St} {S H : Hp} {ρ : R} {Q : D → R → Prop} (hR : Rel X.K (bd X) S H σ ρ) (ht : tCallF f t ρ Q) {Q' : VK}
    (hq : ∀ (v : V) (r : D) (H1 S2 H2 : Hp) (ρ2 : R), Rel X.K (bd X) S2 H2 σ ρ2 → Ext σ S H ρ S2 H2 ρ2 → (∀ b, H b ≠ none → H1 b ≠ none) → ResR f.new H1 S2 H2 v r → Q r ρ2 → Q' v H2) : W X (.Call (.Name f.name p) (e :: es) [] pos) σ H Q' := by
  obtain ⟨a, fd, ps, F, hm, hk, hb⟩ := k.ok
  rw [List.all_cons, Bool.and_eq_true] at hs
  refine W.of (pe_call F hr hg hm hk hb .nil pass0 paW k.nd (star_cons hs.1) (star_none hs.2)) ((h σ S H ρ _ hR ht).mono fun vs H1 q => ?_)
  obtain ⟨S1, ρ1, as, R1, E1, d1, q1⟩ := q
  split at q1
  · rename_i xs ex
    obtain ⟨hap, hpre, q1⟩ := q1
    obtain ⟨os, rs, A1, hp, hro⟩ := args_ok R1 d1 ex
    have hap' := hap
    rw [apartIx, Bool.and_eq_true] at hap'
    have hn := of_decide_eq_true hap'.1
    rw [List.append_nil]
    refine ⟨S1, xs, os, rs, R1.sub, A1, owns_nodup R1 hp hn, ro_apart R1 hp hro hap, hpre, fun r yss hpost v S2 H2 C O rr => ?_⟩
    obtain ⟨R2, E2⟩ := call_rel R1 hp hn C O
    exact hq v r H1 S2 H2 _ R2 (E1.trans E2) E1.there rr (q1 r yss hpost)
  · exact q1.elim
theorem je_call (hr : Room lvl X.A) (k : Known X lvl f) (hg : Gl X f.name) (h : JA X (e :: es) t) (hs : (e :: es).all notStar = true) (hf : f.new = false) : JE X (.Call (.Name f.name p) (e :: es) [] pos) (tCallF f t) := by
  intro σ S H ρ Q hR ht
  refine call_core hr k hg h hs hR ht fun v r H1 S2 H2 ρ2 R2 E _ rr q => ?_
  rw [hf] at rr
  exact ⟨S2, ρ2, r, R2, E, rr.rp, q⟩
theorem jn_call (hr : Room lvl X.A) (k : Known X lvl f) (hg : Gl X f.name) (h : JA X (e :: es) t) (hs : (e :: es).all notStar = true) (hf : f.new = true) : JN X (.Call (.Name f.name p) (e :: es) [] pos) (tCallF f t) := by
  intro σ S H ρ Q hR ht
  refine call_core hr k hg h hs hR ht fun v r H1 S2 H2 ρ2 R2 E th rr q => ?_
  rw [hf] at rr
  obtain ⟨a, ws, ds, rfl, rfl, h1, h2, h3, h4⟩ := rr.lst
  refine ⟨S2, ρ2, a, ws, ds, R2, E, rfl, ?_, h2, h3, h4, q⟩
  cases e : H a with
  | none => rfl
  | some o => exact absurd h1 (th a (by rw [e]; simp))
/-- f(e): e a new list that f may change -/
def tCallN (f : FSpec) (t : VE) : VE := fun ρ Q => f.modes = [.own] ∧ t ρ fun x ρ1 => f.pre [x] ∧ ∀ r yss, f.post [x] r yss → Q r ρ1
theorem je_callN {te : VE} (hr : Room lvl X.A) (k : Known X lvl f) (hg : Gl X f.name) (h : JN X e te) (hs : notStar e = true) (hf : f.new = false) : JE X (.Call (.Name f.name p) [e] [] pos) (tCallN f te) := by
  intro σ S H ρ Q hR ht
  obtain ⟨hmd, ht⟩ := ht
  obtain ⟨a, fd, ps, F, hm, hk, hb⟩ := k.ok
  refine W.of (pe_call F hr hg hm hk hb .nil pass0 (pa_cons peW pa_nil (star_cons hs)) k.nd (star_cons hs) rfl) ((h σ S H ρ _ hR ht).mono fun v H1 q => ?_)
  obtain ⟨S1, ρ1, c, vs, xs, R1, E1, rfl, hc, hcs, hcl, hd, hpre, q⟩ := q
  refine ⟨S1, [.list xs], [c], [], R1.sub, by rw [hmd]; exact .own hcs hcl hd .nil, by simp, fun _ hm => absurd hm (by simp), hpre, fun r yss hpost v S2 H2 C O rr => ?_⟩
  rw [hf] at rr
  have nc : ¬ OwnAt σ ρ1 c := fun z => own_new hR hc (E1.at.mpr z)
  -- all but the list at c is as after a call that changes nothing
  have kept : ∀ {b : Addr} {o : HO}, b ≠ c → H1 b = some o → H2 b = some o := fun {b o} n h => by
    cases hs : S1 b with
    | none => exact C.keep b o h hs (by simpa using n)
    | some o2 =>
      have e := R1.sub _ _ hs
      rw [h] at e
      cases e
      exact C.sub _ _ (C.same _ _ hs)
  have R2 : Rel X.K (bd X) S2 H2 σ ρ1 := by
    refine ⟨R1.len, C.sub, fun j x hx => ?_, fun j zs hx => ?_, fun j k zs hx => ?_, R1.sep, ?_⟩
    · obtain ⟨w, a, b⟩ := R1.val j x hx
      exact ⟨w, a, b.mono C.same⟩
    · obtain ⟨b, ws, b1, b2, b3, b4⟩ := R1.own j zs hx
      exact ⟨b, ws, b1, C.stay b (by rw [b3]; simp) b2, kept (fun z => nc ⟨j, _, ow hx, by rw [← z]; exact b1⟩) b3, b4.mono C.same⟩
    · have no : ∀ ys, ρ[j]? ≠ some (.own ys) := fun ys q => by
        obtain ⟨zs', q'⟩ := (E1.kind j).mp ⟨ys, q⟩
        rw [hx] at q'
        cases q'
      have e1 : ρ[j]? = some (.ro k zs) := by rw [← E1.oth j no]; exact hx
      obtain ⟨b, ws, b1, b2, b3⟩ := hR.ro j k zs e1
      refine ⟨b, ws, b1, b2.to (fun o q nb => ?_) (fun _ z => E1.at.mpr z), b3.mono (E1.same.trans C.same)⟩
      have hb : b ≠ c := fun z => by rw [z, hc] at q; cases q
      refine kept hb ?_
      cases hs : S b with
      | none => exact E1.keep b o q hs nb
      | some o2 =>
        have e2 := hR.sub _ _ hs
        rw [q] at e2
        cases e2
        exact R1.sub _ _ (E1.same _ _ hs)
    · exact R1.vir.to (fun _ _ q _ => ⟨q, rfl⟩) (fun _ _ => rfl) (fun i k is a u q1 q2 q3 q4 => ⟨C.stay a (by rw [q4]; simp) q3, kept (fun z => nc ⟨i, _, ⟨q1, rfl⟩, by rw [← z]; exact q2⟩) q4⟩) (fun d e q1 q2 n => ⟨C.stay d (by rw [q1]; simp) q2, kept (fun z => by rw [z, hcl] at q1; cases q1) q1, n⟩)
  refine ⟨S2, ρ1, r, R2, ⟨E1.same.trans C.same, fun b h => C.there b (E1.there b h), fun b h h0 => C.stay b (E1.there b h) (E1.stay b h h0), fun b o h h0 n => ?_, E1.kind, E1.oth⟩, rr.rp, q r yss hpost⟩
  exact kept (fun z => by rw [z, hc] at h; cases h) (E1.keep b o h h0 n)
end
end WA

/-! WA9: statements. -/
namespace WA
open PySem PySem.Spec PyProof.Rows L2

/-- what a statement leaves of what stood; F: the slots that keep their list -/
structure XS (F : List Nat) (σ : L2.St) (S H : Hp) (ρ : R) (σ' : L2.St) (S' H' : Hp) (ρ' : R) : Prop where
  same : Same S S'
  there : ∀ b, H b ≠ none → H' b ≠ none
  stay : ∀ b, H b ≠ none → S b = none → ¬ OwnAt σ ρ b → S' b = none
  keep : ∀ b o, H b = some o → S b = none → ¬ OwnAt σ ρ b → H' b = some o
  own : ∀ b, OwnAt σ' ρ' b → OwnAt σ ρ b ∨ H b = none
  fix : ∀ i ∈ F, σ'[i]? = σ[i]?
  kind : ∀ i ∈ F, (∃ xs, ρ[i]? = some (.own xs)) → ∃ xs, ρ'[i]? = some (.own xs)
section
variable {F : List Nat} {σ σ1 σ2 : L2.St} {S H S1 H1 S2 H2 : Hp} {ρ ρ1 ρ2 : R} {K : PySem.W.Frag} {B : Nat}
theorem XS.refl : XS F σ S H ρ σ S H ρ := ⟨Same.refl _, fun _ h => h, fun _ _ h _ => h, fun _ _ h _ _ => h, fun _ h => .inl h, fun _ _ => rfl, fun _ _ h => h⟩
theorem XS.trans (a : XS F σ S H ρ σ1 S1 H1 ρ1) (b : XS F σ1 S1 H1 ρ1 σ2 S2 H2 ρ2) : XS F σ S H ρ σ2 S2 H2 ρ2 := by
  have no : ∀ {c : Addr}, H c ≠ none → ¬ OwnAt σ ρ c → ¬ OwnAt σ1 ρ1 c := fun {c} h n z => by
    rcases a.own c z with q | q
    · exact n q
    · exact h q
  refine ⟨a.same.trans b.same, fun c h => b.there c (a.there c h), fun c h h' n => b.stay c (a.there c h) (a.stay c h h' n) (no h n), fun c o h h' n => ?_, fun c h => ?_, fun i hi => (b.fix i hi).trans (a.fix i hi), fun i hi h => b.kind i hi (a.kind i hi h)⟩
  · have hc : H c ≠ none := by rw [h]; simp
    exact b.keep c o (a.keep c o h h' n) (a.stay c hc h' n) (no hc n)
  · rcases b.own c h with q | q
    · exact a.own c q
    · refine .inr ?_
      cases e : H c with
      | none => rfl
      | some o => exact absurd q (a.there c (by rw [e]; simp))
theorem Ext.xs (E : Ext σ S H ρ S1 H1 ρ1) : XS F σ S H ρ σ S1 H1 ρ1 := ⟨E.same, E.there, fun b h h' _ => E.stay b h h', E.keep, fun b h => .inl (E.at.mpr h), fun _ _ => rfl, fun i _ h => (E.kind i).mp h⟩
theorem XS.weak {F' : List Nat} (a : XS F' σ S H ρ σ1 S1 H1 ρ1) (h : ∀ i ∈ F, i ∈ F') : XS F σ S H ρ σ1 S1 H1 ρ1 := ⟨a.same, a.there, a.stay, a.keep, a.own, fun i hi => a.fix i (h i hi), fun i hi => a.kind i (h i hi)⟩
end
def RetR (new : Fs) (F : List Nat) (H S' H' : Hp) (σ' : L2.St) (ρ' : R) (v : V) (x : D) : Prop := ∃ as, OwnF S' H' new [v] [x] as ∧ as.Nodup ∧ ∀ a ∈ as, S' a = none ∧ ((∃ (i : Nat) (s : Sl), i ∉ F ∧ Ow ρ' i s ∧ σ'[i]? = some (some (.ref a))) ∨ H a = none)
theorem RetR.back {new : Fs} {F : List Nat} {H H0 S' H' : Hp} {σ' : L2.St} {ρ' : R} {v : V} {x : D} (h : RetR new F H S' H' σ' ρ' v x) (th : ∀ b, H0 b ≠ none → H b ≠ none) : RetR new F H0 S' H' σ' ρ' v x := by
  obtain ⟨as, h1, h2, h3⟩ := h
  refine ⟨as, h1, h2, fun a ha => ⟨(h3 a ha).1, ?_⟩⟩
  rcases (h3 a ha).2 with q | q
  · exact .inl q
  · refine .inr ?_
    cases e : H0 a with
    | none => rfl
    | some o => exact absurd q (th a (by rw [e]; simp))
theorem RetR.of {F : List Nat} {H S' H' : Hp} {σ' : L2.St} {ρ' : R} {v : V} {x : D} (h : Rp S' v x) : RetR false F H S' H' σ' ρ' v x := ⟨[], ⟨v, x, [], [], rfl, rfl, h, rfl, rfl, rfl⟩, by simp, fun _ h => by cases h⟩
theorem RetR.lst {F : List Nat} {H S' H' : Hp} {σ' : L2.St} {ρ' : R} {a : Addr} {ws : List V} {ds : List D} (h1 : S' a = none) (h2 : H' a = some (.lst ws)) (h3 : RpAll S' ws ds) (h4 : (∃ (i : Nat) (s : Sl), i ∉ F ∧ Ow ρ' i s ∧ σ'[i]? = some (some (.ref a))) ∨ H a = none) : RetR true F H S' H' σ' ρ' (.ref a) (.list ds) :=
  ⟨[a], ⟨a, ws, ds, [], [], [], rfl, rfl, rfl, h2, h3, rfl, rfl, rfl⟩, by simp, fun b hb => by
    rw [List.mem_singleton.mp hb]
    exact ⟨h1, h4⟩⟩
abbrev VS := R → (R → Prop) → (D → R → Prop) → Prop
def endsS (X : Cx) (new : Fs) (F : List Nat) (σ : L2.St) (S H : Hp) (ρ : R) (Qn : R → Prop) (Qr : D → R → Prop) : Ends where
  nx := fun σ' H' => ∃ S' ρ', Rel X.K (bd X) S' H' σ' ρ' ∧ XS F σ S H ρ σ' S' H' ρ' ∧ Qn ρ'
  rt := fun v H' => ∃ σ' S' ρ' x, Rel X.K (bd X) S' H' σ' ρ' ∧ XS F σ S H ρ σ' S' H' ρ' ∧ RetR new F H S' H' σ' ρ' v x ∧ Qr x ρ'
def JS (X : Cx) (new : Fs) (F : List Nat) (st : Stmt) (t : VS) : Prop := ∀ σ S H ρ Qn Qr, Rel X.K (bd X) S H σ ρ → t ρ Qn Qr → WS X st (endsS X new F σ S H ρ Qn Qr) σ H
def JSs (X : Cx) (new : Fs) (F : List Nat) (st : List Stmt) (t : VS) : Prop := ∀ σ S H ρ Qn Qr, Rel X.K (bd X) S H σ ρ → t ρ Qn Qr → WSs X st (endsS X new F σ S H ρ Qn Qr) σ H
theorem SP.mono {X : Cx} {pins : List (Addr × Obj)} {D D' : Ends} {f : Flow} {s : Shared} (h : SP X pins D f s) (h1 : ∀ σ H, D.nx σ H → D'.nx σ H) (h2 : ∀ v H, D.rt v H → D'.rt v H) (h3 : ∀ σ H, D.bk σ H → D'.bk σ H) (h4 : ∀ σ H, D.ct σ H → D'.ct σ H) : SP X pins D' f s := by
  cases f with
  | next => obtain ⟨σ', H', I, q⟩ := h; exact ⟨σ', H', I, h1 _ _ q⟩
  | brk => obtain ⟨σ', H', I, q⟩ := h; exact ⟨σ', H', I, h3 _ _ q⟩
  | cont => obtain ⟨σ', H', I, q⟩ := h; exact ⟨σ', H', I, h4 _ _ q⟩
  | ret u => obtain ⟨v, σ', H', I, r, q⟩ := h; exact ⟨v, σ', H', I, r, h2 _ _ q⟩
theorem WS.mono {X : Cx} {st : Stmt} {D D' : Ends} {σ : L2.St} {H : Hp} (h : WS X st D σ H) (h1 : ∀ σ H, D.nx σ H → D'.nx σ H) (h2 : ∀ v H, D.rt v H → D'.rt v H) (h3 : ∀ σ H, D.bk σ H → D'.bk σ H) (h4 : ∀ σ H, D.ct σ H → D'.ct σ H) : WS X st D' σ H := fun pins s I =>
  thn (h pins s I) fun _ _ q => SP.mono q h1 h2 h3 h4
theorem WSs.mono {X : Cx} {st : List Stmt} {D D' : Ends} {σ : L2.St} {H : Hp} (h : WSs X st D σ H) (h1 : ∀ σ H, D.nx σ H → D'.nx σ H) (h2 : ∀ v H, D.rt v H → D'.rt v H) (h3 : ∀ σ H, D.bk σ H → D'.bk σ H) (h4 : ∀ σ H, D.ct σ H → D'.ct σ H) : WSs X st D' σ H := fun pins s I =>
  thn (h pins s I) fun _ _ q => SP.mono q h1 h2 h3 h4
section
variable {X : Cx} {new : Fs} {F : List Nat} {σ σ1 : L2.St} {S H S1 H1 : Hp} {ρ ρ1 : R} {Qn : R → Prop} {Qr : D → R → Prop} {pos : Pos} {e a b : Expr}
/-- what is wanted later, from further on -/
theorem ends_nx (E : XS F σ S H ρ σ1 S1 H1 ρ1) {σ2 : L2.St} {H2 : Hp} (h : (endsS X new F σ1 S1 H1 ρ1 Qn Qr).nx σ2 H2) : (endsS X new F σ S H ρ Qn Qr).nx σ2 H2 := by
  obtain ⟨S', ρ', R', E', q⟩ := h
  exact ⟨S', ρ', R', E.trans E', q⟩
theorem ends_rt (E : XS F σ S H ρ σ1 S1 H1 ρ1) {Qn' : R → Prop} {v : V} {H2 : Hp} (h : (endsS X new F σ1 S1 H1 ρ1 Qn' Qr).rt v H2) : (endsS X new F σ S H ρ Qn Qr).rt v H2 := by
  obtain ⟨σ', S', ρ', x, R', E', r, q⟩ := h
  exact ⟨σ', S', ρ', x, R', E.trans E', r.back E.there, q⟩
/-! blocks -/
def tSNil : VS := fun ρ Qn _ => Qn ρ
def tSCons (t u : VS) : VS := fun ρ Qn Qr => t ρ (fun ρ1 => u ρ1 Qn Qr) Qr
theorem jss_nil : JSs X new F [] tSNil := fun σ S H ρ Qn Qr hR ht => WSs.of pss_nil ⟨S, ρ, hR, .refl, ht⟩
theorem jss_cons {st : Stmt} {sts : List Stmt} {t u : VS} (h1 : JS X new F st t) (h2 : JSs X new F sts u) : JSs X new F (st :: sts) (tSCons t u) := by
  intro σ S H ρ Qn Qr hR ht
  refine WSs.of (pss_cons psW pssW) ((h1 σ S H ρ _ Qr hR ht).mono (fun σ1 H1 q => ?_) (fun v H1 q => ?_) (fun _ _ q => q.elim) (fun _ _ q => q.elim))
  · obtain ⟨S1, ρ1, R1, E1, q⟩ := q
    exact (h2 σ1 S1 H1 ρ1 Qn Qr R1 q).mono (fun _ _ z => ends_nx E1 z) (fun _ _ z => ends_rt E1 z) (fun _ _ q => q.elim) (fun _ _ q => q.elim)
  · obtain ⟨σ', S', ρ', x, R', E', r, q⟩ := q
    exact ⟨σ', S', ρ', x, R', E', r, q⟩
theorem js_pass : JS X new F (.Pass pos) tSNil := fun σ S H ρ Qn Qr hR ht => WS.of ps_pass ⟨S, ρ, hR, .refl, ht⟩
/-! name = value -/
def tAsgV (i : Nat) (t : VT) : VS := fun ρ Qn _ => t ρ fun u ρ1 => match u with
  | .val d => Qn (ρ1.set i (.v d))
  | _ => False
theorem xs_set {i : Nat} {v : Option V} {s : Sl} (hi : i ∉ F) (hs : s.owns = false) : XS F σ S H ρ (σ.set i v) S H (ρ.set i s) := by
  refine ⟨Same.refl _, fun _ h => h, fun _ _ h _ => h, fun _ _ h _ _ => h, fun b z => .inl (own_set hs z), fun j hj => List.getElem?_set_ne fun z => hi (by rw [z]; exact hj), fun j hj h => ?_⟩
  · rw [List.getElem?_set_ne fun z => hi (by rw [z]; exact hj)]
    exact h
/-- a name may be stored to -/
structure Sn (X : Cx) (i : Nat) (x : Str) : Prop where
  n : X.N[i]? = some x
  l : Loc X.env.scope x
  f : X.fn x = true ∨ X.env.scope.names.lookup x = some .local
  b : i < bd X
theorem js_set {i : Nat} {x : Str} {pos' : Pos} {t : VT} (nd : X.N.Nodup) (hn : Sn X i x) (hi : i ∉ F) (h : JT X e t) (hs : swapsWith e (some (.Name x pos')) pos.line X.env = pure false) : JS X new F (.Assign [.Name x pos'] e pos) (tAsgV i t) := by
  intro σ S H ρ Qn Qr hR ht
  refine WS.of (ps_set nd hn.n hn.l peW hs hn.f) ((h σ S H ρ _ hR ht).mono fun v H1 q => ?_)
  obtain ⟨S1, ρ1, u, R1, E1, d1, q1⟩ := q
  split at q1
  · rename_i d
    exact ⟨S1, _, R1.setv hn.b d1, E1.xs.trans (xs_set hi rfl), q1⟩
  · exact q1.elim
/-! name = a new list, to be changed -/
def tAsgO (i : Nat) (t : VE) : VS := fun ρ Qn _ => t ρ fun x ρ1 => match x with
  | .list xs => Qn (ρ1.set i (.own xs))
  | _ => False
theorem Rel.setO {K : PySem.W.Frag} {B : Nat} {i : Nat} {c : Addr} {vs : List V} {xs : List D} (hi : i < B) (hR : Rel K B S H σ ρ) (E : Ext σ S H ρ S1 H1 ρ1) (hc0 : H c = none) (h : Rel K B S1 H1 σ ρ1) (hcs : S1 c = none) (hcl : H1 c = some (.lst vs)) (hd : RpAll S1 vs xs) : Rel K B S1 H1 (σ.set i (some (.ref c))) (ρ1.set i (.own xs)) := by
  have hc : ¬ OwnAt σ ρ1 c := fun z => own_new hR hc0 (E.at.mpr z)
  have oa : ∀ {b : Addr}, b ≠ c → OwnAt (σ.set i (some (.ref c))) (ρ1.set i (.own xs)) b → OwnAt σ ρ1 b := fun {b} hb ⟨m, us, hm, e⟩ => by
    rcases get_set hm.1 with ⟨rfl, q', hm'⟩ | ⟨n', q'⟩
    · rw [List.getElem?_set_self (by rw [h.len]; exact hm')] at e
      cases e
      exact absurd rfl hb
    · rw [List.getElem?_set_ne fun z => n' z.symm] at e
      exact ⟨m, us, ⟨q', hm.2⟩, e⟩
  refine ⟨by rw [List.length_set, List.length_set]; exact h.len, h.sub, fun j x hx => ?_, fun j zs hx => ?_, fun j k zs hx => ?_, fun j k s t b h1 h2 h3 h4 => ?_, ?_⟩
  · rcases get_set hx with ⟨rfl, q, _⟩ | ⟨n, q⟩
    · cases q
    · rw [List.getElem?_set_ne fun z => n z.symm]
      exact h.val j x q
  · rcases get_set hx with ⟨rfl, q, hi⟩ | ⟨n, q⟩
    · cases q
      exact ⟨c, vs, List.getElem?_set_self (by rw [h.len]; exact hi), hcs, hcl, hd⟩
    · rw [List.getElem?_set_ne fun z => n z.symm]
      exact h.own j zs q
  · rcases get_set hx with ⟨rfl, q, _⟩ | ⟨n, q⟩
    · cases q
    · have no : ∀ ys, ρ[j]? ≠ some (.own ys) := fun ys q' => by
        obtain ⟨zs', q''⟩ := (E.kind j).mp ⟨ys, q'⟩
        rw [q] at q''
        cases q''
      have e1 : ρ[j]? = some (.ro k zs) := by rw [← E.oth j no]; exact q
      obtain ⟨b, ws, b1, b2, b3⟩ := hR.ro j k zs e1
      refine ⟨b, ws, by rw [List.getElem?_set_ne fun z => n z.symm]; exact b1, b2.to (fun o q' nb => ?_) (fun hb z => E.at.mpr (oa (fun e => hb (by rw [e]; exact hc0)) z)), b3.mono E.same⟩
      cases hs : S b with
      | none => exact E.keep b o q' hs nb
      | some o2 =>
        have e2 := hR.sub _ _ hs
        rw [q'] at e2
        cases e2
        exact h.sub _ _ (E.same _ _ hs)
  · rcases get_set h1.1 with ⟨rfl, q, hj⟩ | ⟨n1, q1⟩
    · rcases get_set h2.1 with ⟨rfl, _, _⟩ | ⟨n2, q2⟩
      · rfl
      · rw [List.getElem?_set_self (by rw [h.len]; exact hj)] at h3
        cases h3
        rw [List.getElem?_set_ne fun z => n2 z.symm] at h4
        exact absurd ⟨k, t, ⟨q2, h2.2⟩, h4⟩ hc
    · rcases get_set h2.1 with ⟨rfl, _, hk⟩ | ⟨n2, q2⟩
      · rw [List.getElem?_set_self (by rw [h.len]; exact hk)] at h4
        cases h4
        rw [List.getElem?_set_ne fun z => n1 z.symm] at h3
        exact absurd ⟨j, s, ⟨q1, h1.2⟩, h3⟩ hc
      · rw [List.getElem?_set_ne fun z => n1 z.symm] at h3
        rw [List.getElem?_set_ne fun z => n2 z.symm] at h4
        exact h.sep _ _ _ _ b ⟨q1, h1.2⟩ ⟨q2, h2.2⟩ h3 h4
  · refine h.vir.to (fun j s q l => ?_) (fun m hm => List.getElem?_set_ne (by omega)) (fun _ _ _ _ _ _ _ q1 q2 => ⟨q1, q2⟩) (fun d e q1 q2 n => ⟨q2, q1, fun z => n (oa (fun e' => by rw [e', hcl] at q1; cases q1) z)⟩)
    rcases get_set q with ⟨rfl, q, _⟩ | ⟨n, q⟩
    · rw [q] at l; cases l
    · exact ⟨q, List.getElem?_set_ne fun z => n z.symm⟩
theorem xs_setO {i : Nat} {c : Addr} {xs : List D} (hi : i ∉ F) (E : Ext σ S H ρ S1 H1 ρ1) (hc : H c = none) : XS F σ S H ρ (σ.set i (some (.ref c))) S1 H1 (ρ1.set i (.own xs)) := by
  refine ⟨E.same, E.there, fun b h h' _ => E.stay b h h', E.keep, fun b ⟨j, ys, h1, h2⟩ => ?_, fun j hj => List.getElem?_set_ne fun z => hi (by rw [z]; exact hj), fun j hj h => ?_⟩
  · rcases get_set h1.1 with ⟨rfl, q, hj⟩ | ⟨n, q⟩
    · by_cases hl : j < σ.length
      · rw [List.getElem?_set_self hl] at h2
        cases h2
        exact .inr hc
      · rw [List.getElem?_eq_none (by rw [List.length_set]; omega)] at h2
        cases h2
    · rw [List.getElem?_set_ne fun z => n z.symm] at h2
      exact .inl (E.at.mpr ⟨j, ys, ⟨q, h1.2⟩, h2⟩)
  · rw [List.getElem?_set_ne fun z => hi (by rw [z]; exact hj)]
    exact (E.kind j).mp h
end
end WA

/-! WA10: statements, loops, defs. -/
namespace WA
open PySem PySem.Spec PyProof.Rows L2
section
variable {X : Cx} {new : Fs} {F : List Nat} {σ σ1 : L2.St} {S H S1 H1 : Hp} {ρ ρ1 : R} {Qn : R → Prop} {Qr : D → R → Prop} {pos : Pos} {e a b : Expr}
theorem js_setO {i : Nat} {x : Str} {pos' : Pos} {t : VE} (nd : X.N.Nodup) (hn : Sn X i x) (hi : i ∉ F) (h : JN X e t) (hs : swapsWith e (some (.Name x pos')) pos.line X.env = pure false) : JS X new F (.Assign [.Name x pos'] e pos) (tAsgO i t) := by
  intro σ S H ρ Qn Qr hR ht
  refine WS.of (ps_set nd hn.n hn.l peW hs hn.f) ((h σ S H ρ _ hR ht).mono fun v H1 q => ?_)
  obtain ⟨S1, ρ1, c, vs, xs, R1, E1, rfl, hc, hcs, hcl, hd, q⟩ := q
  exact ⟨S1, _, Rel.setO hn.b hR E1 hc R1 hcs hcl hd, xs_setO hi E1 hc, q⟩
/-! an own list is known from now on -/
theorem Rel.frz {K : PySem.W.Frag} {B : Nat} {j : Nat} {c : Addr} {vs : List V} {xs ys : List D} (h : Rel K B S H σ ρ) (ho : ρ[j]? = some (.own xs)) (ha : σ[j]? = some (some (.ref c))) (hl : H c = some (.lst vs)) (hd : RpAll S vs xs) : Rel K B (upd S c (.lst vs)) H σ (ρ.set j (.v (.list xs))) := by
  have hS : S c = none := (h.own_at ⟨j, _, ow ho, ha⟩).1
  have hj : j < ρ.length := (List.getElem?_eq_some_iff.mp ho).1
  have sm := same_upd (H := S) (p := c) (o := .lst vs) hS
  have oa : ∀ {b : Addr}, OwnAt σ (ρ.set j (.v (.list xs))) b → OwnAt σ ρ b := fun {b} ⟨m, us, hm, e⟩ => by
    rcases get_set hm.1 with ⟨rfl, q', _⟩ | ⟨n', q'⟩
    · have := hm.2
      rw [q'] at this; cases this
    · exact ⟨m, us, ⟨q', hm.2⟩, e⟩
  refine ⟨by rw [List.length_set]; exact h.len, fun b x e => ?_, fun i x hx => ?_, fun i zs hx => ?_, fun i k zs hx => ?_, fun i k s t b h1 h2 h3 h4 => ?_, ?_⟩
  · by_cases hb : b = c
    · subst hb
      rw [upd_same] at e
      cases e
      exact hl
    · rw [upd_ne hb] at e
      exact h.sub _ _ e
  · rcases get_set hx with ⟨rfl, q, _⟩ | ⟨n, q⟩
    · cases q
      exact ⟨_, ha, .lst upd_same (hd.mono sm)⟩
    · obtain ⟨w, a, b⟩ := h.val i x q
      exact ⟨w, a, b.mono sm⟩
  · rcases get_set hx with ⟨rfl, q, _⟩ | ⟨n, q⟩
    · cases q
    · obtain ⟨b, ws, b1, b2, b3, b4⟩ := h.own i zs q
      have nb : b ≠ c := fun z => n (h.sep i j _ _ b (ow q) (ow ho) b1 (by rw [z]; exact ha))
      exact ⟨b, ws, b1, by rw [upd_ne nb]; exact b2, b3, b4.mono sm⟩
  · rcases get_set hx with ⟨rfl, q, _⟩ | ⟨n, q⟩
    · cases q
    · obtain ⟨b, ws, b1, b2, b3⟩ := h.ro i k zs q
      exact ⟨b, ws, b1, b2.to (fun o e _ => e) (fun _ z => oa z), b3.mono sm⟩
  · rcases get_set h1.1 with ⟨_, q, _⟩ | ⟨n1, q1⟩
    · have := h1.2
      rw [q] at this; cases this
    · rcases get_set h2.1 with ⟨_, q, _⟩ | ⟨n2, q2⟩
      · have := h2.2
        rw [q] at this; cases this
      · exact h.sep _ _ _ _ b ⟨q1, h1.2⟩ ⟨q2, h2.2⟩ h3 h4
  · refine h.vir.to (fun m s q l => ?_) (fun _ _ => rfl) (fun m k is a u q1 q2 q3 q4 => ⟨?_, q4⟩) (fun d e q1 q2 n => ⟨by rw [upd_ne (fun z => by rw [z, hl] at q1; cases q1)]; exact q2, q1, fun z => n (oa z)⟩)
    · rcases get_set q with ⟨rfl, q, _⟩ | ⟨n, q⟩
      · rw [q] at l; cases l
      · exact ⟨q, rfl⟩
    · have n : m ≠ j := fun z => by rw [z, ho] at q1; cases q1
      rw [upd_ne (fun z => n (h.sep m j _ _ a ⟨q1, rfl⟩ (ow ho) q2 (by rw [z]; exact ha)))]
      exact q3
theorem xs_frz {K : PySem.W.Frag} {B : Nat} {j : Nat} {c : Addr} {vs : List V} {xs : List D} (h : Rel K B S H σ ρ) (hj : j ∉ F) (ho : ρ[j]? = some (.own xs)) (ha : σ[j]? = some (some (.ref c))) (hl : H c = some (.lst vs)) : XS F σ S H ρ σ (upd S c (.lst vs)) H (ρ.set j (.v (.list xs))) := by
  have hS : S c = none := (h.own_at ⟨j, _, ow ho, ha⟩).1
  refine ⟨same_upd hS, fun _ h => h, fun b _ hb n => ?_, fun _ _ h _ _ => h, fun b ⟨i, ys, h1, h2⟩ => ?_, fun _ _ => rfl, fun i hi h => ?_⟩
  · rw [upd_ne (fun z => n ⟨j, _, ow ho, by rw [z]; exact ha⟩)]
    exact hb
  · rcases get_set h1.1 with ⟨_, q, _⟩ | ⟨_, q⟩
    · have := h1.2
      rw [q] at this; cases this
    · exact .inl ⟨i, ys, ⟨q, h1.2⟩, h2⟩
  · rw [List.getElem?_set_ne fun z => hj (by rw [z]; exact hi)]
    exact h
/-- an own list is moved to another name -/
theorem Rel.mv {K : PySem.W.Frag} {B : Nat} {i j : Nat} {c : Addr} {xs : List D} (hi : i < B) (h : Rel K B S H σ ρ) (ho : ρ[j]? = some (.own xs)) (ha : σ[j]? = some (some (.ref c))) : Rel K B S H (σ.set i (some (.ref c))) ((ρ.set j .no).set i (.own xs)) := by
  obtain ⟨c', vs, e1, hS, hl, hd⟩ := h.own j xs ho
  rw [ha] at e1
  cases e1
  have out : ∀ {k : Nat} {s : Sl}, ((ρ.set j .no).set i (.own xs))[k]? = some s → s ≠ .no → (k = i ∧ s = .own xs ∧ i < ρ.length) ∨ (k ≠ i ∧ k ≠ j ∧ ρ[k]? = some s) := fun {k s} hx n => by
    rcases get_set hx with ⟨e, q, hi⟩ | ⟨n1, q⟩
    · rw [List.length_set] at hi
      exact .inl ⟨e, q, hi⟩
    · rcases get_set q with ⟨_, q, _⟩ | ⟨n2, q⟩
      · exact absurd q n
      · exact .inr ⟨n1, n2, q⟩
  have at_i : i < ρ.length → (σ.set i (some (.ref c)))[i]? = some (some (.ref c)) := fun hi => List.getElem?_set_self (by rw [h.len]; exact hi)
  have at_k : ∀ {k : Nat}, k ≠ i → (σ.set i (some (V.ref c)))[k]? = σ[k]? := fun {k} n => List.getElem?_set_ne fun z => n z.symm
  have oa : ∀ {b : Addr}, OwnAt (σ.set i (some (.ref c))) ((ρ.set j .no).set i (.own xs)) b → OwnAt σ ρ b := fun {b} ⟨m', us, hm, e⟩ => by
    rcases out hm.1 (fun z => by have := hm.2; rw [z] at this; cases this) with ⟨rfl, q', hi⟩ | ⟨n3, n4, q'⟩
    · rw [at_i hi] at e
      cases e
      exact ⟨j, _, ow ho, ha⟩
    · rw [at_k n3] at e
      exact ⟨m', us, ⟨q', hm.2⟩, e⟩
  refine ⟨by simp only [List.length_set]; exact h.len, h.sub, fun k x hx => ?_, fun k zs hx => ?_, fun k m zs hx => ?_, fun k m s t b h1 h2 h3 h4 => ?_, ?_⟩
  · rcases out hx (fun z => by cases z) with ⟨_, q, _⟩ | ⟨n1, n2, q⟩
    · cases q
    · rw [at_k n1]
      exact h.val k x q
  · rcases out hx (fun z => by cases z) with ⟨rfl, q, hi⟩ | ⟨n1, n2, q⟩
    · cases q
      exact ⟨c, vs, at_i hi, hS, hl, hd⟩
    · rw [at_k n1]
      exact h.own k zs q
  · rcases out hx (fun z => by cases z) with ⟨_, q, _⟩ | ⟨n1, n2, q⟩
    · cases q
    · obtain ⟨b, ws, b1, b2, b3⟩ := h.ro k m zs q
      exact ⟨b, ws, by rw [at_k n1]; exact b1, b2.to (fun o e _ => e) (fun _ z => oa z), b3⟩
  · rcases out h1.1 (fun z => by have := h1.2; rw [z] at this; cases this) with ⟨rfl, q1, hi⟩ | ⟨n1, n2, q1⟩
    · rcases out h2.1 (fun z => by have := h2.2; rw [z] at this; cases this) with ⟨rfl, q2, _⟩ | ⟨n3, n4, q2⟩
      · rfl
      · rw [at_i hi] at h3
        cases h3
        rw [at_k n3] at h4
        exact absurd (h.sep m j _ _ c ⟨q2, h2.2⟩ (ow ho) h4 ha) n4
    · rcases out h2.1 (fun z => by have := h2.2; rw [z] at this; cases this) with ⟨rfl, q2, hi⟩ | ⟨n3, n4, q2⟩
      · rw [at_i hi] at h4
        cases h4
        rw [at_k n1] at h3
        exact absurd (h.sep k j _ _ c ⟨q1, h1.2⟩ (ow ho) h3 ha) n2
      · rw [at_k n1] at h3
        rw [at_k n3] at h4
        exact h.sep _ _ _ _ b ⟨q1, h1.2⟩ ⟨q2, h2.2⟩ h3 h4
  · refine h.vir.to (fun m s q l => ?_) (fun m hm => at_k (by omega)) (fun _ _ _ _ _ _ _ q1 q2 => ⟨q1, q2⟩) (fun d e q1 q2 n => ⟨q2, q1, fun z => n (oa z)⟩)
    rcases out q (fun z => by rw [z] at l; cases l) with ⟨rfl, q1, hi⟩ | ⟨n1, n2, q1⟩
    · rw [q1] at l; cases l
    · exact ⟨q1, at_k n1⟩
theorem xs_mv {i j : Nat} {c : Addr} {xs : List D} (hl : σ.length = ρ.length) (hi : i ∉ F) (hj : j ∉ F) (ho : ρ[j]? = some (.own xs)) (ha : σ[j]? = some (some (.ref c))) : XS F σ S H ρ (σ.set i (some (.ref c))) S H ((ρ.set j .no).set i (.own xs)) := by
  refine ⟨Same.refl _, fun _ h => h, fun _ _ h _ => h, fun _ _ h _ _ => h, fun b ⟨k, ys, h1, h2⟩ => ?_, fun k hk => List.getElem?_set_ne fun z => hi (by rw [z]; exact hk), fun k hk h => ?_⟩
  · rcases get_set h1.1 with ⟨rfl, q, hk⟩ | ⟨n, q⟩
    · rw [List.length_set] at hk
      rw [List.getElem?_set_self (by rw [hl]; exact hk)] at h2
      cases h2
      exact .inl ⟨j, _, ow ho, ha⟩
    · rw [List.getElem?_set_ne fun z => n z.symm] at h2
      rcases get_set q with ⟨_, q, _⟩ | ⟨_, q⟩
      · have := h1.2
        rw [q] at this; cases this
      · exact .inl ⟨k, ys, ⟨q, h1.2⟩, h2⟩
  · rw [List.getElem?_set_ne fun z => hi (by rw [z]; exact hk), List.getElem?_set_ne fun z => hj (by rw [z]; exact hk)]
    exact h
/-- a read list is handed to another name -/
theorem Rel.cp {K : PySem.W.Frag} {B : Nat} {i j : Nat} {v : V} {k : Bool} {xs : List D} (hi : i < B) (h : Rel K B S H σ ρ) (ho : ρ[j]? = some (.ro k xs)) (ha : σ[j]? = some (some v)) : Rel K B S H (σ.set i (some v)) (ρ.set i (.ro k xs)) := by
  refine ⟨by simp only [List.length_set]; exact h.len, h.sub, fun m x hx => ?_, fun m zs hx => ?_, fun m l zs hx => ?_, fun m l s t b h1 h2 h3 h4 => sep_set rfl h h1 h2 h3 h4, h.vir.set hi rfl fun b z _ => own_set rfl z⟩
  · rcases get_set hx with ⟨_, q, _⟩ | ⟨n, q⟩
    · cases q
    · rw [List.getElem?_set_ne fun z => n z.symm]
      exact h.val m x q
  · rcases get_set hx with ⟨_, q, _⟩ | ⟨n, q⟩
    · cases q
    · rw [List.getElem?_set_ne fun z => n z.symm]
      exact h.own m zs q
  · have own' : ∀ {b : Addr}, OwnAt (σ.set i (some v)) (ρ.set i (.ro k xs)) b → OwnAt σ ρ b := fun {b} z => own_set rfl z
    rcases get_set hx with ⟨rfl, q, hi⟩ | ⟨n, q⟩
    · cases q
      obtain ⟨b, ws, b1, b2, b3⟩ := h.ro j k xs ho
      rw [ha] at b1
      cases b1
      exact ⟨b, ws, List.getElem?_set_self (by rw [h.len]; exact hi), b2.to (fun o e _ => e) (fun _ => own'), b3⟩
    · obtain ⟨b, ws, b1, b2, b3⟩ := h.ro m l zs q
      exact ⟨b, ws, by rw [List.getElem?_set_ne fun z => n z.symm]; exact b1, b2.to (fun o e _ => e) (fun _ => own'), b3⟩
/-- name = name: of a list -/
def tMv (own : Bool) (F : List Nat) (i j : Nat) : VS := fun ρ Qn _ => match ρ[j]? with
  | some (.v x) => Qn (ρ.set i (.v x))
  | some (.own xs) => F.contains j = false ∧ (match own with
      | true => Qn ((ρ.set j .no).set i (.own xs))
      | false => Qn ((ρ.set j (.v (.list xs))).set i (.v (.list xs))))
  | some (.ro k xs) => Qn (ρ.set i (.ro k xs))
  | _ => False
theorem nin_of {F : List Nat} {j : Nat} (h : F.contains j = false) : j ∉ F := fun z => by
  rw [List.contains_iff_mem.mpr z] at h
  cases h
theorem js_mv {own : Bool} {i j : Nat} {x y : Str} {pos' p : Pos} (nd : X.N.Nodup) (hn : Sn X i x) (hi : i ∉ F) (hy : Nm X j y) (hs : swapsWith (.Name y p) (some (.Name x pos')) pos.line X.env = pure false) : JS X new F (.Assign [.Name x pos'] (.Name y p) pos) (tMv own F i j) := by
  intro σ S H ρ Qn Qr hR ht
  refine WS.of (ps_set nd hn.n hn.l hy.pe hs hn.f) ?_
  unfold tMv at ht
  split at ht
  · rename_i x e
    obtain ⟨w, h1, h2⟩ := hR.val j x e
    exact ⟨w, h1, S, _, hR.setv hn.b h2, xs_set hi rfl, ht⟩
  · rename_i xs e
    obtain ⟨c, vs, h1, h2, h3, h4⟩ := hR.own j xs e
    obtain ⟨hF, ht⟩ := ht
    refine ⟨_, h1, ?_⟩
    cases own with
    | true => exact ⟨S, _, hR.mv hn.b e h1, xs_mv hR.len hi (nin_of hF) e h1, ht⟩
    | false =>
      have R1 := hR.frz (ys := xs) e h1 h3 h4
      exact ⟨_, _, R1.setv hn.b (.lst upd_same (h4.mono (same_upd h2))), (xs_frz hR (nin_of hF) e h1 h3).trans (xs_set hi rfl), ht⟩
  · rename_i k xs e
    obtain ⟨c, vs, h1, h2, h3⟩ := hR.ro j k xs e
    exact ⟨_, h1, S, _, hR.cp hn.b e h1, xs_set hi rfl, ht⟩
  · exact ht.elim
/-- ahead of a statement: an own list is known from now on -/
def tFrz (F : List Nat) (j : Nat) (t : VS) : VS := fun ρ Qn Qr => match ρ[j]? with
  | some (.own xs) => F.contains j = false ∧ t (ρ.set j (.v (.list xs))) Qn Qr
  | _ => False
theorem js_frz {j : Nat} {st : Stmt} {t : VS} (h : JS X new F st t) : JS X new F st (tFrz F j t) := by
  intro σ S H ρ Qn Qr hR ht
  unfold tFrz at ht
  split at ht
  · rename_i xs e
    obtain ⟨hF, ht⟩ := ht
    obtain ⟨c, vs, h1, h2, h3, h4⟩ := hR.own j xs e
    have E := xs_frz hR (nin_of hF) e h1 h3
    exact (h σ _ H _ Qn Qr (hR.frz (ys := xs) e h1 h3 h4) ht).mono (fun _ _ z => ends_nx E z) (fun _ _ z => ends_rt E z) (fun _ _ q => q) (fun _ _ q => q)
  · exact ht.elim
/-! several names = a tuple -/
def putN : R → List Nat → List D → Option R
  | ρ, [], [] => some ρ
  | ρ, i :: is, x :: xs => putN (ρ.set i (.v x)) is xs
  | _, _, _ => none
def tAsgT (is : List Nat) (t : VT) : VS := fun ρ Qn _ => t ρ fun u ρ1 => match deref ρ1 u with
  | some (.tuple xs) => match putN ρ1 is xs with
    | some ρ2 => Qn ρ2
    | none => False
  | _ => False
def gNames : List Nat → TGs
  | [] => gNil
  | i :: is => gCons (gName i) (gNames is)
theorem names_ok {K : PySem.W.Frag} {B : Nat} {Q : L2.St → Hp → Prop} : ∀ {is : List Nat} {vs : List V} {xs : List D} {σ : L2.St} {ρ ρ2 : R}, (∀ i ∈ is, i ∉ F) → (∀ i ∈ is, i < B) → Rel K B S H σ ρ → RpAll S vs xs → putN ρ is xs = some ρ2 →
    (∀ σ2, Rel K B S H σ2 ρ2 → XS F σ S H ρ σ2 S H ρ2 → Q σ2 H) → gNames is vs σ H Q
  | [], _, _, σ, ρ, ρ2, _, _, R, .nil, h, q => by
    cases h
    exact ⟨rfl, q σ R .refl⟩
  | [], _, _, _, _, _, _, _, _, .cons _ _, h, _ => by cases h
  | _ :: _, _, _, _, _, _, _, _, _, .nil, h, _ => by cases h
  | i :: is, _, _, σ, ρ, ρ2, hF, hB, R, .cons d ds, h, q =>
    ⟨_, _, rfl, names_ok (fun j hj => hF j (List.mem_cons_of_mem _ hj)) (fun j hj => hB j (List.mem_cons_of_mem _ hj)) (R.setv (hB i List.mem_cons_self) d) ds h fun σ2 R2 E => q σ2 R2 ((xs_set (hF i List.mem_cons_self) rfl).trans E)⟩
theorem js_asgT {is : List Nat} {tg : Expr} {t : VT} (h : JT X e t) (hg : PG X tg (gTup X.K is.length (gNames is))) (hF : ∀ i ∈ is, i ∉ F) (hB : (is.all fun i => decide (i < bd X)) = true) (hs : swapsWithSole [tg] e pos.line X.env = pure false) (hw : swappedStores [tg] e X.env = pure none)
    (h1 : (assignEach [tg] X.env).map (·.2) = [assign tg X.env]) : JS X new F (.Assign [tg] e pos) (tAsgT is t) := by
  intro σ S H ρ Qn Qr hR ht
  refine WS.of (ps_asg peW hg hs hw h1) ((h σ S H ρ _ hR ht).mono fun v H1 q => ?_)
  obtain ⟨S1, ρ1, u, R1, E1, d1, q1⟩ := q
  split at q1
  · rename_i xs ex
    obtain ⟨p, vs, rfl, hp, hd⟩ := d1.tup ex
    split at q1
    · rename_i ρ2 e2
      have len : ∀ {is : List Nat} {xs : List D} {ρ ρ2 : R}, putN ρ is xs = some ρ2 → is.length = xs.length := fun {is} => by
        induction is with
        | nil => intro xs ρ ρ2 h; cases xs with
          | nil => rfl
          | cons _ _ => cases h
        | cons i is ih => intro xs ρ ρ2 h; cases xs with
          | nil => cases h
          | cons x xs => exact congrArg (· + 1) (ih h)
      exact ⟨p, vs, rfl, .of (R1.sub _ _ hp), by rw [rps_len hd, len e2], names_ok hF (fun i hi => of_decide_eq_true (List.all_eq_true.mp hB i hi)) R1 hd e2 fun σ2 R2 E2 => ⟨S1, ρ2, R2, E1.xs.trans E2, q1⟩⟩
    · exact q1.elim
  · exact q1.elim
/-! name op= value -/
inductive AOp where
  | add | sub
def AOp.op : AOp → Operator
  | .add => .Add
  | .sub => .Sub
def AOp.f : AOp → Int → Int → Int
  | .add => fun i j => i + j
  | .sub => fun i j => i - j
theorem AOp.ip (o : AOp) : PIp X o.op (ipI o.f) := by
  cases o
  · exact ip_add
  · exact ip_sub
def tAugV (o : AOp) (i : Nat) (t : VT) : VS := fun ρ Qn _ => match ρ[i]? with
  | some (.v (.int x)) => t ρ fun u ρ1 => match deref ρ1 u with
    | some (.int y) => Qn (ρ1.set i (.v (.int (o.f x y))))
    | _ => False
  | _ => False
theorem js_aug {o : AOp} {i : Nat} {x : Str} {pos' : Pos} {t : VT} (nd : X.N.Nodup) (hn : Sn X i x) (hi : i ∉ F) (h : JT X e t) : JS X new F (.AugAssign (.Name x pos') o.op e pos) (tAugV o i t) := by
  intro σ S H ρ Qn Qr hR ht
  refine WS.of (ps_aug nd hn.n hn.l peW o.ip hn.f) ?_
  unfold tAugV at ht
  split at ht
  · rename_i y ey
    obtain ⟨w, w1, w2⟩ := hR.val i _ ey
    cases w2
    refine ⟨_, w1, (h σ S H ρ _ hR ht).mono fun v H1 q => ?_⟩
    obtain ⟨S1, ρ1, u, R1, E1, d1, q1⟩ := q
    split at q1
    · rename_i z ez
      exact ⟨_, _, rfl, d1.int ez, S1, _, R1.setv hn.b (.int _), E1.xs.trans (xs_set hi rfl), q1⟩
    · exact q1.elim
  · exact ht.elim
/-! xs[k] = value, xs[k] += value -/
def tSetIx (i : Nat) (tk tv : VT) : VS := fun ρ Qn _ => tv ρ fun u ρ1 => isOwn ρ1 i ∧ tk ρ1 fun w ρ2 => match u, deref ρ2 w, ρ2[i]? with
  | .val d, some (.int k), some (.own xs) => ∃ j, ixN xs.length k = some j ∧ Qn (ρ2.set i (.own (xs.set j d)))
  | _, _, _ => False
theorem js_setIx {i : Nat} {x : Str} {p pos' : Pos} {k : Expr} {tk tv : VT} (hn : Nm X i x) (hk : JT X k tk) (hv : JT X e tv) (hs : swapsWithSole [.Subscript (.Name x p) k pos'] e pos.line X.env = pure false) (hw : swappedStores [.Subscript (.Name x p) k pos'] e X.env = pure none)
    (h1 : (assignEach [.Subscript (.Name x p) k pos'] X.env).map (·.2) = [assign (.Subscript (.Name x p) k pos') X.env])
    (ha : ∀ v, assign (.Subscript (.Name x p) k pos') X.env v = (do
      let ov ← holding [v] (eval (.Name x p) X.env)
      let iv ← holding [v, ov] (eval k X.env)
      standAt pos'
      holding [v, ov, iv] (setItem ov iv v)
      release [v, ov, iv] [])) : JS X new F (.Assign [.Subscript (.Name x p) k pos'] e pos) (tSetIx i tk tv) := by
  intro σ S H ρ Qn Qr hR ht
  refine WS.of (ps_asg peW (pg_sub hn.pe peW set_list ha) hs hw h1) ((hv σ S H ρ _ hR ht).mono fun v H1 q => ?_)
  obtain ⟨S1, ρ1, u, R1, E1, d1, ⟨zs, hz⟩, q1⟩ := q
  obtain ⟨c0, vs0, ho, _⟩ := R1.own i zs hz
  have go : W X k σ H1 fun y H2 => ∀ o, σ[i]? = some (some o) → rSetL o y v H2 fun H3 => (endsS X new F σ S H ρ Qn Qr).nx σ H3 := by
    refine (hk σ S1 H1 ρ1 _ R1 q1).mono fun y H2 q => ?_
    obtain ⟨S2, ρ2, w, R2, E2, d2, q2⟩ := q
    split at q2
    · rename_i _ _ _ d kk xs ek ex
      obtain ⟨c, vs, c1, c2, c3, c4⟩ := R2.own i xs ex
      obtain ⟨j, ej, q2⟩ := q2
      intro o ho
      rw [c1] at ho
      cases ho
      have d1 : Rp S1 v d := d1
      refine ⟨c, vs, kk, j, rfl, d2.int ek, c3, by rw [rps_len c4]; exact ej, S2, _, R2.put ex c1 (rps_set j c4 (d1.mono E2.same)), ((E1.trans E2).trans (Ext.put R2 ex c1)).xs, q2⟩
    · exact q2.elim
  exact ⟨_, ho, go.mono fun y H2 q => q _ ho⟩
end
end WA

/-! WA11: if, return, for, while; defs. -/
namespace WA
open PySem PySem.Spec PyProof.Rows L2
section
variable {X : Cx} {new : Fs} {F : List Nat} {σ σ1 : L2.St} {S H S1 H1 : Hp} {ρ ρ1 : R} {Qn : R → Prop} {Qr : D → R → Prop} {pos : Pos} {e a b : Expr}
/-! expressions as statements, returns -/
def tExp (t : VT) : VS := fun ρ Qn _ => t ρ fun _ ρ1 => Qn ρ1
theorem js_exp {t : VT} (h : JT X e t) (hs : swapsWith e none pos.line X.env = pure false) : JS X new F (.Expr e pos) (tExp t) := by
  intro σ S H ρ Qn Qr hR ht
  refine WS.of (ps_expr peW hs) ((h σ S H ρ _ hR ht).mono fun v H1 q => ?_)
  obtain ⟨S1, ρ1, u, R1, E1, d1, q1⟩ := q
  exact ⟨S1, ρ1, R1, E1.xs, q1⟩
def tRetV (t : VT) : VS := fun ρ _ Qr => t ρ fun u ρ1 => match u with
  | .val d => Qr d ρ1
  | _ => False
theorem js_retV {t : VT} (h : JT X e t) : JS X false F (.Return (some e) pos) (tRetV t) := by
  intro σ S H ρ Qn Qr hR ht
  refine WS.of (ps_ret peW) ((h σ S H ρ _ hR ht).mono fun v H1 q => ?_)
  obtain ⟨S1, ρ1, u, R1, E1, d1, q1⟩ := q
  split at q1
  · rename_i d
    exact ⟨σ, S1, ρ1, d, R1, E1.xs, .of d1, q1⟩
  · exact q1.elim
/-- return of a new list -/
def tRetN (t : VE) : VS := fun ρ _ Qr => t ρ fun x ρ1 => Qr x ρ1
theorem js_retN {t : VE} (h : JN X e t) : JS X true F (.Return (some e) pos) (tRetN t) := by
  intro σ S H ρ Qn Qr hR ht
  refine WS.of (ps_ret peW) ((h σ S H ρ _ hR ht).mono fun v H1 q => ?_)
  obtain ⟨S1, ρ1, c, vs, xs, R1, E1, rfl, hc, hcs, hcl, hd, q⟩ := q
  exact ⟨σ, S1, ρ1, .list xs, R1, E1.xs, .lst hcs hcl hd (.inr hc), q⟩
/-- return of an own list -/
def tRetO (F : List Nat) (i : Nat) : VS := fun ρ _ Qr => match ρ[i]? with
  | some (.own xs) => F.contains i = false ∧ Qr (.list xs) ρ
  | _ => False
theorem js_retO {i : Nat} {x : Str} {p : Pos} (hn : Nm X i x) : JS X true F (.Return (some (.Name x p)) pos) (tRetO F i) := by
  intro σ S H ρ Qn Qr hR ht
  unfold tRetO at ht
  split at ht
  · rename_i xs e
    obtain ⟨hF, ht⟩ := ht
    obtain ⟨c, vs, h1, h2, h3, h4⟩ := hR.own i xs e
    exact WS.of (ps_ret hn.pe) ⟨_, h1, σ, S, ρ, .list xs, hR, .refl, .lst h2 h3 h4 (.inl ⟨i, _, nin_of hF, ow e, h1⟩), ht⟩
  · exact ht.elim
/-- return of an own list as a value -/
def tRetF (F : List Nat) (i : Nat) : VS := fun ρ _ Qr => match ρ[i]? with
  | some (.own xs) => F.contains i = false ∧ Qr (.list xs) (ρ.set i (.v (.list xs)))
  | _ => False
/-! if -/
def tIf (c : VC) (t u : VS) : VS := fun ρ Qn Qr => c ρ fun k ρ1 => (k = true → t ρ1 Qn Qr) ∧ (k = false → u ρ1 Qn Qr)
theorem js_if {c : Expr} {p q : List Stmt} {tc : VC} {t u : VS} (hc : JC X c tc) (hp : JSs X new F p t) (hq : JSs X new F q u) : JS X new F (.If c p q pos) (tIf tc t u) := by
  intro σ S H ρ Qn Qr hR ht
  refine WS.of (ps_if ptW pssW pssW) ((hc σ S H ρ _ hR ht).mono fun k H1 q => ?_)
  obtain ⟨S1, ρ1, R1, E1, q1⟩ := q
  cases k with
  | true => exact (hp σ S1 H1 ρ1 Qn Qr R1 (q1.1 rfl)).mono (fun _ _ z => ends_nx E1.xs z) (fun _ _ z => ends_rt E1.xs z) (fun _ _ q => q) (fun _ _ q => q)
  | false => exact (hq σ S1 H1 ρ1 Qn Qr R1 (q1.2 rfl)).mono (fun _ _ z => ends_nx E1.xs z) (fun _ _ z => ends_rt E1.xs z) (fun _ _ q => q) (fun _ _ q => q)
/-! for -/
def forLoop (tg : Tg) (gs : List (Nat × List D)) (body : VS) : List (List D) → R → (R → Prop) → (D → R → Prop) → Prop
  | [], ρ, Qn, _ => guardR gs ρ ∧ Qn ρ
  | x :: xs, ρ, Qn, Qr => guardR gs ρ ∧ match putT ρ tg x with
    | some ρ1 => body ρ1 (fun ρ2 => forLoop tg gs body xs ρ2 Qn Qr) Qr
    | none => False
def tFor (F' : List Nat) (tg : Tg) (ti : VI) (body : VS) : VS := fun ρ Qn Qr => ti ρ fun its gs ρ1 => ((gs.all fun p => F'.contains p.1) && (tg.ix.all fun i => !F'.contains i)) = true ∧ forLoop tg gs body its ρ1 Qn Qr
theorem endsS_weak {F F' : List Nat} (hF : ∀ i ∈ F, i ∈ F') {v : V} {H2 : Hp} {Qn' : R → Prop} (h : (endsS X new F' σ S H ρ Qn' Qr).rt v H2) : (endsS X new F σ S H ρ Qn Qr).rt v H2 := by
  obtain ⟨σ', S', ρ', x, R', E', r, q⟩ := h
  refine ⟨σ', S', ρ', x, R', E'.weak hF, ?_, q⟩
  obtain ⟨as, h1, h2, h3⟩ := r
  refine ⟨as, h1, h2, fun a ha => ⟨(h3 a ha).1, ?_⟩⟩
  rcases (h3 a ha).2 with ⟨i, ys, hi, z⟩ | z
  · exact .inl ⟨i, ys, fun m => hi (hF i m), z⟩
  · exact .inr z
/-- the target is stored -/
theorem xs_put {K : PySem.W.Frag} {B : Nat} {tg : Tg} {v : V} {H' : Hp} {x : List D} {ρ1 : R} {Q : L2.St → Hp → Prop} (hB : ∀ i ∈ tg.ix, i < B) (hF : ∀ i ∈ tg.ix, i ∉ F) (R : Rel K B S H σ ρ) (it : ItemR S H tg.pair v H' x) (hp : putT ρ tg x = some ρ1)
    (h : ∀ σ1, Rel K B S H' σ1 ρ1 → XS F σ S H ρ σ1 S H' ρ1 → Q σ1 H') : gT K tg v σ H' Q := by
  refine tgt_ok R it hp hB fun σ1 R1 ho hl => h σ1 R1 ?_
  obtain ⟨pl, po, pn⟩ := putT_out hp
  have E0 : Ext σ S H ρ S H' ρ := by
    generalize tg.pair = pr at it
    cases it with
    | one _ => exact .refl
    | two hT _ => exact .new0 R hT
  refine ⟨E0.same, E0.there, fun b h h' _ => E0.stay b h h', E0.keep, fun b ⟨i, ys, h1, h2⟩ => ?_, fun i hi => ho i fun z => hF i z hi, fun i hi h => ?_⟩
  · by_cases hi : i ∈ tg.ix
    · have := pn i ys hi h1.1
      rw [h1.2] at this; cases this
    · have g := h1.1
      rw [po i hi] at g
      rw [ho i hi] at h2
      exact .inl ⟨i, ys, ⟨g, h1.2⟩, h2⟩
  · rw [po i fun z => hF i z hi]
    exact h
theorem js_for {F' : List Nat} {tgE iter : Expr} {body : List Stmt} {tg : Tg} {ti : VI} {tb : VS} (hB : (tg.ix.all fun i => decide (i < bd X)) = true) (hp : PassesOwn (model X.prog X.w) X.A X.env X.xe) (hc : X.calm = true) (hi : JI X tg.pair tgE iter ti) (hg : PG X tgE (gT X.K tg)) (hb : JSs X new F' body tb) (hF : ∀ i ∈ F, i ∈ F')
    (hs : ∀ x, foldedSetIterable iter X.env x = pure x) : JS X new F (.For tgE iter body [] pos) (tFor F' tg ti tb) := by
  intro σ S H ρ Qn Qr hR ht
  refine WS.of (ps_for hp hc piW hg pssW hs) ((hi σ S H ρ _ hR ht).mono fun J H1 q => ?_)
  obtain ⟨S1, ρ1, its, gs, as, R1, E1, Sv, L, hgs, hl⟩ := q
  rw [Bool.and_eq_true] at hgs
  obtain ⟨hgs, htg⟩ := hgs
  have hgs' : ∀ p ∈ gs, p.1 ∈ F' := fun p hp => List.contains_iff_mem.mp (List.all_eq_true.mp hgs p hp)
  have htg' : ∀ i ∈ tg.ix, i ∉ F' := fun i hi => by
    have z := List.all_eq_true.mp htg i hi
    intro hm
    rw [List.contains_iff_mem.mpr hm] at z
    cases z
  refine ⟨fun i m σc Hc => m = its.length - i ∧ i ≤ its.length ∧ ∃ S' ρ', Rel X.K (bd X) S' Hc σc ρ' ∧ XS F' σ S1 H1 ρ1 σc S' Hc ρ' ∧ forLoop tg gs tb (its.drop i) ρ' Qn Qr,
    ⟨its.length, by simp, Nat.zero_le _, S1, ρ1, R1, .refl, hl⟩, ?_⟩
  rintro i m σc Hc ⟨rfl, hle, S', ρ', R', E', hl⟩
  by_cases hlt : i < its.length
  · rw [List.drop_eq_getElem_cons hlt] at hl
    obtain ⟨hg, hl⟩ := hl
    obtain ⟨_, hsv⟩ := Sv S' Hc (linked_now L R' E'.same hg fun p hp => E'.fix _ (hgs' p hp))
    obtain ⟨hgo, hy⟩ := hsv i its[i] (List.getElem?_eq_getElem hlt)
    refine .inr ⟨hgo, fun σn Hn => ∃ S' ρ', Rel X.K (bd X) S' Hn σn ρ' ∧ XS F' σ S1 H1 ρ1 σn S' Hn ρ' ∧ forLoop tg gs tb (its.drop (i + 1)) ρ' Qn Qr, fun σn Hn hn => ⟨its.length - (i + 1), by omega, rfl, hlt, hn⟩, fun x H' y => ?_⟩
    split at hl
    · rename_i ρp hput
      refine xs_put (fun i hi => of_decide_eq_true (List.all_eq_true.mp hB i hi)) htg' R' (hy x H' y) hput fun σ2 R2 E2 => ?_
      refine (hb σ2 S' H' ρp _ Qr R2 hl).mono (fun σ3 H3 q => ?_) (fun v H3 q => ?_) (fun _ _ q => q.elim) (fun _ _ q => q.elim)
      · obtain ⟨S3, ρ3, R3, E3, q⟩ := q
        exact ⟨S3, ρ3, R3, (E'.trans E2).trans E3, q⟩
      · exact ends_rt (Qn := Qn) E1.xs (endsS_weak (Qn := Qn) hF (ends_rt (Qn := Qn) (E'.trans E2) q))
    · exact hl.elim
  · have e : i = its.length := by omega
    subst e
    rw [List.drop_length] at hl
    obtain ⟨hg, hl⟩ := hl
    obtain ⟨hst, _⟩ := Sv S' Hc (linked_now L R' E'.same hg fun p hp => E'.fix _ (hgs' p hp))
    exact .inl ⟨hst, S', ρ', R', E1.xs.trans (E'.weak hF), hl⟩
/-! while -/
def tWhl (c : VC) (tb : VS) : VS := fun ρ Qn Qr => ∃ I : Nat → R → Prop, (∃ m, I m ρ) ∧ ∀ m ρ', I m ρ' → c ρ' fun k ρ1 => (k = true → tb ρ1 (fun ρ2 => ∃ m', m' < m ∧ I m' ρ2) Qr) ∧ (k = false → Qn ρ1)
theorem js_while {c : Expr} {body : List Stmt} {tc : VC} {tb : VS} (hp : PassesOwn (model X.prog X.w) X.A X.env X.xe) (hc : JC X c tc) (hb : JSs X new F body tb) : JS X new F (.While c body [] pos) (tWhl tc tb) := by
  intro σ S H ρ Qn Qr hR ht
  obtain ⟨I, ⟨m0, h0⟩, turn⟩ := ht
  refine WS.of (ps_while hp ptW pssW) ⟨fun m σc Hc => ∃ S' ρ', Rel X.K (bd X) S' Hc σc ρ' ∧ XS F σ S H ρ σc S' Hc ρ' ∧ I m ρ', ⟨m0, S, ρ, hR, .refl, h0⟩, ?_⟩
  rintro m σc Hc ⟨S', ρ', R', E', hI⟩
  refine (hc σc S' Hc ρ' _ R' (turn m ρ' hI)).mono fun k H1 q => ?_
  obtain ⟨S1, ρ1, R1, E1, q1⟩ := q
  cases k with
  | true =>
    refine ⟨fun σn Hn => ∃ m', m' < m ∧ ∃ S' ρ', Rel X.K (bd X) S' Hn σn ρ' ∧ XS F σ S H ρ σn S' Hn ρ' ∧ I m' ρ', fun σn Hn ⟨m', h1, h2⟩ => ⟨m', h1, h2⟩, ?_⟩
    refine (hb σc S1 H1 ρ1 _ Qr R1 (q1.1 rfl)).mono (fun σ3 H3 q => ?_) (fun v H3 q => ?_) (fun _ _ q => q.elim) (fun _ _ q => q.elim)
    · obtain ⟨S3, ρ3, R3, E3, m', hm, q⟩ := q
      exact ⟨m', hm, S3, ρ3, R3, (E'.trans E1.xs).trans E3, q⟩
    · exact ends_rt (Qn := Qn) (E'.trans E1.xs) q
  | false => exact ⟨S1, ρ1, R1, E'.trans E1.xs, q1.2 rfl⟩
end
/-! ### a def keeps its promise -/
def ini : List Md → List D → Option R
  | [], [] => some []
  | .val :: ms, x :: xs => (ini ms xs).map (.v x :: ·)
  | .ro :: ms, .list l :: xs => (ini ms xs).map (.ro false l :: ·)
  | .rs :: ms, .list l :: xs => (ini ms xs).map (.ro true l :: ·)
  | .own :: ms, .list l :: xs => (ini ms xs).map (.own l :: ·)
  | _, _ => none
def ownFrom : List Md → Nat → List Nat
  | [], _ => []
  | .own :: ms, i => i :: ownFrom ms (i + 1)
  | _ :: ms, i => ownFrom ms (i + 1)
def outs (ρ' : R) : List Nat → List (List D) → Prop := Paired fun i ys => ρ'[i]? = some (.own ys)
section
variable {K : PySem.W.Frag} {S H : Hp}
structure IniOk (K : PySem.W.Frag) (S H : Hp) (ms : List Md) (vs : List V) (os rs : List Addr) (ρ : R) : Prop where
  len : vs.length = ρ.length
  val : ∀ (i : Nat) (x : D), ρ[i]? = some (.v x) → ∃ w, vs[i]? = some w ∧ Rp S w x
  own : ∀ (i : Nat) (xs : List D), ρ[i]? = some (.own xs) → ∃ (a : Addr) (ws : List V), vs[i]? = some (.ref a) ∧ a ∈ os ∧ S a = none ∧ H a = some (.lst ws) ∧ RpAll S ws xs
  ro : ∀ (i : Nat) (k : Bool) (xs : List D), ρ[i]? = some (.ro k xs) → ∃ (a : Addr) (ws : List V), vs[i]? = some (.ref a) ∧ ((k = false ∧ KL K a ws) ∨ (a ∈ rs ∧ ∃ o, (o = HO.lst ws ∨ (k = false ∧ ∃ ob, o = .frz ob (.lst ws))) ∧ H a = some o)) ∧ RpAll S ws xs
  sep : os.Nodup → ∀ (i j : Nat) (xs ys : List D) (a : Addr), ρ[i]? = some (.own xs) → ρ[j]? = some (.own ys) → vs[i]? = some (.ref a) → vs[j]? = some (.ref a) → i = j
  at_ : ∀ d : Nat, Paired (fun (i : Nat) (a : Addr) => d ≤ i ∧ vs[i - d]? = some (.ref a) ∧ ∃ ys, ρ[i - d]? = some (.own ys)) (ownFrom ms d) os
theorem paired_shift {vs : List V} {ρ : R} {v : V} {s : Sl} {d : Nat} {is : List Nat} {os : List Addr} (h : Paired (fun (i : Nat) (a : Addr) => d + 1 ≤ i ∧ vs[i - (d + 1)]? = some (.ref a) ∧ ∃ ys, ρ[i - (d + 1)]? = some (.own ys)) is os) :
    Paired (fun (i : Nat) (a : Addr) => d ≤ i ∧ (v :: vs)[i - d]? = some (.ref a) ∧ ∃ ys, (s :: ρ)[i - d]? = some (.own ys)) is os := Paired.mapP h fun i a ⟨h1, h2, ys, h3⟩ => by
  have e : i - d = (i - (d + 1)) + 1 := by omega
  exact ⟨by omega, by rw [e]; exact h2, ys, by rw [e]; exact h3⟩
theorem ini_ok : ∀ {ms : List Md} {vs : List V} {xs : List D} {os rs : List Addr}, ArgsR K S H ms vs xs os rs → ∃ ρ, ini ms xs = some ρ ∧ IniOk K S H ms vs os rs ρ
  | _, _, _, _, _, .nil => ⟨[], rfl, rfl, fun i x h => by simp at h, fun i x h => by simp at h, fun i k x h => by simp at h, fun _ i j x y a h => by simp at h, fun d => .nil⟩
  | _, _, _, _, _, .val (v := v) (x := x) r t => by
    obtain ⟨ρ, h, I⟩ := ini_ok t
    refine ⟨.v x :: ρ, by rw [ini, h]; rfl, by simp [I.len], fun i y h => ?_, fun i y h => ?_, fun i k y h => ?_, fun hn i j y z a h1 h2 h3 h4 => ?_, fun d => paired_shift (I.at_ (d + 1))⟩
    · cases i with
      | zero => simp at h; subst h; exact ⟨v, rfl, r⟩
      | succ i => exact I.val i y (by simpa using h)
    · cases i with
      | zero => simp at h
      | succ i => exact I.own i y (by simpa using h)
    · cases i with
      | zero => simp at h
      | succ i => exact I.ro i k y (by simpa using h)
    · cases i with
      | zero => simp at h1
      | succ i =>
        cases j with
        | zero => simp at h2
        | succ j => exact congrArg (· + 1) (I.sep hn i j y z a (by simpa using h1) (by simpa using h2) (by simpa using h3) (by simpa using h4))
  | _, _, _, _, _, .ro (rs := rs) (a := c) (ws := ws) (ds := ds) (o := o) ho hH r t => by
    obtain ⟨ρ, h, I⟩ := ini_ok t
    refine ⟨.ro false ds :: ρ, by rw [ini, h]; rfl, by simp [I.len], fun i y h => ?_, fun i y h => ?_, fun i k y h => ?_, fun hn i j y z a h1 h2 h3 h4 => ?_, fun d => paired_shift (I.at_ (d + 1))⟩
    · cases i with
      | zero => simp at h
      | succ i => exact I.val i y (by simpa using h)
    · cases i with
      | zero => simp at h
      | succ i => exact I.own i y (by simpa using h)
    · cases i with
      | zero =>
        simp at h
        obtain ⟨rfl, rfl⟩ := h
        exact ⟨c, ws, rfl, .inr ⟨List.mem_cons_self, o, ho.imp _root_.id fun z => ⟨rfl, z⟩, hH⟩, r⟩
      | succ i =>
        obtain ⟨a, w, h1, h2, h3⟩ := I.ro i k y (by simpa using h)
        exact ⟨a, w, h1, h2.imp _root_.id fun z => ⟨List.mem_cons_of_mem _ z.1, z.2⟩, h3⟩
    · cases i with
      | zero => simp at h1
      | succ i =>
        cases j with
        | zero => simp at h2
        | succ j => exact congrArg (· + 1) (I.sep hn i j y z a (by simpa using h1) (by simpa using h2) (by simpa using h3) (by simpa using h4))
  | _, _, _, _, _, .kl (a := c) (ws := ws) (ds := ds) hk r t => by
    obtain ⟨ρ, h, I⟩ := ini_ok t
    refine ⟨.ro false ds :: ρ, by rw [ini, h]; rfl, by simp [I.len], fun i y h => ?_, fun i y h => ?_, fun i k y h => ?_, fun hn i j y z a h1 h2 h3 h4 => ?_, fun d => paired_shift (I.at_ (d + 1))⟩
    · cases i with
      | zero => simp at h
      | succ i => exact I.val i y (by simpa using h)
    · cases i with
      | zero => simp at h
      | succ i => exact I.own i y (by simpa using h)
    · cases i with
      | zero =>
        simp at h
        obtain ⟨rfl, rfl⟩ := h
        exact ⟨c, ws, rfl, .inl ⟨rfl, hk⟩, r⟩
      | succ i => exact I.ro i k y (by simpa using h)
    · cases i with
      | zero => simp at h1
      | succ i =>
        cases j with
        | zero => simp at h2
        | succ j => exact congrArg (· + 1) (I.sep hn i j y z a (by simpa using h1) (by simpa using h2) (by simpa using h3) (by simpa using h4))
  | _, _, _, _, _, .rs (rs := rs) (a := c) (ws := ws) (ds := ds) hH r t => by
    obtain ⟨ρ, h, I⟩ := ini_ok t
    refine ⟨.ro true ds :: ρ, by rw [ini, h]; rfl, by simp [I.len], fun i y h => ?_, fun i y h => ?_, fun i k y h => ?_, fun hn i j y z a h1 h2 h3 h4 => ?_, fun d => paired_shift (I.at_ (d + 1))⟩
    · cases i with
      | zero => simp at h
      | succ i => exact I.val i y (by simpa using h)
    · cases i with
      | zero => simp at h
      | succ i => exact I.own i y (by simpa using h)
    · cases i with
      | zero =>
        simp at h
        obtain ⟨rfl, rfl⟩ := h
        exact ⟨c, ws, rfl, .inr ⟨List.mem_cons_self, _, .inl rfl, hH⟩, r⟩
      | succ i =>
        obtain ⟨a, w, h1, h2, h3⟩ := I.ro i k y (by simpa using h)
        exact ⟨a, w, h1, h2.imp _root_.id fun z => ⟨List.mem_cons_of_mem _ z.1, z.2⟩, h3⟩
    · cases i with
      | zero => simp at h1
      | succ i =>
        cases j with
        | zero => simp at h2
        | succ j => exact congrArg (· + 1) (I.sep hn i j y z a (by simpa using h1) (by simpa using h2) (by simpa using h3) (by simpa using h4))
  | _, _, _, _, _, .own (os := os) (a := c) (ws := ws) (ds := ds) hS hH r t => by
    obtain ⟨ρ, h, I⟩ := ini_ok t
    refine ⟨.own ds :: ρ, by rw [ini, h]; rfl, by simp [I.len], fun i y h => ?_, fun i y h => ?_, fun i k y h => ?_, fun hn i j y z a h1 h2 h3 h4 => ?_, fun d => .cons ⟨Nat.le_refl _, by simp, ds, by simp⟩ (paired_shift (I.at_ (d + 1)))⟩
    · cases i with
      | zero => simp at h
      | succ i => exact I.val i y (by simpa using h)
    · cases i with
      | zero =>
        simp at h
        subst h
        exact ⟨c, ws, rfl, List.mem_cons_self, hS, hH, r⟩
      | succ i =>
        obtain ⟨a, w, h1, h2, h3⟩ := I.own i y (by simpa using h)
        exact ⟨a, w, h1, List.mem_cons_of_mem _ h2, h3⟩
    · cases i with
      | zero => simp at h
      | succ i => exact I.ro i k y (by simpa using h)
    · rw [List.nodup_cons] at hn
      cases i with
      | zero =>
        cases j with
        | zero => rfl
        | succ j =>
          simp at h3
          subst h3
          obtain ⟨a', w, e1, e2, _⟩ := I.own j z (by simpa using h2)
          rw [List.getElem?_cons_succ] at h4
          rw [h4] at e1
          cases e1
          exact absurd e2 hn.1
      | succ i =>
        cases j with
        | zero =>
          simp at h4
          subst h4
          obtain ⟨a', w, e1, e2, _⟩ := I.own i y (by simpa using h1)
          rw [List.getElem?_cons_succ] at h3
          rw [h3] at e1
          cases e1
          exact absurd e2 hn.1
        | succ j => exact congrArg (· + 1) (I.sep hn.2 i j y z a (by simpa using h1) (by simpa using h2) (by simpa using h3) (by simpa using h4))
theorem get_app_no {ρ : R} {k i : Nat} {s : Sl} (h : (ρ ++ List.replicate k Sl.no)[i]? = some s) (n : s ≠ .no) : ρ[i]? = some s := by
  by_cases hi : i < ρ.length
  · rw [List.getElem?_append_left hi] at h
    exact h
  · rw [List.getElem?_append_right (by omega), List.getElem?_replicate] at h
    split at h
    · cases h
      exact absurd rfl n
    · cases h
theorem get_app_V {vs : List V} {k i : Nat} {v : V} (h : vs[i]? = some v) : (vs.map some ++ List.replicate k (none : Option V))[i]? = some (some v) := by
  have hi : i < vs.length := (List.getElem?_eq_some_iff.mp h).1
  rw [List.getElem?_append_left (by rw [List.length_map]; exact hi), List.getElem?_map, h]
  rfl
theorem get_app_V' {vs : List V} {k i : Nat} {v : V} (h : (vs.map some ++ List.replicate k (none : Option V))[i]? = some (some v)) : vs[i]? = some v := by
  by_cases hi : i < vs.length
  · rw [List.getElem?_append_left (by rw [List.length_map]; exact hi), List.getElem?_map] at h
    cases e : vs[i]? with
    | none => rw [e] at h; cases h
    | some w => rw [e] at h; cases h; rfl
  · rw [List.getElem?_append_right (by rw [List.length_map]; omega), List.getElem?_replicate] at h
    split at h <;> cases h
theorem ini_plain : ∀ {ms : List Md} {xs : List D} {ρ : R}, ini ms xs = some ρ → ∀ s ∈ ρ, s.leans = false
  | [], [], _, h => by
    cases h
    intro s hs
    cases hs
  | [], _ :: _, _, h => by cases h
  | m :: ms, [], _, h => by cases m <;> cases h
  | m :: ms, x :: xs, ρ, h => by
    have key : ∀ t : Sl, t.leans = false → (ini ms xs).map (t :: ·) = some ρ → ∀ s ∈ ρ, s.leans = false := fun t ht h => by
      cases q : ini ms xs with
      | none => rw [q] at h; cases h
      | some ρ' =>
        rw [q] at h
        cases h
        intro s hs
        rcases List.mem_cons.mp hs with rfl | hs
        · exact ht
        · exact ini_plain q s hs
    cases m with
    | val => exact key (.v x) rfl h
    | ro =>
      cases x with
      | list l => exact key (.ro false l) rfl h
      | _ => cases h
    | rs =>
      cases x with
      | list l => exact key (.ro true l) rfl h
      | _ => cases h
    | own =>
      cases x with
      | list l => exact key (.own l) rfl h
      | _ => cases h
theorem owns_own {s : Sl} (h : s.owns = true) (h2 : s.leans = false) : ∃ xs, s = .own xs := by
  cases s with
  | own xs => exact ⟨xs, rfl⟩
  | st k is => cases h2
  | _ => cases h
theorem IniOk.rel {B : Nat} {ms : List Md} {vs : List V} {os rs : List Addr} {ρ : R} (hp : ∀ s ∈ ρ, s.leans = false) (I : IniOk K S H ms vs os rs ρ) (hS : Same S H) (hn : os.Nodup) (hr : ∀ a ∈ rs, a ∉ os) (k : Nat) : Rel K B S H (vs.map some ++ List.replicate k none) (ρ ++ List.replicate k .no) := by
  have pl : ∀ {i : Nat} {s : Sl}, (ρ ++ List.replicate k .no)[i]? = some s → s.leans = false := fun {i s} h => by
    rcases List.mem_append.mp (List.mem_of_getElem? h) with z | z
    · exact hp s z
    · rw [(List.mem_replicate.mp z).2]; rfl
  refine ⟨by simp [I.len], hS, fun i x h => ?_, fun i xs h => ?_, fun i b xs h => ?_, fun i j s t a h1 h2 h3 h4 => ?_, ⟨fun i k is h => ?_, fun i j h => ?_, fun i C fs is a d us h => ?_⟩⟩
  · obtain ⟨w, h1, h2⟩ := I.val i x (get_app_no h (fun z => by cases z))
    exact ⟨w, get_app_V h1, h2⟩
  · obtain ⟨a, ws, h1, h2, h3, h4, h5⟩ := I.own i xs (get_app_no h (fun z => by cases z))
    exact ⟨a, ws, get_app_V h1, h3, h4, h5⟩
  · obtain ⟨a, ws, h1, h2, h3⟩ := I.ro i b xs (get_app_no h (fun z => by cases z))
    refine ⟨a, ws, get_app_V h1, ?_, h3⟩
    rcases h2 with q | ⟨q1, o, q2, q3⟩
    · exact .inl q
    · refine .inr ⟨⟨o, q2, q3⟩, fun ⟨j, s, z1, z2⟩ => ?_⟩
      obtain ⟨ys, rfl⟩ := owns_own z1.2 (pl z1.1)
      obtain ⟨a', ws', e1, e2, _⟩ := I.own j ys (get_app_no z1.1 (fun z => by cases z))
      rw [get_app_V' z2] at e1
      cases e1
      exact hr a q1 e2
  · obtain ⟨xs, rfl⟩ := owns_own h1.2 (pl h1.1)
    obtain ⟨ys, rfl⟩ := owns_own h2.2 (pl h2.1)
    exact I.sep hn i j xs ys a (get_app_no h1.1 (fun z => by cases z)) (get_app_no h2.1 (fun z => by cases z)) (get_app_V' h3) (get_app_V' h4)
  · have := pl h
    cases this
  · have := pl h
    cases this
  · have := pl h
    cases this
theorem ArgsR.len {ms : List Md} {vs : List V} {xs : List D} {os rs : List Addr} (h : ArgsR K S H ms vs xs os rs) : vs.length = ms.length := by
  induction h <;> simp [*]
end
/-- what is to be shown in plain terms of a def: from its promise, of its body's reading -/
def Plain (f : FSpec) (n : Nat) (t : VS) : Prop := ∀ xs ρ, f.pre xs → ini f.modes xs = some ρ →
  t (ρ ++ List.replicate (n - f.modes.length) .no) (fun ρ' => f.new = false ∧ ∃ yss, f.post xs .none yss ∧ outs ρ' (ownFrom f.modes 0) yss) (fun x ρ' => ∃ yss, f.post xs x yss ∧ outs ρ' (ownFrom f.modes 0) yss)
section
variable {P : Program} {w : World} {K : PySem.W.Frag} {mg : Str → Option Value} {base : Heap}
theorem fn_core {X : Cx} {N : List Str} {f : FSpec} {t : VS} {sts : List Stmt} {vs : List V} {H : Hp} {Q : VK} {E : XK} (body : JSs X f.new (ownFrom f.modes 0) sts t) (plain : Plain f N.length t) (h : spOf X.K f vs H Q E) :
    WSs X sts { nx := fun _ H' => Q .non H', rt := Q } (start N vs) H := by
  obtain ⟨S, xs, os, rs, hS, A1, hn, hro, hpre, q⟩ := h
  obtain ⟨ρ, hi, I⟩ := ini_ok A1
  have hl : vs.length = f.modes.length := A1.len
  have R0 := I.rel (B := bd X) (ini_plain hi) hS hn hro (N.length - f.modes.length)
  have p := plain xs ρ hpre hi
  have est : L2.start N vs = vs.map some ++ List.replicate (N.length - f.modes.length) none := by rw [L2.start, hl]
  rw [est]
  have at0 := I.at_ 0
  have ownS : ∀ {b : Addr}, OwnAt (vs.map some ++ List.replicate (N.length - f.modes.length) (none : Option V)) (ρ ++ List.replicate (N.length - f.modes.length) .no) b → ∃ i ∈ ownFrom f.modes 0, b ∈ os ∧ vs[i]? = some (.ref b) := fun {b} ⟨i, sl, h1, h2⟩ => by
    have hpl : sl.leans = false := by
      rcases List.mem_append.mp (List.mem_of_getElem? h1.1) with z | z
      · exact ini_plain hi sl z
      · rw [(List.mem_replicate.mp z).2]; rfl
    obtain ⟨ys, rfl⟩ := owns_own h1.2 hpl
    obtain ⟨a', ws', e1, e2, _⟩ := I.own i ys (get_app_no h1.1 (fun z => by cases z))
    rw [get_app_V' h2] at e1
    cases e1
    obtain ⟨j, hj, _, e4, ys', e5⟩ := paired_mem at0 b e2
    exact ⟨j, hj, e2, by simpa using e4⟩
  have fin : ∀ {yss : List (List D)} {σ' : L2.St} {S' H' : Hp} {ρ' : R}, Rel X.K (bd X) S' H' σ' ρ' → XS (ownFrom f.modes 0) (vs.map some ++ List.replicate (N.length - f.modes.length) (none : Option V)) S H (ρ ++ List.replicate (N.length - f.modes.length) .no) σ' S' H' ρ' → outs ρ' (ownFrom f.modes 0) yss → CExt S H os S' H' ∧ OwnsR S' H' os yss := fun {yss σ' S' H' ρ'} R' E' ho => by
    have own' : ∀ {i : Nat} {a : Addr}, i ∈ ownFrom f.modes 0 → vs[i]? = some (.ref a) → σ'[i]? = some (some (.ref a)) := fun {i a} hi ha => by
      rw [E'.fix i hi]
      exact get_app_V ha
    refine ⟨⟨R'.sub, E'.same, E'.there, fun b hb hs => ?_, fun b o hb hs hn' => E'.keep b o hb hs fun z => ?_⟩, ?_⟩
    · by_cases z : OwnAt (vs.map some ++ List.replicate (N.length - f.modes.length) (none : Option V)) (ρ ++ List.replicate (N.length - f.modes.length) .no) b
      · obtain ⟨i, hi, _, hv⟩ := ownS z
        obtain ⟨ys, _, hy⟩ := paired_mem' ho i hi
        obtain ⟨a', ws', e1, e2, _⟩ := R'.own i ys hy
        rw [own' hi hv] at e1
        cases e1
        exact e2
      · exact E'.stay b hb hs z
    · obtain ⟨i, hi, hb', _⟩ := ownS z
      exact hn' hb'
    · have go : ∀ {is : List Nat} {as : List Addr} {zs : List (List D)}, (∀ i ∈ is, i ∈ ownFrom f.modes 0) → Paired (fun (i : Nat) (a : Addr) => 0 ≤ i ∧ vs[i - 0]? = some (.ref a) ∧ ∃ ys, ρ[i - 0]? = some (.own ys)) is as → Paired (fun (i : Nat) ys => ρ'[i]? = some (Sl.own ys)) is zs → OwnsR S' H' as zs := fun {is} => by
        induction is with
        | nil =>
          intro as zs _ h1 h2
          cases h1
          cases h2
          exact .nil
        | cons i is ih =>
          intro as zs hm h1 h2
          cases h1 with
          | cons r1 t1 =>
            cases h2 with
            | cons r2 t2 =>
              refine .cons ?_ (ih (fun j hj => hm j (List.mem_cons_of_mem _ hj)) t1 t2)
              obtain ⟨a', ws', e1, e2, e3, e4⟩ := R'.own i _ r2
              rw [own' (hm i List.mem_cons_self) (by simpa using r1.2.1)] at e1
              cases e1
              exact ⟨ws', e3, e4⟩
      exact go (fun _ h => h) at0 ho
  refine (body _ S H _ _ _ R0 p).mono (fun σ' H' z => ?_) (fun v H' z => ?_) (fun _ _ q => q.elim) (fun _ _ q => q.elim)
  · obtain ⟨S', ρ', R', E', hnew, yss, hpost, ho⟩ := z
    obtain ⟨C, O⟩ := fin R' E' ho
    refine q .none yss hpost .non S' H' C O ?_
    rw [hnew]
    exact .of .non
  · obtain ⟨σ', S', ρ', x', R', E', rr, yss, hpost, ho⟩ := z
    obtain ⟨C, O⟩ := fin R' E' ho
    refine q x' yss hpost v S' H' C O ?_
    obtain ⟨as, g1, g2, g3⟩ := rr
    refine ⟨as, g1, g2, fun a ha => ⟨?_, (g3 a ha).1⟩⟩
    rcases (g3 a ha).2 with ⟨i, s, hi, hy, hv⟩ | z
    · rcases E'.own a ⟨i, _, hy, hv⟩ with z | z
      · obtain ⟨j, hj, _, hv'⟩ := ownS z
        obtain ⟨zs, _, hz⟩ := paired_mem' ho j hj
        have hs : σ'[j]? = some (some (.ref a)) := by
          rw [E'.fix j hj]
          exact get_app_V hv'
        exact absurd (R'.sep i j _ _ a hy (ow hz) hv hs ▸ hj) hi
      · exact z
    · exact z
theorem fn_ok {x qual : Str} {st : Stmt} {c : Addr} {fd : FuncData} {N ps : List Str} {k : Nat} {f : FSpec} {t : VS} (Fn : FunD K x qual (defArgs st) (defBody st) (defScope st) [] [] c fd) (Sc : FnScope N ps (defScope st)) (hlen : f.modes.length = ps.length)
    (body : ∀ (cdv : Value) (A : Around) (outer : List Env) (s : Shared) (H : Hp) (E : XK), Room k (A.deeper (envOfC qual (defScope st) s.heap.objs.size c cdv)) → JSs (cxOf CX0 P w K mg base N qual (defScope st) c cdv A outer s H E).nox f.new (ownFrom f.modes 0) (defBody st) t)
    (plain : Plain f N.length t) : FnOk P w K mg base CX0 (k + 1) c fd ps (spOf K f) := by
  refine Fn.ok Sc (fun vs H Q E h => ?_) (fun cdv A outer s H vs Q E hr h => ?_)
  · obtain ⟨S, xs, os, rs, hS, A1, _⟩ := h
    rw [A1.len, hlen]
  · exact ⟨_, PSs.nox pssW, fn_core (body cdv A outer s H E hr) plain h⟩
end
end WA

/-! WA12: name = [.. for ..], xs[k] += v; short words for derivations. -/
namespace WA
open PySem PySem.Spec PyProof.Rows L2
section
variable {X : Cx} {new : Fs} {F : List Nat} {σ : L2.St} {S H : Hp} {ρ : R}
theorem postN_E {Q : D → R → Prop} (hR : Rel X.K (bd X) S H σ ρ) {v : V} {H1 : Hp} (q : PostN X σ S H ρ Q v H1) : PostE X σ S H ρ Q v H1 := by
  obtain ⟨S1, ρ1, a, vs, xs, R1, E1, rfl, ha, hs, hl, hd, q⟩ := q
  have hn : ¬ OwnAt σ ρ1 a := fun z => own_new hR ha (E1.at.mpr z)
  refine ⟨upd S1 a (.lst vs), ρ1, .list xs, R1.know hl hn hs rfl, ⟨E1.same.trans (same_upd hs), E1.there, fun b hb h0 => ?_, E1.keep, E1.kind, E1.oth⟩, .lst upd_same (hd.mono (same_upd hs)), q⟩
  rw [upd_ne (fun z => hb (by rw [z]; exact ha))]
  exact E1.stay b hb h0
variable {pos spos py : Pos} {y : Str} {i : Nat} {elt tgE iter : Expr} {ifs : List Expr} {scope : Scope} {tg : Tg} {ti : VI} {tc : VC} {te : VT}
theorem js_lcO {own : List (Str × Nat)} (hb : (tg.ix.all fun i => decide (i < bd X)) = true) (hib : i < bd X) (hc : X.calm = true) (hN : X.N.Nodup) (hy : X.N[i]? = some y) (hyl : X.env.scope.names.lookup y = some .local) (hi : i ∉ F) (hsw : swapsWith (.ListComp elt [⟨tgE, iter, ifs, 0⟩] scope pos) (some (.Name y py)) spos.line X.env = pure true)
    (ok : BlkOk X.N X.env.scope scope own) (ho : own.map (·.2) = tg.ix) (hj : JI X tg.pair tgE iter ti) (hg : InBlk X scope fun Y => PG Y tgE (gT X.K tg)) (ht : InBlk X scope fun Y => JTs Y ifs tc) (he : InBlk X scope fun Y => JT Y elt te) (hs : ∀ x, foldedSetIterable iter X.env x = pure x) :
    JS X new F (.Assign [.Name y py] (.ListComp elt [⟨tgE, iter, ifs, 0⟩] scope pos) spos) (tAsgO i (tLcV tg ti tc te)) := by
  intro σ S H ρ Qn Qr hR h
  have hr := lc_read (Q' := fun v H' => gName i v σ H' (endsS X new F σ S H ρ Qn Qr).nx) hb hj ht he hR h fun v H1 q => by
    obtain ⟨S1, ρ1, c, vs, xs, R1, E1, rfl, hc, hcs, hcl, hd, q⟩ := q
    exact ⟨S1, _, Rel.setO hib hR E1 hc R1 hcs hcl hd, xs_setO hi E1 hc, q⟩
  rw [← ho] at hr
  exact WS.of (ps_setLc hc hN hy hyl hsw piW ok hg (fun s H C cl fp => ⟨fun pins s' σ' H' Q I q => q s H C cl fp pins s' I⟩) (fun s H C cl fp => ⟨fun pins s' σ' H' Q I q => q s H C cl fp pins s' I⟩) hs) hr
theorem js_lcV {own : List (Str × Nat)} (hb : (tg.ix.all fun i => decide (i < bd X)) = true) (hib : i < bd X) (hc : X.calm = true) (hN : X.N.Nodup) (hy : X.N[i]? = some y) (hyl : X.env.scope.names.lookup y = some .local) (hi : i ∉ F) (hsw : swapsWith (.ListComp elt [⟨tgE, iter, ifs, 0⟩] scope pos) (some (.Name y py)) spos.line X.env = pure true)
    (ok : BlkOk X.N X.env.scope scope own) (ho : own.map (·.2) = tg.ix) (hj : JI X tg.pair tgE iter ti) (hg : InBlk X scope fun Y => PG Y tgE (gT X.K tg)) (ht : InBlk X scope fun Y => JTs Y ifs tc) (he : InBlk X scope fun Y => JT Y elt te) (hs : ∀ x, foldedSetIterable iter X.env x = pure x) :
    JS X new F (.Assign [.Name y py] (.ListComp elt [⟨tgE, iter, ifs, 0⟩] scope pos) spos) (tAsgV i (vT (tLcV tg ti tc te))) := by
  intro σ S H ρ Qn Qr hR h
  have h : tLcV tg ti tc te ρ fun x ρ1 => Qn (ρ1.set i (.v x)) := h
  have hr := lc_read (Q' := fun v H' => gName i v σ H' (endsS X new F σ S H ρ Qn Qr).nx) hb hj ht he hR h fun v H1 q => by
    obtain ⟨S1, ρ1, x, R1, E1, d1, q1⟩ := postN_E hR q
    exact ⟨S1, _, R1.setv hib d1, E1.xs.trans (xs_set hi rfl), q1⟩
  rw [← ho] at hr
  exact WS.of (ps_setLc hc hN hy hyl hsw piW ok hg (fun s H C cl fp => ⟨fun pins s' σ' H' Q I q => q s H C cl fp pins s' I⟩) (fun s H C cl fp => ⟨fun pins s' σ' H' Q I q => q s H C cl fp pins s' I⟩) hs) hr
end
/-! xs[k] += v -/
section
variable {X : Cx} {new : Fs} {F : List Nat} {pos : Pos} {e : Expr}
def rGetL (K : PySem.W.Frag) : V → V → Hp → VK → Prop := fun x y H Q => ∃ p xs i v, x = .ref p ∧ y = .int i ∧ SqL K H p xs ∧ atI xs i = some v ∧ Q v H
theorem get_list : PGet X (rGetL X.K) := by
  intro pins s σ H x y v u Q I rx ry h
  obtain ⟨p, xs, i, z, rfl, rfl, hq, he, q⟩ := h
  cases rx
  obtain ⟨t, rfl⟩ := ry
  obtain ⟨its, r, pl, hz⟩ := I.list hq
  obtain ⟨j, h1, h2, h3, h4, h5⟩ := atI_get he
  obtain ⟨w, ew, rw'⟩ := r.get h2
  have hl := r.length
  have hn := line63
  have fin : EP X pins σ Q w s := ⟨z, H, I, rw', q⟩
  by_cases h0 : 0 ≤ i
  · have hj : i.toNat = j := by
      rw [seqIndex_of h0 h5] at h1
      exact Option.some.inj h1
    exact wpAny_getItem_list pl.isList h0 (by omega) (by rw [hj]; simpa using ew) fin
  · have hj : (i + (its.toArray.size : Int)).toNat = j := by
      rw [seqIndex_neg (by omega) h4] at h1
      rw [List.size_toArray, ← hl]
      exact Option.some.inj h1
    exact wpAny_getItem_list_neg pl.isList (by omega) (by rw [List.size_toArray] <;> omega) (by omega) (by rw [hj]; simpa using ew) fin
/-- xs[k] op= v -/
def tAugIx (o : AOp) (i : Nat) (tk tv : VT) : VS := fun ρ Qn _ => isOwn ρ i ∧ tk ρ fun w ρ1 => match deref ρ1 w, ρ1[i]? with
  | some (.int k), some (.own xs) => ∃ j x, ixN xs.length k = some j ∧ xs[j]? = some (.int x) ∧ tv ρ1 fun u ρ2 => match deref ρ2 u, ρ2[i]? with
    | some (.int z), some (.own ys) => ys.length = xs.length ∧ Qn (ρ2.set i (.own (ys.set j (.int (o.f x z)))))
    | _, _ => False
  | _, _ => False
theorem js_augIx {o : AOp} {i : Nat} {x : Str} {p pos' : Pos} {k : Expr} {tk tv : VT} (hn : Nm X i x) (hk : JT X k tk) (hv : JT X e tv)
    (ha : ∀ ov iv new, augStore k ov iv new = (do holding [new, ov, iv] (setItem ov iv new); release [new, ov, iv] []; pure .next)) : JS X new F (.AugAssign (.Subscript (.Name x p) k pos') o.op e pos) (tAugIx o i tk tv) := by
  intro σ S H ρ Qn Qr hR ht
  obtain ⟨⟨zs, hz⟩, ht⟩ := ht
  obtain ⟨c, vs0, ho, _⟩ := hR.own i zs hz
  refine WS.of (ps_augS hn.pe peW get_list peW o.ip set_list ha) ⟨_, ho, (hk σ S H ρ _ hR ht).mono fun y H1 q => ?_⟩
  obtain ⟨S1, ρ1, w, R1, E1, d1, q1⟩ := q
  split at q1
  · rename_i kk xs ek ex
    obtain ⟨c', vs, c1, c2, c3, c4⟩ := R1.own i xs ex
    rw [ho] at c1
    cases c1
    obtain ⟨j, z0, ej, ez, q1⟩ := q1
    obtain ⟨v0, hv0, hr0⟩ := rps_get c4 ez
    refine ⟨c, vs, kk, v0, rfl, d1.int ek, .of c3, ?_, (hv σ S1 H1 ρ1 _ R1 q1).mono fun v H2 q => ?_⟩
    · unfold atI
      rw [rps_len c4, ej]
      exact hv0
    · cases hr0
      obtain ⟨S2, ρ2, u, R2, E2, d2, q2⟩ := q
      split at q2
      · rename_i z ys ez' ey
        obtain ⟨c'', ws, e1, e2, e3, e4⟩ := R2.own i ys ey
        rw [ho] at e1
        cases e1
        obtain ⟨hlen, q2⟩ := q2
        refine ⟨_, _, rfl, d2.int ez', c, ws, kk, j, rfl, d1.int ek, e3, by rw [rps_len e4, hlen]; exact ej, S2, _, R2.put ey ho (rps_set j e4 (.int _)), ((E1.trans E2).trans (Ext.put R2 ey ho)).xs, q2⟩
      · exact q2.elim
  · exact q1.elim
end
/-! ### short words -/
section
variable {X : Cx}
theorem nm (i : Nat) {x : Str} (hN : X.N[i]? = some x := by rfl) (hv : Vis X.env.scope x := by first | exact Or.inl rfl | exact Or.inr (Or.inl rfl) | exact Or.inr (Or.inr rfl)) (hd : (x == ("__debug__" : Str)) = false := by decide)
    (hcd : (x == ("__classdict__" : Str)) = false := by decide) : Nm X i x := ⟨hN, hv, hd, hcd⟩
theorem sn (i : Nat) {x : Str} (hN : X.N[i]? = some x := by rfl) (hl : Loc X.env.scope x := by first | exact Or.inl rfl | exact Or.inr rfl) (hf : X.fn x = true ∨ X.env.scope.names.lookup x = some .local := by first | exact .inl rfl | exact .inr rfl) (hb : decide (i < bd X) = true := by rfl) : Sn X i x := ⟨hN, hl, hf, of_decide_eq_true hb⟩
theorem va (i : Nat) {x : Str} {pos : Pos} (hN : X.N[i]? = some x := by rfl) (hv : Vis X.env.scope x := by first | exact Or.inl rfl | exact Or.inr (Or.inl rfl) | exact Or.inr (Or.inr rfl)) (hd : (x == ("__debug__" : Str)) = false := by decide)
    (hcd : (x == ("__classdict__" : Str)) = false := by decide) : JT X (.Name x pos) (tvar i) := jt_var hN hv hd hcd
theorem pg1 (i : Nat) {x : Str} {pos : Pos} (nd : X.N.Nodup) (hi : X.N[i]? = some x := by rfl) (hx : Loc X.env.scope x := by first | exact Or.inl rfl | exact Or.inr rfl) (hf : X.fn x = true ∨ X.env.scope.names.lookup x = some .local := by first | exact .inl rfl | exact .inr rfl) : PG X (.Name x pos) (gT X.K (.one i)) := pg_name nd hi hx hf
theorem pg2 {e1 e2 : Expr} {k : Nat} {pos : Pos} (i j : Nat) (hc : X.calm = true) (h1 : PG X e1 (gT X.K (.one i))) (h2 : PG X e2 (gT X.K (.one j)))
    (hs1 : (assignEach [e1, e2] X.env).map (·.2) = assign e1 X.env :: (assignEach [e2] X.env).map (·.2) := by rfl) (hs2 : (assignEach [e2] X.env).map (·.2) = assign e2 X.env :: (assignEach [] X.env).map (·.2) := by rfl)
    (hn : (assignEach [e1, e2] X.env).length = 2 := by rfl) (hst : (assignEach [e1, e2] X.env).findIdx? (·.1) = none := by rfl) : PG X (.Tuple [e1, e2] k pos) (gT X.K (.two i j)) :=
  pg_tup hc (pgs_cons h1 (pgs_cons h2 pgs_nil hs2) hs1) hn hst
end
/-- Known, from facts that hold in every body -/
structure KnownF (P : Program) (w : World) (K : PySem.W.Frag) (mg : Str → Option Value) (base : Heap) (lvl : Nat) (f : FSpec) : Prop where
  ok : ∃ (a : Addr) (fd : FuncData) (ps : List Str), FnOk P w K mg base CX0 lvl a fd ps (spOf K f) ∧ mg f.name = some (.ref a) ∧ PySem.W.keepIn K (.ref a) = true ∧ Binds K fd ps []
  nd : (f.name == ("__debug__" : Str)) = false
theorem KnownF.at {X : Cx} {lvl : Nat} {f : FSpec} (h : KnownF X.prog X.w X.K X.mg X.base lvl f) : Known X lvl f := ⟨h.ok, h.nd⟩
/-! ### loops, in plain terms -/
theorem for_inv {tg : Tg} {gs : List (Nat × List D)} {body : VS} {Qn : R → Prop} {Qr : D → R → Prop} (I : Nat → R → Prop) : ∀ {its : List (List D)} {k : Nat} {ρ : R}, I k ρ → (∀ j ρ, k ≤ j → j ≤ k + its.length → I j ρ → guardR gs ρ) →
    (∀ j x ρ, its[j]? = some x → I (k + j) ρ → ∃ ρ1, putT ρ tg x = some ρ1 ∧ body ρ1 (I (k + j + 1)) Qr) → (∀ ρ, I (k + its.length) ρ → Qn ρ) → (∀ ρ1 (A B : R → Prop), (∀ r, A r → B r) → body ρ1 A Qr → body ρ1 B Qr) → forLoop tg gs body its ρ Qn Qr
  | [], k, ρ, h0, hg, _, hq, _ => ⟨hg k ρ (Nat.le_refl _) (by simp) h0, hq ρ (by simpa using h0)⟩
  | x :: xs, k, ρ, h0, hg, hs, hq, hm => by
    refine ⟨hg k ρ (Nat.le_refl _) (by simp) h0, ?_⟩
    obtain ⟨ρ1, e, hb⟩ := hs 0 x ρ rfl (by simpa using h0)
    rw [e]
    refine hm ρ1 _ _ (fun r hr => ?_) hb
    refine for_inv I (its := xs) (k := k + 1) (by simpa using hr) (fun j r h1 h2 => hg j r (by omega) (by simp only [List.length_cons]; omega)) (fun j y r hj hi => ?_) (fun r hr => hq r (by simp only [List.length_cons]; rw [show k + (xs.length + 1) = k + 1 + xs.length by omega]; exact hr)) hm
    have := hs (j + 1) y r (by simpa using hj) (by rw [show k + (j + 1) = k + 1 + j by omega]; exact hi)
    rw [show k + (j + 1) + 1 = k + 1 + j + 1 by omega] at this
    exact this
end WA

/-! WA13: plain lemmas: loops, comprehensions; the law's own promise. -/
namespace WA
open PySem PySem.Spec PyProof.Rows L2
/-! ### for -/
theorem for_pre {α : Type} {tg : Tg} {gs : List (Nat × List D)} {body : VS} {Qn : R → Prop} {Qr : D → R → Prop} (item : α → List D) (I : List α → R → Prop) :
    ∀ {post pre : List α} {its : List (List D)} {ρ : R}, its = post.map item → I pre ρ → (∀ p ρ, I p ρ → guardR gs ρ) →
    (∀ p a q ρ (K : R → Prop), pre ++ post = p ++ a :: q → I p ρ → (∀ ρ', I (p ++ [a]) ρ' → K ρ') → ∃ ρ1, putT ρ tg (item a) = some ρ1 ∧ body ρ1 K Qr) → (∀ ρ, I (pre ++ post) ρ → Qn ρ) → forLoop tg gs body its ρ Qn Qr
  | [], pre, its, ρ, e, h0, hg, _, hq => by
    subst e
    exact ⟨hg _ ρ h0, hq ρ (by simpa using h0)⟩
  | x :: xs, pre, its, ρ, e, h0, hg, hs, hq => by
    subst e
    refine ⟨hg _ ρ h0, ?_⟩
    obtain ⟨ρ1, e, hb⟩ := hs pre x xs ρ (fun ρ2 => forLoop tg gs body (xs.map item) ρ2 Qn Qr) rfl h0 fun ρ' h' =>
      for_pre item I (post := xs) (pre := pre ++ [x]) rfl h' hg (fun p a q ρ K hp => hs p a q ρ K (by simpa using hp)) (by simpa using hq)
    show (match putT ρ tg (item x) with
      | some ρ1 => body ρ1 (fun ρ2 => forLoop tg gs body (xs.map item) ρ2 Qn Qr) Qr
      | none => False)
    rw [e]
    exact hb
/-- from the start -/
theorem for_all {α : Type} {tg : Tg} {gs : List (Nat × List D)} {body : VS} {Qn : R → Prop} {Qr : D → R → Prop} (item : α → List D) (as : List α) (I : List α → R → Prop) {its : List (List D)} {ρ : R} (e : its = as.map item) (h0 : I [] ρ) (hg : ∀ p ρ, I p ρ → guardR gs ρ)
    (hs : ∀ p a q ρ (K : R → Prop), as = p ++ a :: q → I p ρ → (∀ ρ', I (p ++ [a]) ρ' → K ρ') → ∃ ρ1, putT ρ tg (item a) = some ρ1 ∧ body ρ1 K Qr) (hq : ∀ ρ, I as ρ → Qn ρ) : forLoop tg gs body its ρ Qn Qr :=
  for_pre item I (post := as) (pre := []) e h0 hg hs hq
/-- by turns of a range -/
theorem for_rng {tg : Tg} {gs : List (Nat × List D)} {body : VS} {Qn : R → Prop} {Qr : D → R → Prop} {lo : Int} {n : Nat} (I : Nat → R → Prop) {ρ : R} (h0 : I 0 ρ) (hg : ∀ p ρ, I p ρ → guardR gs ρ)
    (hs : ∀ k ρ (K : R → Prop), k < n → I k ρ → (∀ ρ', I (k + 1) ρ' → K ρ') → ∃ ρ1, putT ρ tg [.int (lo + (k : Nat))] = some ρ1 ∧ body ρ1 K Qr) (hq : ∀ ρ, I n ρ → Qn ρ) : forLoop tg gs body (rangeD lo n) ρ Qn Qr := by
  refine for_all (fun i : Nat => [PyData.int (lo + (i : Nat))]) (List.range n) (fun p ρ => I p.length ρ) rfl h0 (fun p ρ h => hg _ ρ h) (fun p a q ρ K e h hk => ?_) (fun ρ h => hq ρ (by simpa using h))
  have hl := congrArg List.length e
  simp only [List.length_range, List.length_append, List.length_cons] at hl
  have ha : a = p.length := by
    have e2 : (List.range n)[p.length]? = some a := by rw [e]; simp
    rw [List.getElem?_range (by omega)] at e2
    exact (Option.some.inj e2).symm
  subst ha
  exact hs _ ρ K (by omega) h fun ρ' h' => hk ρ' (by simpa using h')
theorem rng0 (n : Nat) : rangeD 0 ((n : Int)).toNat = (List.range n).map fun i : Nat => [PyData.int (i : Nat)] := by
  rw [Int.toNat_natCast]
  unfold rangeD
  simp only [Int.zero_add]
theorem rng_at (lo : Int) (n : Nat) : rangeD lo n = (List.range n).map fun i : Nat => [PyData.int (lo + (i : Nat))] := rfl
theorem for_rng0 {tg : Tg} {gs : List (Nat × List D)} {body : VS} {Qn : R → Prop} {Qr : D → R → Prop} {n : Nat} (I : Nat → R → Prop) {ρ : R} (h0 : I 0 ρ) (hg : ∀ p ρ, I p ρ → guardR gs ρ)
    (hs : ∀ k ρ (K : R → Prop), k < n → I k ρ → (∀ ρ', I (k + 1) ρ' → K ρ') → ∃ ρ1, putT ρ tg [.int (k : Nat)] = some ρ1 ∧ body ρ1 K Qr) (hq : ∀ ρ, I n ρ → Qn ρ) : forLoop tg gs body (rangeD 0 ((n : Int)).toNat) ρ Qn Qr := by
  rw [Int.toNat_natCast]
  refine for_rng I h0 hg (fun k ρ K hk h h' => ?_) hq
  rw [Int.zero_add]
  exact hs k ρ K hk h h'
theorem guard_nil {ρ : R} : guardR [] ρ := fun _ h => absurd h (by simp)
theorem guard_one {i : Nat} {xs : List D} {ρ : R} (h : deref ρ (.slot i) = some (.list xs)) : guardR [(i, xs)] ρ := fun p hp => by
  have e : p = (i, xs) := by simpa using hp
  rw [e]
  exact h
/-! ### comprehensions -/
theorem lc_go {α : Type} {tg : Tg} {gs : List (Nat × List D)} {c : VC} {e : VT} {Q : List D → R → Prop} {ρ : R} (item : α → List D) (p : α → Bool) (f : α → D) (hg : guardR gs ρ) : ∀ (as : List α) {its : List (List D)} {acc : List D}, its = as.map item →
    (∀ a ∈ as, ∃ ρ1, putT ρ tg (item a) = some ρ1 ∧ wipeR ρ1 tg.ix = ρ ∧ (∀ K : Bool → R → Prop, K (p a) ρ1 → c ρ1 K) ∧ (p a = true → ∀ K : AV → R → Prop, K (.val (f a)) ρ1 → e ρ1 K)) →
    acc.length + as.length ≤ sizeLine → Q (acc ++ (as.filter p).map f) ρ → lcLoop tg gs c e its acc ρ Q
  | [], its, acc, e1, _, _, hq => by
    subst e1
    exact ⟨hg, by simpa using hq⟩
  | a :: as, its, acc, e1, h, hz, hq => by
    subst e1
    refine ⟨hg, ?_⟩
    obtain ⟨ρ1, e2, hw, hc, he⟩ := h a List.mem_cons_self
    show (match putT ρ tg (item a) with
      | some ρ1 => c ρ1 fun b ρ2 => if b = true then e ρ2 fun y ρ3 => (match y with
          | .val d => acc.length < sizeLine ∧ lcLoop tg gs c e (as.map item) (acc ++ [d]) (wipeR ρ3 tg.ix) Q
          | _ => False) else lcLoop tg gs c e (as.map item) acc (wipeR ρ2 tg.ix) Q
      | none => False)
    rw [e2]
    have hl : (a :: as).length = as.length + 1 := rfl
    refine hc _ ?_
    cases hp : p a with
    | true =>
      rw [if_pos rfl]
      refine he hp _ ⟨by omega, ?_⟩
      rw [hw]
      refine lc_go item p f hg as rfl (fun b hb => h b (List.mem_cons_of_mem _ hb)) (by simp only [List.length_append, List.length_singleton]; omega) ?_
      rw [List.filter_cons_of_pos hp, List.map_cons] at hq
      simpa using hq
    | false =>
      rw [if_neg (by decide)]
      rw [hw]
      refine lc_go item p f hg as rfl (fun b hb => h b (List.mem_cons_of_mem _ hb)) (by omega) ?_
      rw [List.filter_cons_of_neg (by simp [hp])] at hq
      exact hq
/-- without a test -/
theorem lc_map {α : Type} {tg : Tg} {gs : List (Nat × List D)} {e : VT} {Q : List D → R → Prop} {ρ : R} (item : α → List D) (f : α → D) (as : List α) {its : List (List D)} (e1 : its = as.map item) (hg : guardR gs ρ)
    (h : ∀ a ∈ as, ∃ ρ1, putT ρ tg (item a) = some ρ1 ∧ wipeR ρ1 tg.ix = ρ ∧ ∀ K : AV → R → Prop, K (.val (f a)) ρ1 → e ρ1 K) (hz : as.length ≤ sizeLine) (hq : Q (as.map f) ρ) : lcLoop tg gs tYesV e its [] ρ Q := by
  refine lc_go item (fun _ => true) f hg as e1 (fun a ha => ?_) (by simpa using hz) (by rw [List.filter_eq_self.mpr (fun _ _ => rfl)]; simpa using hq)
  obtain ⟨ρ1, h1, h2, h3⟩ := h a ha
  exact ⟨ρ1, h1, h2, fun K k => k, fun _ => h3⟩
/-! ### the law's own promise -/
def lawSpec : FSpec := ⟨"law", [.ro], false, fun xs => ∃ ns : List Int, ns.length ≤ 63 ∧ xs = [.list (ns.map PyData.int)], fun _ r yss => r = .bool true ∧ yss = []⟩
theorem law_sp {K : PySem.W.Frag} {H : Hp} {a : Addr} {ns : List Int} (hl : ns.length ≤ 63) (hS : SqL K H a (ns.map V.int)) : spOf K lawSpec [.ref a] H (fun v _ => v = .bl true) (fun _ _ _ => False) := by
  have hg : RpAll (fun _ => none) (ns.map V.int) (ns.map PyData.int) := rps_of_ints _
  have fin : ∀ (r : D) (yss : List (List D)), (r = .bool true ∧ yss = []) → ∀ (v : V) (S' H' : Hp), CExt (fun _ => none) H [] S' H' → OwnsR S' H' [] yss → ResR false H S' H' v r → v = .bl true := fun r yss hp v S' H' _ _ r' => by
    have r : Rp S' v r := r'.rp
    rw [hp.1] at r
    cases r
    rfl
  rcases hS with (h | ⟨o, h⟩) | h
  · exact ⟨fun _ => none, [.list (ns.map .int)], [], [a], fun _ _ z => by (cases z), .ro (.inl rfl) h hg .nil, by simp, by simp, ⟨ns, hl, rfl⟩, fin⟩
  · exact ⟨fun _ => none, [.list (ns.map .int)], [], [a], fun _ _ z => by (cases z), .ro (.inr ⟨o, rfl⟩) h hg .nil, by simp, by simp, ⟨ns, hl, rfl⟩, fin⟩
  · exact ⟨fun _ => none, [.list (ns.map .int)], [], [], fun _ _ z => by (cases z), .kl h hg .nil, by simp, by simp, ⟨ns, hl, rfl⟩, fin⟩
/-- a law's plain part, its ends kept as letters -/
theorem plain_of_law {n : Nat} {t : VS} (h : ∀ (ns : List Int) (Qn : R → Prop) (Qr : D → R → Prop), ns.length ≤ 63 → (∀ ρ, Qr (.bool true) ρ) → t (.ro false (ns.map PyData.int) :: List.replicate (n - 1) .no) Qn Qr) : Plain lawSpec n t := by
  rintro xs ρ ⟨ns, hl, rfl⟩ hi
  cases hi
  exact h ns _ _ hl fun ρ => ⟨[], ⟨rfl, rfl⟩, .nil⟩
end WA

/-! WA14: texts taken so many times, lists from behind, two names at once. -/
namespace WA
open PySem PySem.Spec PyProof.Rows L2
section
variable {X : Cx} {pos : Pos} {a b : Expr} {ta tb : VT}
theorem op_repS : OpR X (binaryOp .Mult) (fun x y H Q => ∃ z n, x = .str z ∧ y = .int n ∧ PySem.MulOk z n ∧ Q (.str (Txt.mul z n)) H) := by
  intro pins s σ H x y v u Q I rx ry h
  obtain ⟨z, n, rfl, rfl, hm, q⟩ := h
  obtain ⟨t, rfl⟩ := rx
  obtain ⟨t', rfl⟩ := ry
  exact PySem.SB.mul hm fun t'' k => ⟨.str _, H, I.tok _, ⟨_, rfl⟩, q⟩
def tRepS (ta tb : VT) : VE := fun ρ Q => ta ρ fun u ρ1 => tb ρ1 fun w ρ2 => match deref ρ2 u, deref ρ2 w with
  | some (.str z), some (.int n) => PySem.MulOk z n ∧ Q (.str (Txt.mul z n)) ρ2
  | _, _ => False
theorem je_repS (ha : JT X a ta) (hb : JT X b tb) : JE X (.BinOp a .Mult b pos) (tRepS ta tb) := by
  intro σ S H ρ Q hR ht
  refine W.of (pe_op opW peW peW) (two hR ha hb ht fun v w H2 S2 ρ2 u z R2 E d1 d2 q => ?_)
  split at q
  · rename_i z n e1 e2
    rw [d1.str e1, d2.int e2]
    exact WO.of op_repS ⟨z, n, rfl, rfl, q.1, S2, ρ2, _, R2, E, .str _, q.2⟩
  · exact q.elim
/-! xs[::-1] -/
theorem pe_rev {e : Expr} {te : TE} {j : Nat} {p1 p2 p3 : Pos} (he : PE X e te) : PE X (.Subscript e (.Slice none none (some (.UnaryOp .USub (.Constant (.int 1) j p1) p2)) p3) pos) (fun σ H Q => te σ H fun x H1 => ∃ a xs, x = .ref a ∧ SqL X.K H1 a xs ∧ ∀ p, H1 p = none → Q (.ref p) (upd H1 p (.lst xs.reverse))) := by
  refine ⟨fun pins s σ H Q I h => ?_⟩
  refine Subscript_ (thn (he.run pins s σ H _ I h) fun v s1 ⟨x, H1, I1, r1, q1⟩ => ?_)
  obtain ⟨a, xs, rfl, hx, q⟩ := q1
  cases r1
  refine wpAny_Slice ?_
  rw [evalPart_none]
  refine wpAny_pure ?_
  refine wpAny_pure ?_
  refine thn ((po_some (pe_un un_neg pe_int)).run pins s1 σ H1 (fun o H' => o = some (-1) ∧ H' = H1) I1 ⟨1, rfl, _, rfl, rfl, rfl⟩) fun vk s2 ⟨o, H2, I2, pk, e1, e2⟩ => ?_
  subst e1 e2
  obtain ⟨its, r, ht, hz⟩ := I2.list hx
  have hlen := r.length
  have I4 : Inv X pins σ H2 { s2 with heap := s2.heap.push { cls := .type "slice", data := .fields #[.none, .none, vk] } } := I2.kept (t' := s2.toks) fun b ob q => Heap.get?_push_of_some _ q
  obtain ⟨its', r', ht', hz'⟩ := I4.list hx
  refine tail_any (ops := [.ref a, .ref s2.heap.objs.size]) ht'.isList.typeIs slot_list_getitem.lookup ?_ (by with_unfolding_all rfl)
  refine wpAny_getItem_list_slice ht'.isList (Heap.IsSliceOf.new ..) .none .none pk (by decide) ?_ (by rw [List.size_toArray, ← r'.length]; exact hz')
  rw [PySem.W.krv_pick]
  refine ⟨.ref _, _, I4.laid (t' := s2.toks) (o := .lst xs.reverse) (fun b ob q => Heap.get?_push_of_some _ q) (Nat.le_refl _) ?_, rfl, q _ (I4.hok.fresh (Nat.le_refl _))⟩
  refine ⟨by rw [List.length_reverse]; exact hz', its'.reverse, 0, r'.reverse, ?_⟩
  exact Heap.get?_push_size _ rfl
def tRevL (ta : VT) : VE := fun ρ Q => ta ρ fun u ρ1 => match deref ρ1 u with
  | some (.list xs) => Q (.list xs.reverse) ρ1
  | _ => False
theorem jn_rev {j : Nat} {p1 p2 p3 : Pos} (ha : JT X a ta) : JN X (.Subscript a (.Slice none none (some (.UnaryOp .USub (.Constant (.int 1) j p1) p2)) p3) pos) (tRevL ta) := by
  intro σ S H ρ Q hR ht
  refine W.of (pe_rev peW) ((ha σ S H ρ _ hR ht).mono fun v H1 q => ?_)
  obtain ⟨S1, ρ1, u, R1, E1, d1, q1⟩ := q
  split at q1
  · rename_i xs e1
    obtain ⟨p, ws, rfl, g1, g2⟩ := d1.list R1 e1
    exact ⟨p, ws, rfl, g1, fun n hn => ⟨S1, ρ1, n, _, _, R1.new0 hn, E1.trans (.new0 R1 hn), rfl, E_none E1 hn, R1.sub.free hn, upd_same, rps_rev g2, q1⟩⟩
  · exact q1.elim
/-! a, b = x, y, plain names -/
def tPar (i j : Nat) (ta : VA) : VS := fun ρ Qn _ => ta ρ fun as ρ1 => match vals? as with
  | some [x, y] => Qn ((ρ1.set i (.v x)).set j (.v y))
  | _ => False
theorem js_par {new : Fs} {F : List Nat} {i j : Nat} {x y : Str} {t : VA} {px py pt : Pos} {kt : Nat} {k2 : Nat} {pt2 : Pos} (hc : X.calm = true) (hN : X.N.Nodup) (hi : X.N[i]? = some x) (hj : X.N[j]? = some y) (hij : i ≠ j) (hF : i ∉ F) (hF2 : j ∉ F) (hB : i < bd X) (hB2 : j < bd X)
    (hx : X.env.scope.names.lookup x = some .local) (hy : X.env.scope.names.lookup y = some .local) (h : JA X [a, b] t)
    (hw : swappedStores [.Tuple [.Name x px, .Name y py] kt pt] (.Tuple [a, b] k2 pt2) X.env = pure (some [x, y]))
    (hs : swapsWithSole [.Tuple [.Name x px, .Name y py] kt pt] (.Tuple [a, b] k2 pt2) pos.line X.env = pure false) :
    JS X new F (.Assign [.Tuple [.Name x px, .Name y py] kt pt] (.Tuple [a, b] k2 pt2) pos) (tPar i j t) := by
  intro σ S H ρ Qn Qr hR ht
  refine WS.of (ps_par hc hN hi hj hij hx hy paW hw hs) ((h σ S H ρ _ hR ht).mono fun vs H1 q => ?_)
  obtain ⟨S1, ρ1, as, R1, E1, d1, q1⟩ := q
  split at q1
  · rename_i u w e
    have g := vals_rps d1 e
    cases g with
    | cons g1 g =>
      cases g with
      | cons g2 g =>
        cases g
        exact ⟨_, _, rfl, S1, _, (R1.setv hB g1).setv hB2 g2, (E1.xs.trans (xs_set hF rfl)).trans (xs_set hF2 rfl), q1⟩
  · exact q1.elim
end
end WA

/-! WA15: zip of two texts; list(range(n)). -/
namespace WA
open PySem PySem.Spec PyProof.Rows L2
def asc (x : Str) : Bool := x.cps.all (· < 128)
abbrev zs1 (h : Heap) (x : Str) (t : Tok) : Heap := h.push { cls := .type "str_ascii_iterator", data := .fields #[.str x t, .int 0 0] }
abbrev zs2 (h : Heap) (x y : Str) (t u : Tok) : Heap := zs1 (zs1 h x t) y u
abbrev zs3 (h : Heap) (x y : Str) (t u : Tok) : Heap := (zs2 h x y t u).push { cls := .type "tuple", data := .seq #[.ref h.objs.size, .ref (zs1 h x t).objs.size] }
abbrev zs4 (h : Heap) (x y : Str) (t u : Tok) : Heap := (zs3 h x y t u).push { cls := .type "tuple", data := .seq #[.none, .none] }
abbrev zs5 (h : Heap) (x y : Str) (t u : Tok) : Heap := (zs4 h x y t u).push { cls := .type "zip", data := .fields #[.none, .bool false, .bool false, .ref (zs2 h x y t u).objs.size, .ref (zs3 h x y t u).objs.size] }
theorem zs_meets (x y : Str) (t u : Tok) (hx : asc x = true) (hy : asc y = true) :
    Meets (Builtin.«zip.__new__» ⟨[.type "zip", .str x t, .str y u], []⟩) (fun _ R s => R (.ok (.ret (.ref (zs4 s.heap x y t u).objs.size))) { s with heap := zs5 s.heap x y t u }) :=
  .of_wp fun prog w A R s h => by
    obtain ⟨hp, g, d, tk, os⟩ := s
    have hsub := sub_zip
    have hX : x.cps.all (· < 128) = true := hx
    have hY : y.cps.all (· < 128) = true := hy
    wp_walk using wpAny_pyIter_ascii hX, wpAny_pyIter_ascii hY
    exact ⟨_, rfl, h⟩
section
variable {prog : Program} {w : World} {A : Around} {E : Value → Shared → Prop} {s : Shared}
theorem call_zs {x y : Str} {t u : Tok} {Q : Value → Shared → Prop} (hx : asc x = true) (hy : asc y = true)
    (h : ∀ h', IsZip h' (s.heap.objs.size + 4) (s.heap.objs.size + 2) (s.heap.objs.size + 3) .none → IsTupOf2 h' (s.heap.objs.size + 2) (.ref s.heap.objs.size) (.ref (s.heap.objs.size + 1)) → IsTupOf2 h' (s.heap.objs.size + 3) .none .none →
      h'.IsStrIter s.heap.objs.size "str_ascii_iterator" x t 0 → h'.IsStrIter (s.heap.objs.size + 1) "str_ascii_iterator" y u 0 → h'.objs.size = s.heap.objs.size + 5 →
      (∀ c o, s.heap.get? c = some o → h'.get? c = some o) → Q (.ref (s.heap.objs.size + 4)) { s with heap := h' }) :
    wpAny (model prog w) A (call (.type "zip") [.str x t, .str y u]) Q E s := by
  refine callType_new F.called_zip (by decide) (F.typeCall_zip_2 _ _) (F.newCall_zip_2 _ _) (fun obj => F.args_object_init_3 obj _ _) F.entry_zip_new (zs_meets x y t u hx hy) ?_
  have n1 : (zs1 s.heap x t).objs.size = s.heap.objs.size + 1 := Heap.size_push ..
  have n2 : (zs2 s.heap x y t u).objs.size = s.heap.objs.size + 2 := by rw [Heap.size_push, n1]
  have n3 : (zs3 s.heap x y t u).objs.size = s.heap.objs.size + 3 := by rw [Heap.size_push, n2]
  have n4 : (zs4 s.heap x y t u).objs.size = s.heap.objs.size + 4 := by rw [Heap.size_push, n3]
  have n5 : (zs5 s.heap x y t u).objs.size = s.heap.objs.size + 5 := by rw [Heap.size_push, n4]
  have up1 : ∀ {c : Addr} {o : Obj}, (zs1 s.heap x t).get? c = some o → (zs5 s.heap x y t u).get? c = some o := fun e => Heap.get?_push_of_some _ (Heap.get?_push_of_some _ (Heap.get?_push_of_some _ (Heap.get?_push_of_some _ e)))
  have up2 : ∀ {c : Addr} {o : Obj}, (zs2 s.heap x y t u).get? c = some o → (zs5 s.heap x y t u).get? c = some o := fun e => Heap.get?_push_of_some _ (Heap.get?_push_of_some _ (Heap.get?_push_of_some _ e))
  have k5 : (zs5 s.heap x y t u).get? (zs4 s.heap x y t u).objs.size = some _ := Heap.get?_push_size _ rfl
  have k4 : (zs5 s.heap x y t u).get? (zs3 s.heap x y t u).objs.size = some _ := Heap.get?_push_of_some _ (Heap.get?_push_size _ rfl)
  have k3 : (zs5 s.heap x y t u).get? (zs2 s.heap x y t u).objs.size = some _ := Heap.get?_push_of_some _ (Heap.get?_push_of_some _ (Heap.get?_push_size _ rfl))
  have k2 : (zs5 s.heap x y t u).get? (zs1 s.heap x t).objs.size = some _ := up2 (Heap.get?_push_size _ rfl)
  have k1 : (zs5 s.heap x y t u).get? s.heap.objs.size = some _ := up1 (Heap.get?_push_size _ rfl)
  show _ ∧ _
  rw [n2, n3, n4] at k5
  rw [n1, n2] at k3
  rw [n3] at k4
  rw [n1] at k2
  rw [n4]
  exact ⟨⟨_, k5, rfl⟩, h _ k5 k3 k4 ⟨_, k1, rfl, rfl⟩ ⟨_, k2, rfl, rfl⟩ n5 fun c o e => up1 (Heap.get?_push_of_some _ e)⟩
end
/-- the signs of both, in new pairs -/
def Itzs (x y : Str) : It :=
  ⟨fun i _ => i < x.cps.size ∧ i < y.cps.size,
    fun i H v H' => ∃ T c d, v = .ref T ∧ H T = none ∧ H' = upd H T (.tup [.str ⟨#[c]⟩, .str ⟨#[d]⟩]) ∧ x.cps[i]? = some c ∧ y.cps[i]? = some d,
    fun i _ => i = min x.cps.size y.cps.size⟩
theorem turn_zs {P : Program} {w : World} {K : PySem.W.Frag} {elts : List Expr} {kk : Nat} {tpos : Pos} {z TI TO i1 i2 : Addr} {x y : Str} {t u : Tok} (D : ZipSep2 z TI TO i1 i2 [i1] [i2]) :
    Turn P w K (.Tuple elts kk tpos) (Itzs x y) [z, TI, TO, i1, i2] z (fun i h => i ≤ min x.cps.size y.cps.size ∧ IsZip h z TI TO .none ∧ IsTupOf2 h TI (.ref i1) (.ref i2) ∧ (∃ a b, IsTupOf2 h TO a b) ∧ h.IsStrIter i1 "str_ascii_iterator" x t i ∧ h.IsStrIter i2 "str_ascii_iterator" y u i) where
  mem := List.mem_cons_self
  obj := fun i h st c hc => by
    obtain ⟨_, hz, hTI, ⟨a, b, hTO⟩, ⟨o1, e1, _, d1⟩, ⟨o2, e2, _, d2⟩⟩ := st
    have cs : c = z ∨ c = TI ∨ c = TO ∨ c = i1 ∨ c = i2 := by simpa using hc
    rcases cs with rfl | rfl | rfl | rfl | rfl
    · exact ⟨_, hz, fun v q => nomatch q⟩
    · exact ⟨_, hTI, fun v q => nomatch q⟩
    · exact ⟨_, hTO, fun v q => nomatch q⟩
    · exact ⟨o1, e1, fun v q => by rw [d1] at q; cases q⟩
    · exact ⟨o2, e2, fun v q => by rw [d2] at q; cases q⟩
  keep := fun i h h' st k => by
    obtain ⟨le, hz, hTI, ⟨a, b, hTO⟩, ⟨o1, e1, r1⟩, ⟨o2, e2, r2⟩⟩ := st
    exact ⟨le, k z (by simp) _ hz, k TI (by simp) _ hTI, ⟨a, b, k TO (by simp) _ hTO⟩, ⟨o1, k i1 (by simp) _ e1, r1⟩, ⟨o2, k i2 (by simp) _ e2, r2⟩⟩
  item := by
    intro X hP hw hK hc i pins s σ H E I hf st hg
    subst hP hw hK
    obtain ⟨le, hz, hTI, ⟨a, b, hTO⟩, h1, h2⟩ := st
    have hd : X.A.in1.handled = none := I.ok.hd hc
    have hzl : z < s.heap.objs.size := Heap.lt_size hz
    refine wpAny_pyNext_zipD2_item D (Draws.strAscii hd i1 x t) (Draws.strAscii hd i2 y u) hz hTI hTO h1 h2 hg.1 hg.2 fun x1 x2 h' tk y1 y2 z' TO' h1' h2' hT hsz hk => ?_
    obtain ⟨c, tc, ec, rfl⟩ := y1
    obtain ⟨d, td, ed, rfl⟩ := y2
    refine ⟨_, rfl, wpAny_letOwnedTupleGo_zip (s := { s with heap := h', toks := tk }) z' fun h'' z'' sb => ?_⟩
    have hT2 : h''.get? s.heap.objs.size = some { cls := .type "tuple", data := .seq #[.str ⟨#[c]⟩ tc, .str ⟨#[d]⟩ td] } := (sb.2 _ (Nat.ne_of_gt hzl)).trans hT
    have new : ObjOk X.prog X.w (upd H s.heap.objs.size (.tup [.str ⟨#[c]⟩, .str ⟨#[d]⟩])) h'' s.heap.objs.size (.tup [.str ⟨#[c]⟩, .str ⟨#[d]⟩]) :=
      ⟨by show 2 ≤ sizeLine; decide, [_, _], .cons ⟨_, rfl⟩ (.cons ⟨_, rfl⟩ .nil), ⟨_, hT2, rfl, _, rfl⟩⟩
    have stay : ∀ b o, b ∉ [z, TI, TO, i1, i2] → s.heap.get? b = some o → h''.get? b = some o := fun b o hb q => by
      have ne : b ≠ z ∧ b ≠ TI ∧ b ≠ TO ∧ b ≠ i1 ∧ b ≠ i2 := by simpa using hb
      exact (sb.2 b ne.1).trans (hk b o ne.1 ne.2.2.1 ne.2.2.2.1 ne.2.2.2.2 q)
    have I1 := I.turnedNew (t' := tk) (ch := [z, TI, TO, i1, i2]) stay hf (Nat.le_refl _) new
    have lts : ∀ b ∈ [z, TI, TO, i1, i2], b < s.heap.objs.size := fun b hb => by
      have cs : b = z ∨ b = TI ∨ b = TO ∨ b = i1 ∨ b = i2 := by simpa using hb
      obtain ⟨_, e1, _⟩ := h1
      obtain ⟨_, e2, _⟩ := h2
      rcases cs with rfl | rfl | rfl | rfl | rfl
      · exact hzl
      · exact Heap.lt_size hTI
      · exact Heap.lt_size hTO
      · exact Heap.lt_size e1
      · exact Heap.lt_size e2
    refine ⟨.ref s.heap.objs.size, _, I1, rfl, ⟨_, c, d, rfl, I.hok.fresh (Nat.le_refl _), rfl, ec, ed⟩, ⟨by have := hg.1; have := hg.2; omega, z'', (sb.2 _ D.TIz).trans (hk _ _ D.TIz D.TITO D.TIi1 D.TIi2 hTI), ⟨_, _, (sb.2 _ D.TOz).trans TO'⟩, ?_, ?_⟩, fun b hb => ?_⟩
    · obtain ⟨o, e, r⟩ := h1'
      exact ⟨o, (sb.2 _ D.zi1.symm).trans e, r⟩
    · obtain ⟨o, e, r⟩ := h2'
      exact ⟨o, (sb.2 _ D.zi2.symm).trans e, r⟩
    · rw [upd_ne (Nat.ne_of_lt (lts b hb))]
      exact (hf b hb).1
  done := by
    intro X hP hw hK hc i pins s σ H E I hf st hg
    subst hP hw hK
    obtain ⟨le, hz, hTI, ⟨a, b, hTO⟩, h1, h2⟩ := st
    have hd : X.A.in1.handled = none := I.ok.hd hc
    have hg : i = min x.cps.size y.cps.size := hg
    refine wpAny_pyNext_zipD2_end D (Draws.strAscii hd i1 x t) (Draws.strAscii hd i2 y u) hz hTI hTO h1 h2 (by omega) (by omega) (by omega) fun h' tk hk => ⟨rfl, I.turnedL (t' := tk) (ch := [z, TI, TO, i1, i2]) (fun b o hb q => ?_) hf⟩
    have ne : b ≠ z ∧ b ≠ TI ∧ b ≠ TO ∧ b ≠ i1 ∧ b ≠ i2 := by simpa using hb
    exact hk b o ne.1 ne.2.2.1 ne.2.2.2.1 ne.2.2.2.2 q
  self := fun A i s Q E st h => wpAny_pyIter_zip st.2.1 h
def iZs (ta : TA) : TI := fun σ H R => ta σ H fun vs H1 => ∃ x y, vs = [.str x, .str y] ∧ asc x = true ∧ asc y = true ∧ R (Itzs x y) H1
theorem zs_sep (n : Nat) : ZipSep2 (n + 4) (n + 2) (n + 3) n (n + 1) [n] [n + 1] := by
  refine ⟨?_, ?_, ?_, ?_, ?_, ?_, ?_, ?_, ?_, ?_, ?_, ?_, ?_⟩ <;> first | (show (_ : Nat) ≠ _; omega) | simp | (simp; omega)
theorem pi_zs {X : Cx} {e e2 : Expr} {ta : TA} {p pos tpos : Pos} {elts : List Expr} {kk : Nat} (hg : Gl X "zip") (hm : X.mg "zip" = none) (ha : PA X [e, e2] ta)
    (hs : starEach [e, e2] X.env = (false, eval e X.env) :: starEach [e2] X.env) (hpl : (backTo pos (starEach [e2] X.env)).any (·.1) = false) :
    PI X (.Tuple elts kk tpos) (.Call (.Name "zip" p) [e, e2] [] pos) (iZs ta) := by
  refine ⟨fun pins s σ H R I h => ?_⟩
  refine Call_ (ld_blt I hg hm PyProof.Rows.boot_zip (PyProof.Rows.callWith_type1 (thn (ha.run pos pins s σ H _ I h) fun us s1 ⟨vs, H1, I1, r1, q1⟩ => ?_) hs hpl))
  obtain ⟨x, y, rfl, ax, ay, q⟩ := q1
  cases r1 with
  | cons r rr =>
    cases rr with
    | cons r' rr =>
      cases rr
      obtain ⟨t, rfl⟩ := r
      obtain ⟨u, rfl⟩ := r'
      refine call_zs ax ay fun h' hz hTI hTO h1 h2 hsz hk => wpAny_pyIter_zip hz ?_
      have I2 : Inv X pins σ H1 { s1 with heap := h' } := I1.kept (t' := s1.toks) hk
      refine ⟨s1.heap.objs.size + 4, [s1.heap.objs.size + 4, s1.heap.objs.size + 2, s1.heap.objs.size + 3, s1.heap.objs.size, s1.heap.objs.size + 1], _, _, H1, rfl, I2, turn_zs (zs_sep _), ⟨Nat.zero_le _, hz, hTI, ⟨_, _, hTO⟩, h1, h2⟩, fun c hc => ?_, q⟩
      have hle : s1.heap.objs.size ≤ c := by
        have cs : c = s1.heap.objs.size + 4 ∨ c = s1.heap.objs.size + 2 ∨ c = s1.heap.objs.size + 3 ∨ c = s1.heap.objs.size ∨ c = s1.heap.objs.size + 1 := by simpa using hc
        rcases cs with rfl | rfl | rfl | rfl | rfl <;> first | exact Nat.le_refl _ | exact Nat.le_add_right _ _
      exact I1.fpOk hle (I1.hok.fresh hle)
/-! over slots -/
section
variable {X : Cx} {pos p : Pos} {tg e a b : Expr} {ta tb : VT} {σ : L2.St} {S H : Hp} {ρ : R} {K : PySem.W.Frag}
def zipSD (x y : Str) : List (List D) := (x.cps.toList.zip y.cps.toList).map fun p => [PyData.str ⟨#[p.1]⟩, PyData.str ⟨#[p.2]⟩]
theorem serves_zs {x y : Str} : Serves K true (Itzs x y) [] (zipSD x y) := by
  intro S H _
  have hl : (zipSD x y).length = min x.cps.size y.cps.size := by simp [zipSD]
  refine ⟨hl, fun i it hx => ?_⟩
  unfold zipSD at hx
  rw [List.getElem?_map] at hx
  cases hz : (x.cps.toList.zip y.cps.toList)[i]? with
  | none => rw [hz] at hx; cases hx
  | some pr =>
    rw [hz] at hx
    cases hx
    obtain ⟨g1, g2⟩ := List.getElem?_zip_eq_some.mp hz
    have e1 : x.cps[i]? = some pr.1 := by rw [← Array.getElem?_toList]; exact g1
    have e2 : y.cps[i]? = some pr.2 := by rw [← Array.getElem?_toList]; exact g2
    refine ⟨⟨(Array.getElem?_eq_some_iff.mp e1).1, (Array.getElem?_eq_some_iff.mp e2).1⟩, fun v H' yy => ?_⟩
    obtain ⟨T, c, d, rfl, hT, rfl, f1, f2⟩ := yy
    rw [e1] at f1
    rw [e2] at f2
    cases f1
    cases f2
    exact .two hT (.cons (.str _) (.cons (.str _) .nil))
def tZipS (ta tb : VT) : VI := fun ρ Q => ta ρ fun u ρ1 => tb ρ1 fun w ρ2 => match deref ρ2 u, deref ρ2 w with
  | some (.str x), some (.str y) => asc x = true ∧ asc y = true ∧ Q (zipSD x y) [] ρ2
  | _, _ => False
theorem ji_zipS {elts : List Expr} {kk : Nat} {tpos : Pos} (hg : Gl X "zip") (hm : X.mg "zip" = none) (ha : JT X a ta) (hb : JT X b tb) (hs : notStar a = true) (hs2 : notStar b = true) : JI X true (.Tuple elts kk tpos) (.Call (.Name "zip" p) [a, b] [] pos) (tZipS ta tb) := by
  intro σ S H ρ Q hR ht
  refine WIt.of (pi_zs hg hm (pa_cons peW (pa_cons peW pa_nil (star_cons hs2)) (star_cons hs)) (star_cons hs) (star_none (by simp [hs2]))) (two hR ha hb ht fun v w H2 S2 ρ2 u z R2 E d1 d2 q => ?_)
  split at q
  · rename_i x y e1 e2
    exact ⟨x, y, by rw [d1.str e1, d2.str e2], q.1, q.2.1, S2, ρ2, _, _, [], R2, E, serves_zs, fun p hp => absurd hp (by simp), q.2.2⟩
  · exact q.elim
/-! list(range(n)) -/
def tLsR (ta : VT) : VE := fun ρ Q => ta ρ fun u ρ1 => match deref ρ1 u with
  | some (.int n) => -(2 ^ 62) ≤ n ∧ n < 2 ^ 24 ∧ Q (.list ((List.range n.toNat).map fun i : Nat => PyData.int (i : Nat))) ρ1
  | _ => False
theorem jn_lsR {p2 pos2 : Pos} (hc : X.calm = true) (hg : Gl X "list") (hm : X.mg "list" = none) (hg2 : Gl X "range") (hm2 : X.mg "range" = none) (ha : JT X a ta) (hs : notStar a = true) : JN X (.Call (.Name "list" p) [.Call (.Name "range" p2) [a] [] pos2] [] pos) (tLsR ta) := by
  intro σ S H ρ Q hR ht
  refine W.of (pe_listRg hc hg hm (prg_1 hg2 hm2 peW (star_cons hs)) (star_cons rfl)) ((ha σ S H ρ _ hR ht).mono fun v H1 q => ?_)
  obtain ⟨S1, ρ1, u, R1, E1, d1, q1⟩ := q
  split at q1
  · rename_i n e1
    obtain ⟨h1, h2, q1⟩ := q1
    refine ⟨n, d1.int e1, ⟨by decide, by decide, h1, by omega, by omega⟩, fun c hcn => ?_⟩
    have er : RpAll S1 (rgV 0 n) ((List.range n.toNat).map fun i : Nat => PyData.int (i : Nat)) := by
      have := rps_of_ints (S := S1) ((List.range n.toNat).map fun i : Nat => (i : Int))
      unfold rgV
      rw [List.map_map, List.map_map] at this
      simp only [Int.sub_zero, Int.zero_add]
      exact this
    exact ⟨S1, ρ1, c, _, _, R1.new0 hcn, E1.trans (.new0 R1 hcn), rfl, E_none E1 hcn, R1.sub.free hcn, upd_same, er, q1⟩
  · exact q1.elim
end
end WA

/-! WA16: a dict that a def fills and hands out as the list of its keys. -/
namespace WA
open PySem PySem.Spec PyProof.Rows L2
def kvT (ks : List Str) : List (Key × V) := ks.map fun k => (Sum.inr k, V.bl true)
def putS (ks : List Str) (k : Str) : List Str := if k ∈ ks then ks else ks ++ [k]
theorem putK_kvT (ks : List Str) (k : Str) : putK (kvT ks) (Sum.inr k) (V.bl true) = kvT (putS ks k) := by
  have hm : (kvT ks).any (fun kv => decide (kv.1 = Sum.inr k)) = decide (k ∈ ks) := by
    unfold kvT
    rw [List.any_map]
    induction ks with
    | nil => rfl
    | cons a ks ih =>
      rw [List.any_cons, ih]
      by_cases h : a = k
      · subst h; simp
      · have h2 : ¬ k = a := fun z => h z.symm
        simp [h, h2]
  unfold putK putS
  rw [hm]
  by_cases h : k ∈ ks
  · rw [if_pos h, decide_eq_true h, if_pos rfl]
    unfold kvT
    rw [List.map_map]
    refine List.map_congr_left fun a _ => ?_
    show (if (Sum.inr a : Key) = Sum.inr k then ((Sum.inr a : Key), V.bl true) else (Sum.inr a, V.bl true)) = _
    split <;> rfl
  · rw [if_neg h, decide_eq_false h, if_neg (by decide)]
    unfold kvT
    rw [List.map_append]
    rfl
structure Dk (D : Addr) (m : Nat) (S H : Hp) (σ : L2.St) (ρ : R) (ks : List Str) : Prop where
  no : ρ[m]? = some .no
  pt : σ[m]? = some (some (.ref D))
  s : S D = none
  h : H D = some (.dK (kvT ks))
/-- what is left of what stood, but for the dict at D -/
structure XD (D : Addr) (F : List Nat) (σ : L2.St) (S H : Hp) (ρ : R) (σ' : L2.St) (S' H' : Hp) (ρ' : R) : Prop where
  same : Same S S'
  there : ∀ b, H b ≠ none → H' b ≠ none
  stay : ∀ b, H b ≠ none → S b = none → ¬ OwnAt σ ρ b → S' b = none
  keep : ∀ b o, b ≠ D → H b = some o → S b = none → ¬ OwnAt σ ρ b → H' b = some o
  own : ∀ b, OwnAt σ' ρ' b → OwnAt σ ρ b ∨ H b = none
  fix : ∀ i ∈ F, σ'[i]? = σ[i]?
  kind : ∀ i ∈ F, (∃ xs, ρ[i]? = some (.own xs)) → ∃ xs, ρ'[i]? = some (.own xs)
section
variable {X : Cx} {D : Addr} {m : Nat} {F : List Nat} {σ σ1 σ2 : L2.St} {S H S1 H1 S2 H2 : Hp} {ρ ρ1 ρ2 : R} {K : PySem.W.Frag} {B : Nat} {ks : List Str} {pos : Pos} {e : Expr}
theorem XS.xd (E : XS F σ S H ρ σ1 S1 H1 ρ1) : XD D F σ S H ρ σ1 S1 H1 ρ1 := ⟨E.same, E.there, E.stay, fun b o _ => E.keep b o, E.own, E.fix, E.kind⟩
theorem XD.refl : XD D F σ S H ρ σ S H ρ := XS.refl.xd
theorem XD.trans (a : XD D F σ S H ρ σ1 S1 H1 ρ1) (b : XD D F σ1 S1 H1 ρ1 σ2 S2 H2 ρ2) : XD D F σ S H ρ σ2 S2 H2 ρ2 := by
  have no : ∀ {c : Addr}, H c ≠ none → ¬ OwnAt σ ρ c → ¬ OwnAt σ1 ρ1 c := fun {c} h n z => by
    rcases a.own c z with q | q
    · exact n q
    · exact h q
  refine ⟨a.same.trans b.same, fun c h => b.there c (a.there c h), fun c h h' n => b.stay c (a.there c h) (a.stay c h h' n) (no h n), fun c o hd h h' n => ?_, fun c h => ?_, fun i hi => (b.fix i hi).trans (a.fix i hi), fun i hi h => b.kind i hi (a.kind i hi h)⟩
  · have hc : H c ≠ none := by rw [h]; simp
    exact b.keep c o hd (a.keep c o hd h h' n) (a.stay c hc h' n) (no hc n)
  · rcases b.own c h with q | q
    · exact a.own c q
    · refine .inr ?_
      cases e : H c with
      | none => rfl
      | some o => exact absurd q (a.there c (by rw [e]; simp))
theorem XD.weak {F' : List Nat} (a : XD D F' σ S H ρ σ1 S1 H1 ρ1) (h : ∀ i ∈ F, i ∈ F') : XD D F σ S H ρ σ1 S1 H1 ρ1 := ⟨a.same, a.there, a.stay, a.keep, a.own, fun i hi => a.fix i (h i hi), fun i hi => a.kind i (h i hi)⟩
theorem XD.xs (a : XD D F σ S H ρ σ1 S1 H1 ρ1) (h0 : H D = none) : XS F σ S H ρ σ1 S1 H1 ρ1 := ⟨a.same, a.there, a.stay, fun b o hb => a.keep b o (fun z => by rw [z, h0] at hb; cases hb) hb, a.own, a.fix, a.kind⟩
theorem Dk.nown (R : Rel K B S H σ ρ) (d : Dk D m S H σ ρ ks) : ¬ OwnAt σ ρ D := fun z => by
  obtain ⟨_, vs, h, q⟩ := R.own_at z
  rw [d.h] at h
  cases h
  cases q
theorem Dk.ext (R : Rel K B S H σ ρ) (d : Dk D m S H σ ρ ks) (E : Ext σ S H ρ S1 H1 ρ1) : Dk D m S1 H1 σ ρ1 ks :=
  ⟨by rw [E.oth m fun xs z => by rw [d.no] at z; cases z]; exact d.no, d.pt, E.stay D (by rw [d.h]; simp) d.s, E.keep D _ d.h d.s (d.nown R)⟩
theorem Rel.updD (h : Rel K B S H σ ρ) (d : Dk D m S H σ ρ ks) (o : HO) : Rel K B S (upd H D o) σ ρ where
  len := h.len
  sub := fun b x e => by
    rw [upd_ne fun z => by rw [z, d.s] at e; cases e]
    exact h.sub b x e
  val := h.val
  own := fun i xs e => by
    obtain ⟨a, vs, h1, h2, h3, h4⟩ := h.own i xs e
    refine ⟨a, vs, h1, h2, ?_, h4⟩
    rw [upd_ne fun z => by rw [z, d.h] at h3; cases h3]
    exact h3
  ro := fun i k xs e => by
    obtain ⟨a, vs, h1, h2, h3⟩ := h.ro i k xs e
    refine ⟨a, vs, h1, ?_, h3⟩
    rcases h2 with h2 | ⟨⟨o', q, h2⟩, n⟩
    · exact .inl h2
    · refine .inr ⟨⟨o', q, ?_⟩, n⟩
      rw [upd_ne fun z => ?_]
      · exact h2
      · rw [z, d.h] at h2
        cases h2
        rcases q with q | ⟨_, ob, q⟩ <;> cases q
  sep := h.sep
  vir := h.vir.to (fun _ _ q _ => ⟨q, rfl⟩) (fun _ _ => rfl) (fun i k is a u q1 q2 q3 q4 => ⟨q3, by rw [upd_ne (fun z => d.nown h ⟨i, _, ⟨q1, rfl⟩, by rw [← z]; exact q2⟩)]; exact q4⟩) (fun e c q1 q2 n => ⟨q2, by rw [upd_ne (fun z => by rw [z, d.h] at q1; cases q1)]; exact q1, n⟩)
theorem Dk.upd (d : Dk D m S H σ ρ ks) (ks' : List Str) : Dk D m S (upd H D (.dK (kvT ks'))) σ ρ ks' := ⟨d.no, d.pt, d.s, upd_same⟩
theorem xd_upd (o : HO) : XD D F σ S H ρ σ S (upd H D o) ρ := ⟨Same.refl _, fun b hb => by
    by_cases z : b = D
    · rw [z, upd_same]; simp
    · rw [upd_ne z]; exact hb, fun _ _ h _ => h, fun b o' hb h _ _ => by rw [upd_ne hb]; exact h, fun _ h => .inl h, fun _ _ => rfl, fun _ _ h => h⟩
abbrev VD := R → List Str → (R → List Str → Prop) → Prop
def endsD (X : Cx) (D : Addr) (m : Nat) (F : List Nat) (σ : L2.St) (S H : Hp) (ρ : R) (Q : R → List Str → Prop) : Ends where
  nx := fun σ' H' => ∃ S' ρ' ks', Rel X.K (bd X) S' H' σ' ρ' ∧ XD D F σ S H ρ σ' S' H' ρ' ∧ Dk D m S' H' σ' ρ' ks' ∧ Q ρ' ks'
  rt := fun _ _ => False
def JD (X : Cx) (m : Nat) (F : List Nat) (st : Stmt) (t : VD) : Prop := ∀ D σ S H ρ ks Q, Rel X.K (bd X) S H σ ρ → Dk D m S H σ ρ ks → t ρ ks Q → WS X st (endsD X D m F σ S H ρ Q) σ H
/-- d[e] = True -/
def tDPut (te : VT) : VD := fun ρ ks Q => te ρ fun u ρ1 => match u with
  | .val (.str k) => ks.length < sizeLine ∧ Q ρ1 (putS ks k)
  | _ => False
theorem jd_put {x : Str} {px pos' pt : Pos} {jt : Nat} {te : VT} (hu : X.A.units + 64 < cLine) (hn : Nm X m x) (he : JT X e te) (hs : swapsWith (.Constant (.bool true) jt pt) (some (.Subscript (.Name x px) e pos')) pos.line X.env = pure false) :
    JD X m F (.Assign [.Subscript (.Name x px) e pos'] (.Constant (.bool true) jt pt) pos) (tDPut te) := by
  intro D σ S H ρ ks Q hR d ht
  refine WS.of (ps_dput (by omega) hn.pe peW pe_bl hs) ?_
  refine ⟨_, d.pt, (he σ S H ρ _ hR ht).mono fun y H3 q => ?_⟩
  obtain ⟨S3, ρ3, u, R3, E3, d3, q⟩ := q
  have dk := d.ext hR E3
  split at q
  · rename_i k
    have hy : y = .str k := by
      have d3 : Rp S3 y (.str k) := d3
      cases d3
      rfl
    subst hy
    refine ⟨D, _, rfl, DPut.k (k := Sum.inr k) dk.h (by unfold kvT; rw [List.length_map]; exact q.1), ?_⟩
    rw [putK_kvT]
    exact ⟨S3, ρ3, _, R3.updD dk _, E3.xs.xd.trans (xd_upd _), dk.upd _, q.2⟩
  · exact q.elim
/-- for -/
def dLoop (tg : Tg) (gs : List (Nat × List WA.D)) (body : VD) : List (List WA.D) → R → List Str → (R → List Str → Prop) → Prop
  | [], ρ, ks, Q => guardR gs ρ ∧ Q ρ ks
  | x :: xs, ρ, ks, Q => guardR gs ρ ∧ match putT ρ tg x with
    | some ρ1 => body ρ1 ks fun ρ2 ks2 => dLoop tg gs body xs ρ2 ks2 Q
    | none => False
def tDFor (m : Nat) (F' : List Nat) (tg : Tg) (ti : VI) (body : VD) : VD := fun ρ ks Q => ti ρ fun its gs ρ1 => (((gs.all fun p => F'.contains p.1) && (tg.ix.all fun i => !F'.contains i)) = true ∧ tg.ix.contains m = false) ∧ dLoop tg gs body its ρ1 ks Q
theorem jd_for {F' : List Nat} {tgE iter : Expr} {st : Stmt} {tg : Tg} {ti : VI} {tb : VD} (hB : (tg.ix.all fun i => decide (i < bd X)) = true) (hp : PassesOwn (model X.prog X.w) X.A X.env X.xe) (hc : X.calm = true) (hi : JI X tg.pair tgE iter ti) (hg : PG X tgE (gT X.K tg)) (hb : JD X m F' st tb) (hF : ∀ i ∈ F, i ∈ F')
    (hs : ∀ x, foldedSetIterable iter X.env x = pure x) : JD X m F (.For tgE iter [st] [] pos) (tDFor m F' tg ti tb) := by
  intro D σ S H ρ ks Q hR d ht
  refine WS.of (ps_for hp hc piW hg pssW hs) ((hi σ S H ρ _ hR ht).mono fun J H1 q => ?_)
  obtain ⟨S1, ρ1, its, gs, as, R1, E1, Sv, L, ⟨hgs, hm⟩, hl⟩ := q
  rw [Bool.and_eq_true] at hgs
  obtain ⟨hgs, htg⟩ := hgs
  have d1 := d.ext hR E1
  have hgs' : ∀ p ∈ gs, p.1 ∈ F' := fun p hp => List.contains_iff_mem.mp (List.all_eq_true.mp hgs p hp)
  have htg' : ∀ i ∈ tg.ix, i ∉ F' := fun i hi => by
    have z := List.all_eq_true.mp htg i hi
    intro hm
    rw [List.contains_iff_mem.mpr hm] at z
    cases z
  have hmx : m ∉ tg.ix := fun z => by
    rw [List.contains_iff_mem.mpr z] at hm
    cases hm
  refine ⟨fun i n σc Hc => n = its.length - i ∧ i ≤ its.length ∧ ∃ S' ρ' ks', Rel X.K (bd X) S' Hc σc ρ' ∧ XD D F' σ S1 H1 ρ1 σc S' Hc ρ' ∧ Dk D m S' Hc σc ρ' ks' ∧ dLoop tg gs tb (its.drop i) ρ' ks' Q,
    ⟨its.length, by simp, Nat.zero_le _, S1, ρ1, ks, R1, .refl, d1, hl⟩, ?_⟩
  rintro i n σc Hc ⟨rfl, hle, S', ρ', ks', R', E', d', hl⟩
  by_cases hlt : i < its.length
  · rw [List.drop_eq_getElem_cons hlt] at hl
    obtain ⟨hg, hl⟩ := hl
    obtain ⟨_, hsv⟩ := Sv S' Hc (linked_now L R' E'.same hg fun p hp => E'.fix _ (hgs' p hp))
    obtain ⟨hgo, hy⟩ := hsv i its[i] (List.getElem?_eq_getElem hlt)
    refine .inr ⟨hgo, fun σn Hn => ∃ S' ρ' ks', Rel X.K (bd X) S' Hn σn ρ' ∧ XD D F' σ S1 H1 ρ1 σn S' Hn ρ' ∧ Dk D m S' Hn σn ρ' ks' ∧ dLoop tg gs tb (its.drop (i + 1)) ρ' ks' Q, fun σn Hn hn => ⟨its.length - (i + 1), by omega, rfl, hlt, hn⟩, fun x H' y => ?_⟩
    split at hl
    · rename_i ρp hput
      have it := hy x H' y
      refine xs_put (F := m :: F') (fun i hi => of_decide_eq_true (List.all_eq_true.mp hB i hi)) (fun i hi hm' => ?_) R' it hput fun σ2 R2 E2 => ?_
      · rcases List.mem_cons.mp hm' with z | z
        · exact hmx (z ▸ hi)
        · exact htg' i hi z
      have E2' : XS F' σc S' Hc ρ' σ2 S' H' ρp := E2.weak fun i hi => List.mem_cons_of_mem _ hi
      have d2 : Dk D m S' H' σ2 ρp ks' := ⟨by rw [(putT_out hput).2.1 m hmx]; exact d'.no, by rw [E2.fix m List.mem_cons_self]; exact d'.pt, d'.s, E2.keep D _ d'.h d'.s (d'.nown R')⟩
      refine WSs.of (pss_cons psW pss_nil) ((hb D σ2 S' H' ρp ks' _ R2 d2 hl).mono (fun σ3 H3 q => ?_) (fun v H3 q => q.elim) (fun _ _ q => q.elim) (fun _ _ q => q.elim))
      obtain ⟨S3, ρ3, ks3, R3, E3, d3, q⟩ := q
      exact ⟨S3, ρ3, ks3, R3, (E'.trans E2'.xd).trans E3, d3, q⟩
    · exact hl.elim
  · have e : i = its.length := by omega
    subst e
    rw [List.drop_length] at hl
    obtain ⟨hg, hl⟩ := hl
    obtain ⟨hst, _⟩ := Sv S' Hc (linked_now L R' E'.same hg fun p hp => E'.fix _ (hgs' p hp))
    exact .inl ⟨hst, S', ρ', ks', R', E1.xs.xd.trans (E'.weak hF), d', hl⟩
/-- d = {}; st; return list(d) -/
def tDict (m : Nat) (tb : VD) : VS := fun ρ _ Qr => ρ[m]? = some .no ∧ tb ρ [] fun ρ1 ks => Qr (.list (ks.map PyData.str)) ρ1
theorem Rel.newD (h : Rel K B S H σ ρ) (hmB : m < B) (hm : ρ[m]? = some .no) (hD : H D = none) : Rel K B S (upd H D (.dK (kvT []))) (σ.set m (some (.ref D))) ρ := by
  have ne : ∀ {i : Nat} {s : Sl}, ρ[i]? = some s → s ≠ .no → m ≠ i := fun {i s} h1 h2 z => by
    subst z
    rw [hm] at h1
    cases h1
    exact h2 rfl
  have r := h.new0 (o := .dK (kvT [])) hD
  have oa : ∀ {b : Addr}, OwnAt (σ.set m (some (.ref D))) ρ b → OwnAt σ ρ b := fun {b} ⟨i, sl, h1, h2⟩ => ⟨i, sl, h1, by rw [List.getElem?_set_ne (ne h1.1 (fun z => by have := h1.2; rw [z] at this; cases this))] at h2; exact h2⟩
  refine ⟨by rw [List.length_set]; exact r.len, r.sub, fun i x e => ?_, fun i xs e => ?_, fun i k xs e => ?_, fun i j s t a h1 h2 h3 h4 => ?_, ?_⟩
  · obtain ⟨w, h1, h2⟩ := r.val i x e
    exact ⟨w, by rw [List.getElem?_set_ne (ne e (fun z => by cases z))]; exact h1, h2⟩
  · obtain ⟨a, vs, h1, h2⟩ := r.own i xs e
    exact ⟨a, vs, by rw [List.getElem?_set_ne (ne e (fun z => by cases z))]; exact h1, h2⟩
  · obtain ⟨a, vs, h1, h2, h3⟩ := r.ro i k xs e
    exact ⟨a, vs, by rw [List.getElem?_set_ne (ne e (fun z => by cases z))]; exact h1, h2.to (fun o ho _ => ho) (fun _ z => oa z), h3⟩
  · rw [List.getElem?_set_ne (ne h1.1 (fun z => by have := h1.2; rw [z] at this; cases this))] at h3
    rw [List.getElem?_set_ne (ne h2.1 (fun z => by have := h2.2; rw [z] at this; cases this))] at h4
    exact r.sep i j s t a h1 h2 h3 h4
  · exact r.vir.to (fun j s q l => ⟨q, List.getElem?_set_ne (ne q (fun z => by rw [z] at l; cases l))⟩) (fun m' hm' => List.getElem?_set_ne (by omega)) (fun _ _ _ _ _ _ _ q1 q2 => ⟨q1, q2⟩) (fun d c q1 q2 n => ⟨q2, q1, fun z => n (oa z)⟩)
theorem jss_dict {x : Str} {px pd pa p1 pl pc pr : Pos} {st : Stmt} {tb : VD} (nd : X.N.Nodup) (hc : X.calm = true) (hx : Sn X m x) (hn : Nm X m x) (hF : m ∉ F) (hg : Gl X "list") (hm : X.mg "list" = none) (hs : swapsWith (.Dict [] [] pd) (some (.Name x px)) pa.line X.env = pure false)
    (hb : JD X m F st tb) : JSs X true F [.Assign [.Name x px] (.Dict [] [] pd) pa, st, .Return (some (.Call (.Name "list" pl) [.Name x p1] [] pc)) pr] (tDict m tb) := by
  intro σ S H ρ Qn Qr hR ⟨h0, ht⟩
  refine WSs.of (pss_cons (ps_set nd hx.n hx.l pe_dnewK hs hx.f) (pss_cons psW (pss_cons (ps_ret (pe_callTy (T := "list") clW hg hm (by decide +kernel) (pa_cons hn.pe pa_nil (star_cons rfl)) (by decide) (by decide) (star_cons rfl) rfl)) pss_nil))) ?_
  intro D hD
  have R1 := hR.newD hx.b h0 hD
  have hlen : m < σ.length := by
    rw [hR.len]
    exact (List.getElem?_eq_some_iff.mp h0).1
  have hSD : S D = none := by
    cases e : S D with
    | none => rfl
    | some o =>
      rw [hR.sub _ _ e] at hD
      cases hD
  have d1 : Dk D m S (upd H D (.dK (kvT []))) (σ.set m (some (.ref D))) ρ [] := ⟨h0, List.getElem?_set_self hlen, hSD, upd_same⟩
  have E1 : XS F σ S H ρ (σ.set m (some (.ref D))) S (upd H D (.dK (kvT []))) ρ := by
    have a : XS F σ S H ρ σ S (upd H D (.dK (kvT []))) ρ := (Ext.new0 hR hD).xs
    have b := xs_set (σ := σ) (S := S) (H := upd H D (.dK (kvT []))) (ρ := ρ) (v := some (.ref D)) (s := .no) hF rfl
    have e : ρ.set m .no = ρ := by
      refine List.ext_getElem? fun i => ?_
      by_cases z : m = i
      · subst z
        rw [List.getElem?_set_self (List.getElem?_eq_some_iff.mp h0).1, h0]
      · rw [List.getElem?_set_ne z]
    rw [e] at b
    exact a.trans b
  refine (hb D _ S _ ρ [] _ R1 d1 ht).mono (fun σ2 H2 q => ?_) (fun v H3 q => q.elim) (fun _ _ q => q.elim) (fun _ _ q => q.elim)
  obtain ⟨S2, ρ2, ks, R2, E2, d2, q⟩ := q
  refine ⟨_, d2.pt, ?_⟩
  refine WCl.of (call_listD hc) ⟨D, kvT ks, rfl, .inl d2.h, fun n hn' => ?_⟩
  have eks : (kvT ks).map (fun kv => kV kv.1) = ks.map V.str := by
    unfold kvT
    rw [List.map_map]
    rfl
  rw [eks]
  have R3 := R2.new0 (o := .lst (ks.map V.str)) hn'
  have E3 : XD D F (σ.set m (some (.ref D))) S (upd H D (.dK (kvT []))) ρ σ2 S2 (upd H2 n (.lst (ks.map V.str))) ρ2 := E2.trans (Ext.new0 R2 hn').xs.xd
  have E4 : XD D F σ S H ρ σ2 S2 (upd H2 n (.lst (ks.map V.str))) ρ2 := E1.xd.trans E3
  refine ⟨σ2, S2, ρ2, .list (ks.map PyData.str), R3, E4.xs hD, .lst (R2.sub.free hn') upd_same (rps_of_strs ks) (.inr ?_), q⟩
  cases e : H n with
  | none => rfl
  | some o => exact absurd hn' (E2.there n (by
      by_cases z : n = D
      · rw [z, upd_same]; simp
      · rw [upd_ne z, e]; simp))
end
end WA

/-! WA17: defs that know that no text of a list is being made around them; str of data. -/
namespace WA
open PySem PySem.Spec PyProof.Rows L2
/-- as FnOk, where no guard stands around -/
structure FnG (P : Program) (w : World) (K : PySem.W.Frag) (mg : Str → Option Value) (base : Heap) (k : Nat) (f : Addr) (fd : FuncData) (ps : List Str) (sp : Sp) : Prop where
  len : ∀ zs Hp0 Qp Ep, sp zs Hp0 Qp Ep → zs.length = ps.length
  run : ∀ (A1 : Around) (fr : List Env) (s1 : Shared) (H1 : Hp) (ar : Args) (uz : List Value) (vz : List V) (Q1 : VK) (E1 : XK), Room k A1 → A1.guards = some [] → Env0 P w K mg base A1 fr s1 H1 → BindsTo s1 fd ar (ps.zip uz) → Vals vz uz →
    sp vz H1 Q1 E1 → codeAny (model P w) A1 (.call (.ref f) ar) (CR CX0 fr P w H1 s1 Q1 E1) s1
section
variable {P : Program} {w : World} {K : PySem.W.Frag} {mg : Str → Option Value} {base : Heap} {x qual : Str} {params : Arguments} {body : List Stmt} {scope : Scope} {f : Addr} {fd : FuncData}
theorem okG {N ps : List Str} {k : Nat} {sp : Sp} (F : FunD K x qual params body scope [] [] f fd) (Sc : FnScope N ps scope) (hl : ∀ zs Hp0 Qp Ep, sp zs Hp0 Qp Ep → zs.length = ps.length)
    (hb : ∀ (cdv : Value) (A1 : Around) (fr : List Env) (s1 : Shared) (H1 : Hp) (vz : List V) (Q1 : VK) (E1 : XK), Room k (A1.deeper (envOfC qual scope s1.heap.objs.size f cdv)) → A1.guards = some [] → sp vz H1 Q1 E1 →
      ∃ t, PSs (cxOf CX0 P w K mg base N qual scope f cdv A1 fr s1 H1 E1).nox body t ∧ t { nx := fun _ Hn => Q1 .non Hn, rt := Q1 } (start N vz) H1) : FnG P w K mg base (k + 1) f fd ps sp := by
  obtain ⟨c1, c2, c3, c4, c5, c6, c7, cdv, c8, c9, rfl, lk, hcd, _, _⟩ := F.ex
  refine ⟨hl, fun A1 fr s1 H1 ar uz vz Q1 E1 hr hg e0 hbd rv hsp => ?_⟩
  have kin := e0.mod.kin.keeps fun b o e => (e0.bs b o e).1
  have lim := e0.mod.nolimit.keeps fun b o e => (e0.bs b o e).1
  have hk : ((ps.zip uz).all fun y => scope.names.lookup y.1 == some .local || scope.names.lookup y.1 == some .cell) = true := by
    refine List.all_eq_true.mpr fun y hy => ?_
    obtain ⟨n, v⟩ := y
    rcases Sc.par n (List.of_mem_zip hy).1 with q | q
    · rw [q]; rfl
    · rw [q]; rfl
  refine Att.call_fn kin lim lk hcd hr.depth hbd hk (fun s2 xc => ?_) Sc.co Sc.gen Sc.kind
  obtain ⟨t, ht, hq⟩ := hb cdv A1 fr s1 H1 vz Q1 E1 (hr.deeper _) hg hsp
  have I : Inv (cxOf CX0 P w K mg base N qual scope f cdv A1 fr s1 H1 E1) [] (start N vz) H1 s2 := inv_start Sc hr.hd e0 (hl _ _ _ _ hsp) rv xc
  refine wpAny_mono ((PSs.nox ht).run [] s2 (start N vz) H1 _ I hq) (fun fl s3 hs => ?_) fun e s3 hs => hs
  cases fl with
  | ret u =>
    obtain ⟨v, σ3, H3, J, r3, q3⟩ := hs
    exact ⟨v, H3, J.os, J.bare, J.base, J.hok, r3, q3⟩
  | next =>
    obtain ⟨σ3, H3, J, q3⟩ := hs
    exact ⟨V.non, H3, J.os, J.bare, J.base, J.hok, rfl, q3⟩
  | brk => exact hs.elim fun _ ⟨_, _, z⟩ => z.elim
  | cont => exact hs.elim fun _ ⟨_, _, z⟩ => z.elim
end
/-! ### the call -/
section
variable {X : Cx} {k : Nat} {f : Addr} {fd : FuncData} {ps : List Str} {sp : Sp} {x : Str} {p pos : Pos} {e : Expr} {es : List Expr} {t : TA} {Ew : XK}
theorem pe_callG (F : FnG X.prog X.w X.K X.mg X.base k f fd ps sp) (hr : Room k X.A) (hgd : X.A.guards = some []) (hg : Gl X x) (hm : X.mg x = some (.ref f)) (hk : PySem.W.keepIn X.K (.ref f) = true) (hb : Binds X.K fd ps []) (ha : PA X (e :: es) t)
    (hdb : (x == ("__debug__" : Str)) = false) (he : starEach (e :: es) X.env = (false, eval e X.env) :: starEach es X.env) (hpl : (backTo pos (starEach es X.env)).any (·.1) = false) : PE X (.Call (.Name x p) (e :: es) [] pos) (tCall sp [] Ew t) := by
  constructor
  intro pins s0 σ H0 Q0 I0 h0
  refine wpAny_Call_Name_kw (ld_glob I0 hg hm (PySem.W.callWith_K (h₀ := X.base) I0.ok.mod.kin hk (thn (ha.run pos pins s0 σ H0 _ I0 h0) ?_) he hpl) hdb)
  rintro uz s1 ⟨vz, H1, I1, rv, q1⟩
  rw [List.append_nil] at q1
  have hl : uz.length = ps.length := by
    rw [← rv.length]
    exact F.len _ _ _ _ q1
  have hbt := hb s1 uz I1.kIn (by rw [List.append_nil]; exact hl)
  rw [List.append_nil] at hbt
  refine ⟨I1.kIn, wpAny_call (codeAny_mono (F.run X.A X.stack s1 H1 ⟨uz, []⟩ uz vz Q0 Ew hr hgd I1.env0 hbt rv q1) ?_)⟩
  intro res s2 hq
  cases res with
  | error ev => exact (show Passes CX0 X Ew from pass0) pins σ H1 s1 ev s2 I1 hq
  | ok fl =>
    cases fl with
    | ret u => exact I1.after hq
    | next => exact hq.elim
    | brk => exact hq.elim
    | cont => exact hq.elim
end
/-! ### the law -/
theorem lawG {P : Program} {w : World} {K : PySem.W.Frag} {mg mb : Str → Option Value} {k : Nat} {fa sc : Addr} {fd : FuncData} {x : Str} {sp : Sp} {s1 : Shared} {its : List Value} {ns : List Int}
    (kin : K.In s1.heap) (hns : s1.heap.Ns mainGlobals mg) (hbn : s1.heap.Ns builtinsNs mb) (hbb : ∀ y : Str, y ≠ "__name__" → mb y = bootBuiltins y) (lim : s1.heap.NoLimit) (hgen : s1.gens = #[])
    (hsc : s1.heap.get? sc = some { cls := .type "list", data := .seq its.toArray }) (hi : IntsAre its ns) (hz : ns.length ≤ sizeLine) (hr : Room k callerA)
    (F : ∀ base : Heap, K.In base → base.Ns mainGlobals mg → FnG P w K mg base k fa fd [x] sp) (hbd : ∀ (s : Shared) (u : Value), BindsTo s fd ⟨[u], []⟩ [(x, u)])
    (hsp : ∀ H : Hp, Only H → SqL K H sc (ns.map V.int) → sp [.ref sc] H (fun v _ => v = .bl true) fun _ _ _ => False) :
    codeAny (model P w) callerA (.call (.ref fa) ⟨[.ref sc], []⟩) (fun r s' => r = .ok (.ret (.bool true)) ∧ OldK s1.heap s'.heap ∧ s'.os = s1.os ∧ AllBare s'.gens) s1 := by
  have rv := vals_ints hi
  have hlen := hi.length
  have main : ∀ H : Hp, Only H → SqL K H sc (ns.map V.int) → HOk P w H s1.heap → (∀ b, H b ≠ none → b = sc) → (H sc ≠ none → K.lookup sc = none) →
      codeAny (model P w) callerA (.call (.ref fa) ⟨[.ref sc], []⟩) (fun r s' => r = .ok (.ret (.bool true)) ∧ OldK s1.heap s'.heap ∧ s'.os = s1.os ∧ AllBare s'.gens) s1 := by
    intro H only hsq hok one free
    have gone : ∀ {b : Addr}, (b = sc → False) → H b = none := fun {b} nb => by
      cases hq : H b with
      | none => rfl
      | some u => exact absurd (one b (by rw [hq]; exact fun z => by cases z)) nb
    have ns' : ∀ {b : Addr} {m : Str → Option Value}, s1.heap.Ns b m → (hidT s1.heap H).Ns b m := by
      rintro b m ⟨ob, es, ep, e1, e2, e3⟩
      refine ⟨ob, es, ep, hidT_get e1 (gone fun z => ?_), e2, e3⟩
      subst z
      rw [hsc] at e1
      cases e1
      cases e2
    have kin' : K.In (hidT s1.heap H) := by
      intro b ob hk
      refine hidT_get (kin b ob hk) ?_
      cases hq : H b with
      | none => rfl
      | some u =>
        have hb := one b (by rw [hq]; exact fun z => by cases z)
        subst hb
        rw [free (by rw [hq]; exact fun z => by cases z)] at hk
        cases hk
    obtain ⟨mc, l1, l2⟩ := lim
    have e0 : Env0 P w K mg (hidT s1.heap H) callerA [] s1 H :=
      ⟨rfl, ⟨kin', ns' hns, ⟨mb, ns' hbn, hbb⟩, ⟨mc, ns' l1, l2⟩⟩, fun b ob e => of_hidT e, Nat.le_of_eq (hidT_size _ _), trivial, fun b hb => absurd hb (by exact fun z => (List.not_mem_nil z).elim), hok, .of_eq hgen⟩
    have run := (F _ kin' (ns' hns)).run callerA [] s1 H ⟨[.ref sc], []⟩ [.ref sc] [.ref sc] _ _ hr rfl e0 (hbd s1 (.ref sc)) (.cons rfl .nil) (hsp H only hsq)
    refine codeAny_mono run ?_
    intro res s2 h
    cases res with
    | error ev => exact False.elim h
    | ok fl =>
      cases fl with
      | ret u =>
        obtain ⟨v, H2, o2, b2, un, hok2, r2, q2⟩ := h
        have q2 : v = .bl true := q2
        subst q2
        have r2 : u = Value.bool true := r2
        subst r2
        refine ⟨rfl, OldK.of_keep fun b ob e => ?_, o2, b2⟩
        rcases only b with z | ⟨fo, xs, z⟩
        · exact un.keep b ob e z (fun z => by cases z) (by simp)
        · have z2 := un.frzs b fo _ z
          have g1 := (hok b _ z).1
          have g2 := (hok2 b _ z2).1
          rw [e] at g1
          cases g1
          exact g2
      | next => exact h.elim
      | brk => exact h.elim
      | cont => exact h.elim
  by_cases hk : K.lookup sc = none
  · refine main (fun b => if b = sc then some (.frz { cls := .type "list", data := .seq its.toArray } (.lst (ns.map V.int))) else none) (fun b => ?_) (.inl (.inr ⟨_, if_pos rfl⟩)) (fun b u z => ?_) (fun b z => ?_) fun _ => hk
    · by_cases hb : b = sc
      · exact .inr ⟨_, _, if_pos hb⟩
      · exact .inl (if_neg hb)
    · by_cases hb : b = sc
      · have z := (if_pos hb).symm.trans z
        cases z
        rw [hb]
        exact ⟨hsc, by rw [List.length_map]; exact hz, its, _, rv, hsc⟩
      · have z := (if_neg hb).symm.trans z
        cases z
    · by_cases hb : b = sc
      · exact hb
      · exact absurd (if_neg hb) z
  · cases hq : K.lookup sc with
    | none => exact absurd hq hk
    | some ob =>
      have e := kin sc ob hq
      rw [hsc] at e
      cases e
      have sq : SqL K (fun _ => none) sc (ns.map V.int) := .inr ⟨_, its.toArray, _, hq, rfl, rfl, rfl, by rw [List.size_toArray, hlen]; exact hz, by simpa using rv⟩
      exact main (fun _ => none) (fun _ => .inl rfl) sq (fun b u z => by cases z) (fun b z => absurd rfl z) fun z => absurd rfl z
theorem walkG {l : PySem.W.OpenLaw} {n k : Nat} {q : Program} {loose : List Str} {XP : (Str → Option Value) → Heap → Prop} {YP : World → Heap → Prop} {d : DefRec} {x : Str} (hn : l.most = some n) (hn2 : n ≤ sizeLine) (hdf : d.params.defaults = []) (hr : Room k callerA)
    (F : ∀ (w : World) (mg : Str → Option Value) (fa : Addr) (h : Heap), YP w h → h.Ns mainGlobals mg → mg d.name = some (.ref fa) → ∃ (K : PySem.W.Frag) (fd : FuncData) (sp : Sp), K.In h ∧ (∀ (s : Shared) (u : Value), BindsTo s fd ⟨[u], []⟩ [(x, u)]) ∧
        (∀ (H : Hp) (a : Addr) (ns : List Int), ns.length ≤ n → Only H → SqL K H a (ns.map V.int) → sp [.ref a] H (fun v _ => v = .bl true) fun _ _ _ => False) ∧ ∀ base : Heap, K.In base → base.Ns mainGlobals mg → FnG l.prog w K mg base k fa fd [x] sp) :
    PySem.W.WalkO q loose XP YP l.row.toRowW d [] (fun f vs => PySem.call f vs) := by
  refine Att.attach_call hn hdf ?_
  intro w s0 s1 mg mb fa o pm cd doc a vs ns G Y ho hd hcd hmg hobj hints hlen hg
  obtain ⟨K, fd, sp, kin, hb, hsp, hF⟩ := F w mg fa s1.heap Y G.T.g hmg
  exact lawG kin G.T.g G.T.b G.T.builtins G.T.nolimit hg hobj hints (Nat.le_trans hlen hn2) hr hF hb fun H hO hS => hsp H a ns hlen hO hS
/-! ### a def's promise, where no guard stands around -/
structure KnownG (P : Program) (w : World) (K : PySem.W.Frag) (mg : Str → Option Value) (base : Heap) (lvl : Nat) (f : FSpec) : Prop where
  ok : ∃ (a : Addr) (fd : FuncData) (ps : List Str), FnG P w K mg base lvl a fd ps (spOf K f) ∧ mg f.name = some (.ref a) ∧ PySem.W.keepIn K (.ref a) = true ∧ Binds K fd ps []
  nd : (f.name == ("__debug__" : Str)) = false
section
variable {P : Program} {w : World} {K : PySem.W.Frag} {mg : Str → Option Value} {base : Heap}
theorem fn_okG {x qual : Str} {st : Stmt} {c : Addr} {fd : FuncData} {N ps : List Str} {k : Nat} {f : FSpec} {t : VS} (Fn : FunD K x qual (defArgs st) (defBody st) (defScope st) [] [] c fd) (Sc : FnScope N ps (defScope st)) (hlen : f.modes.length = ps.length)
    (body : ∀ (cdv : Value) (A : Around) (outer : List Env) (s : Shared) (H : Hp) (E : XK), Room k (A.deeper (envOfC qual (defScope st) s.heap.objs.size c cdv)) → (A.deeper (envOfC qual (defScope st) s.heap.objs.size c cdv)).guards = some [] →
      JSs (cxOf CX0 P w K mg base N qual (defScope st) c cdv A outer s H E).nox f.new (ownFrom f.modes 0) (defBody st) t)
    (plain : Plain f N.length t) : FnG P w K mg base (k + 1) c fd ps (spOf K f) := by
  refine okG Fn Sc (fun vs H Q E h => ?_) (fun cdv A outer s H vs Q E hr hg h => ?_)
  · obtain ⟨S, xs, os, rs, hS, A1, _⟩ := h
    rw [A1.len, hlen]
  · exact ⟨_, pssW, fn_core (body cdv A outer s H E hr hg) plain h⟩
theorem KnownF.g {lvl : Nat} {f : FSpec} (h : KnownF P w K mg base lvl f) : KnownG P w K mg base lvl f := by
  obtain ⟨a, fd, ps, F, h1, h2, h3⟩ := h.ok
  exact ⟨⟨a, fd, ps, ⟨F.len, fun A fr s H ar us vs Q E hr _ => F.run A fr s H ar us vs Q E hr⟩, h1, h2, h3⟩, h.nd⟩
end
section
variable {X : Cx} {pos p : Pos} {e : Expr} {es : List Expr} {lvl : Nat} {f : FSpec} {t : VA}
theorem call_coreG (hr : Room lvl X.A) (hgd : X.A.guards = some []) (k : KnownG X.prog X.w X.K X.mg X.base lvl f) (hg : Gl X f.name) (h : JA X (e :: es) t) (hs : (e :: es).all notStar = true) {σ : L2.St} {S H : Hp} {ρ : R} {Q : D → R → Prop} (hR : Rel X.K (bd X) S H σ ρ) (ht : tCallF f t ρ Q) {Q' : VK}
    (hq : ∀ (v : V) (r : D) (H1 S2 H2 : Hp) (ρ2 : R), Rel X.K (bd X) S2 H2 σ ρ2 → Ext σ S H ρ S2 H2 ρ2 → (∀ b, H b ≠ none → H1 b ≠ none) → ResR f.new H1 S2 H2 v r → Q r ρ2 → Q' v H2) : W X (.Call (.Name f.name p) (e :: es) [] pos) σ H Q' := by
  obtain ⟨a, fd, ps, F, hm, hk, hb⟩ := k.ok
  rw [List.all_cons, Bool.and_eq_true] at hs
  refine W.of (pe_callG (Ew := fun _ _ _ => False) F hr hgd hg hm hk hb paW k.nd (star_cons hs.1) (star_none hs.2)) ((h σ S H ρ _ hR ht).mono fun vs H1 q => ?_)
  obtain ⟨S1, ρ1, as, R1, E1, d1, q1⟩ := q
  split at q1
  · rename_i xs ex
    obtain ⟨hap, hpre, q1⟩ := q1
    obtain ⟨os, rs, A1, hp, hro⟩ := args_ok R1 d1 ex
    have hap' := hap
    rw [apartIx, Bool.and_eq_true] at hap'
    have hn := of_decide_eq_true hap'.1
    rw [List.append_nil]
    refine ⟨S1, xs, os, rs, R1.sub, A1, owns_nodup R1 hp hn, ro_apart R1 hp hro hap, hpre, fun r yss hpost v S2 H2 C O rr => ?_⟩
    obtain ⟨R2, E2⟩ := call_rel R1 hp hn C O
    exact hq v r H1 S2 H2 _ R2 (E1.trans E2) E1.there rr (q1 r yss hpost)
  · exact q1.elim
theorem je_callG (hr : Room lvl X.A) (hgd : X.A.guards = some []) (k : KnownG X.prog X.w X.K X.mg X.base lvl f) (hg : Gl X f.name) (h : JA X (e :: es) t) (hs : (e :: es).all notStar = true) (hf : f.new = false) : JE X (.Call (.Name f.name p) (e :: es) [] pos) (tCallF f t) := by
  intro σ S H ρ Q hR ht
  refine call_coreG hr hgd k hg h hs hR ht fun v r H1 S2 H2 ρ2 R2 E _ rr q => ?_
  rw [hf] at rr
  exact ⟨S2, ρ2, r, R2, E, rr.rp, q⟩
end
/-! ### str of data -/
section
variable {X : Cx} {pos p : Pos} {a : Expr} {ta : VT}
def strOk (x : D) : Prop := x.showable = true ∧ x.hasDict = false ∧ x.depth ≤ 60 ∧ x.shown.length ≤ sizeLine
theorem cr_strD (hgd : X.A.guards = some []) (hu : X.A.units + 64 < cLine) : CallR X (.type "str") (fun vs H Q => ∃ v x, vs = [v] ∧ Dp X.K H v x ∧ (∃ b, v = .ref b) ∧ strOk x ∧ Q (.str x.shown) H) := by
  intro pins s σ H vs us Q I r h
  obtain ⟨v, x, rfl, hd, ⟨b, rfl⟩, ⟨h1, h2, h3, h4⟩, q⟩ := h
  rw [Vals.ref1 r]
  obtain ⟨as, rd⟩ := Dp.reads I x (.ref b) (.ref b) hd rfl
  refine str_of_reads rd h1 (PyData.noDict_hsm h2) hgd (by omega) (fun _ _ e => e) (fun h' u tk hk => ?_) h4
  exact ⟨.str x.shown, H, I.kept (t' := tk) hk, ⟨_, rfl⟩, q⟩
def isSeqD : D → Bool
  | .list _ => true
  | .tuple _ => true
  | _ => false
def tStrD (ta : VT) : VE := fun ρ Q => ta ρ fun u ρ1 => match deref ρ1 u with
  | some x => isSeqD x = true ∧ strOk x ∧ Q (.str x.shown) ρ1
  | none => False
theorem je_strD (hgd : X.A.guards = some []) (hu : X.A.units + 64 < cLine) (hg : Gl X "str") (hm : X.mg "str" = none) (ha : JT X a ta) (hs : notStar a = true) : JE X (.Call (.Name "str" p) [a] [] pos) (tStrD ta) := by
  intro σ S H ρ Q hR ht
  refine W.of (pe_callTy (T := "str") (cr_strD hgd hu) hg hm (by decide +kernel) (pa_cons peW pa_nil (star_cons hs)) (by decide) (by decide) (star_cons hs) rfl) ((ha σ S H ρ _ hR ht).mono fun v H1 q => ?_)
  obtain ⟨S1, ρ1, u, R1, E1, d1, q1⟩ := q
  split at q1
  · rename_i x e1
    obtain ⟨h1, h2, q1⟩ := q1
    have dp := d1.dp R1 e1
    refine ⟨v, x, rfl, dp, ?_, h2, S1, ρ1, _, R1, E1, .str _, q1⟩
    cases dp <;> first | exact ⟨_, rfl⟩ | cases h1
  · exact q1.elim
end
/-! several names = a list -/
section
variable {X : Cx} {new : Fs} {F : List Nat} {pos : Pos} {e : Expr}
def tAsgL (is : List Nat) (t : VT) : VS := fun ρ Qn _ => t ρ fun u ρ1 => match deref ρ1 u with
  | some (.list xs) => match putN ρ1 is xs with
    | some ρ2 => Qn ρ2
    | none => False
  | _ => False
theorem js_asgL {is : List Nat} {tg : Expr} {t : VT} (h : JT X e t) (hg : PG X tg (gUnl X.K is.length (gNames is))) (hF : ∀ i ∈ is, i ∉ F) (hB : (is.all fun i => decide (i < bd X)) = true) (hs : swapsWithSole [tg] e pos.line X.env = pure false) (hw : swappedStores [tg] e X.env = pure none)
    (h1 : (assignEach [tg] X.env).map (·.2) = [assign tg X.env]) : JS X new F (.Assign [tg] e pos) (tAsgL is t) := by
  intro σ S H ρ Qn Qr hR ht
  refine WS.of (ps_asg peW hg hs hw h1) ((h σ S H ρ _ hR ht).mono fun v H1 q => ?_)
  obtain ⟨S1, ρ1, u, R1, E1, d1, q1⟩ := q
  split at q1
  · rename_i xs ex
    obtain ⟨p, vs, rfl, hp, hd⟩ := d1.list R1 ex
    split at q1
    · rename_i ρ2 e2
      have len : ∀ {is : List Nat} {xs : List D} {ρ ρ2 : R}, putN ρ is xs = some ρ2 → is.length = xs.length := fun {is} => by
        induction is with
        | nil => intro xs ρ ρ2 h; cases xs with
          | nil => rfl
          | cons _ _ => cases h
        | cons i is ih => intro xs ρ ρ2 h; cases xs with
          | nil => cases h
          | cons x xs => exact congrArg (· + 1) (ih h)
      exact ⟨p, vs, rfl, hp, by rw [rps_len hd, len e2], names_ok hF (fun i hi => of_decide_eq_true (List.all_eq_true.mp hB i hi)) R1 hd e2 fun σ2 R2 E2 => ⟨S1, ρ2, R2, E1.xs.trans E2, q1⟩⟩
    · exact q1.elim
  · exact q1.elim
end
end WA

/-! WA18: things made of parts: lists and tuples whose items stand in slots of their own. -/
namespace WA
open PySem PySem.Spec PyProof.Rows L2
/-- slots that a slot leans on -/
def Sl.on : Sl → List Nat
  | .st _ is => is
  | .al j => [j]
  | _ => []
/-- no other slot leans on m -/
def freeAt (ρ : R) (i m : Nat) : Prop := ∀ (j : Nat) (s : Sl), j ≠ i → ρ[j]? = some s → m ∉ s.on
section
variable {K : PySem.W.Frag} {B : Nat} {S H S' H' : Hp} {σ σ' : L2.St} {ρ ρ' : R}
theorem VRel.to2 (v : VRel B S H σ ρ) (h1 : ∀ (i : Nat) (s : Sl), ρ'[i]? = some s → s.leans = true → ρ[i]? = some s ∧ σ'[i]? = σ[i]? ∧ ∀ m ∈ s.on, σ'[m]? = σ[m]?)
    (h4 : ∀ (d c : Addr), H d = some (.own c) → S d = none → ¬ OwnAt σ ρ d → ¬ OwnAt σ' ρ' d) : VRel B S H σ' ρ' where
  st := fun i k is h => by
    obtain ⟨g1, g2, g3⟩ := h1 i _ h rfl
    obtain ⟨a, vs, o, e1, e2, e3, e4, e5⟩ := v.st i k is g1
    have go : ∀ {vs : List V} {is : List Nat}, (∀ m ∈ is, σ'[m]? = σ[m]?) → Paired (fun (v : V) (m : Nat) => B ≤ m ∧ σ[m]? = some (some v)) vs is → Paired (fun (v : V) (m : Nat) => B ≤ m ∧ σ'[m]? = some (some v)) vs is := by
      intro vs is hm p
      induction p with
      | nil => exact .nil
      | cons r t ih => exact .cons ⟨r.1, by rw [hm _ List.mem_cons_self]; exact r.2⟩ (ih fun m hm' => hm m (List.mem_cons_of_mem _ hm'))
    exact ⟨a, vs, o, by rw [g2]; exact e1, e2, e3, e4, go g3 e5⟩
  al := fun i j h => by
    obtain ⟨g1, g2, g3⟩ := h1 i _ h rfl
    obtain ⟨e1, w, e2, e3⟩ := v.al i j g1
    exact ⟨e1, w, by rw [g2]; exact e2, by rw [g3 j (by simp [Sl.on])]; exact e3⟩
  dx := fun i C fs is a d us h ha hH => by
    obtain ⟨g1, g2, _⟩ := h1 i _ h rfl
    rw [g2] at ha
    obtain ⟨q1, q2⟩ := v.dx i C fs is a d us g1 ha hH
    obtain ⟨a', vs, o, e1, e2, e3, e4, e5⟩ := v.st i _ is g1
    rw [ha] at e1
    cases e1
    rw [hH] at e3
    cases e3
    obtain ⟨l, d', q, hd⟩ := e4
    cases q
    exact ⟨q1, h4 d _ hd q1 q2⟩
/-- a slot that no other leans on is given anew: nothing told of it, a value -/
theorem Rel.setn {i : Nat} {v : Option V} (h : Rel K B S H σ ρ) (hf : freeAt ρ i i) : Rel K B S H (σ.set i v) (ρ.set i .no) := by
  refine ⟨by rw [List.length_set, List.length_set]; exact h.len, h.sub, fun j x hx => ?_, fun j zs hx => ?_, fun j k zs hx => ?_, fun j k s t b h1 h2 h3 h4 => sep_set rfl h h1 h2 h3 h4, h.vir.to2 (fun j s q l => ?_) fun d c q1 q2 n z => n (own_set rfl z)⟩
  · rcases get_set hx with ⟨rfl, q, hi⟩ | ⟨n, q⟩
    · cases q
    · rw [List.getElem?_set_ne (fun z => n z.symm)]
      exact h.val j x q
  · rcases get_set hx with ⟨rfl, q, hi⟩ | ⟨n, q⟩
    · cases q
    · rw [List.getElem?_set_ne (fun z => n z.symm)]
      exact h.own j zs q
  · rcases get_set hx with ⟨rfl, q, hi⟩ | ⟨n, q⟩
    · cases q
    · obtain ⟨b, ws, b1, b2, b3⟩ := h.ro j k zs q
      exact ⟨b, ws, by rw [List.getElem?_set_ne (fun z => n z.symm)]; exact b1, b2.to (fun o e _ => e) (fun _ z => own_set rfl z), b3⟩
  · rcases get_set q with ⟨rfl, q, _⟩ | ⟨n, q⟩
    · rw [q] at l; cases l
    · exact ⟨q, List.getElem?_set_ne (fun z => n z.symm), fun m hm => List.getElem?_set_ne fun z => hf j s n q (by rw [z]; exact hm)⟩
/-- a slot of which nothing is told: what it holds is a value -/
theorem Rel.tellv {i : Nat} {v : V} {d : D} (h : Rel K B S H σ ρ) (hn : ρ[i]? = some .no) (hs : σ[i]? = some (some v)) (hv : Rp S v d) : Rel K B S H σ (ρ.set i (.v d)) := by
  have hi : i < ρ.length := (List.getElem?_eq_some_iff.mp hn).1
  have e : σ.set i (some v) = σ := by
    refine List.ext_getElem? fun j => ?_
    by_cases z : i = j
    · subst z
      rw [List.getElem?_set_self (by rw [h.len]; exact hi), hs]
    · rw [List.getElem?_set_ne z]
  have oa : ∀ {b : Addr}, OwnAt σ (ρ.set i (.v d)) b → OwnAt σ ρ b := fun {b} z => by
    have := own_set (σ := σ) (ρ := ρ) (i := i) (v := some v) (s := .v d) rfl (b := b) (by rw [e]; exact z)
    exact this
  refine ⟨by rw [List.length_set]; exact h.len, h.sub, fun j x hx => ?_, fun j zs hx => ?_, fun j k zs hx => ?_, fun j k s t b h1 h2 h3 h4 => ?_, h.vir.to2 (fun j s q l => ?_) fun d c q1 q2 n z => n (oa z)⟩
  · rcases get_set hx with ⟨rfl, q, hi⟩ | ⟨n, q⟩
    · cases q
      exact ⟨v, hs, hv⟩
    · exact h.val j x q
  · rcases get_set hx with ⟨rfl, q, hi⟩ | ⟨n, q⟩
    · cases q
    · exact h.own j zs q
  · rcases get_set hx with ⟨rfl, q, hi⟩ | ⟨n, q⟩
    · cases q
    · obtain ⟨b, ws, b1, b2, b3⟩ := h.ro j k zs q
      exact ⟨b, ws, b1, b2.to (fun o e _ => e) (fun _ z => oa z), b3⟩
  · refine sep_set (i := i) (v := some v) (s := .v d) rfl h h1 h2 (by rw [e]; exact h3) (by rw [e]; exact h4)
  · rcases get_set q with ⟨rfl, q, _⟩ | ⟨n, q⟩
    · rw [q] at l; cases l
    · exact ⟨q, rfl, fun _ _ => rfl⟩
/-- .. or a thing that it holds alone -/
theorem Rel.tello {i : Nat} {c : Addr} {s : Sl} (h : Rel K B S H σ ρ) (hn : ρ[i]? = some .no) (hs : σ[i]? = some (some (.ref c))) (ho : s.owns = true) (hnew : ¬ OwnAt σ ρ c) (hc : S c = none) (hob : ∃ u, H c = some u ∧ ownable u = true)
    (hro : ∀ (j : Nat) (k : Bool) (xs : List D), ρ[j]? = some (.ro k xs) → ∃ b, σ[j]? = some (some (.ref b)) ∧ (b ≠ c ∨ (k = false ∧ ∃ ws, KL K b ws ∧ RpAll S ws xs)))
    (hown : ∀ xs, s = .own xs → ∃ vs, H c = some (.lst vs) ∧ RpAll S vs xs)
    (hst : ∀ k is, s = .st k is → ∃ (vs : List V) (o : HO), H c = some o ∧ k.objR H c vs o ∧ Paired (fun (v : V) (m : Nat) => B ≤ m ∧ σ[m]? = some (some v)) vs is)
    (hdx : ∀ C fs is d us, s = .st (.ins C fs) is → H c = some (.ins C d us) → S d = none ∧ ¬ OwnAt σ ρ d) : Rel K B S H σ (ρ.set i s) := by
  have hi : i < ρ.length := (List.getElem?_eq_some_iff.mp hn).1
  have oa : ∀ {b : Addr}, b ≠ c → OwnAt σ (ρ.set i s) b → OwnAt σ ρ b := fun {b} hb ⟨m, us, hm, e⟩ => by
    rcases get_set hm.1 with ⟨rfl, q', hm'⟩ | ⟨n', q'⟩
    · rw [hs] at e
      cases e
      exact absurd rfl hb
    · exact ⟨m, us, ⟨q', hm.2⟩, e⟩
  have nown : ∀ {d e : Addr}, H d = some (.own e) → d ≠ c := fun {d e} q z => by
    obtain ⟨u, h1, h2⟩ := hob
    rw [z, h1] at q
    cases q
    cases h2
  refine ⟨by rw [List.length_set]; exact h.len, h.sub, fun j x hx => ?_, fun j zs hx => ?_, fun j k zs hx => ?_, fun j k p t b h1 h2 h3 h4 => ?_, ⟨fun j k is q => ?_, fun j k q => ?_, fun j C fs is a d us q ha hH => ?_⟩⟩
  · rcases get_set hx with ⟨rfl, q, _⟩ | ⟨n, q⟩
    · rw [← q] at ho; cases ho
    · exact h.val j x q
  · rcases get_set hx with ⟨rfl, q, _⟩ | ⟨n, q⟩
    · obtain ⟨vs, h1, h2⟩ := hown zs q.symm
      exact ⟨c, vs, hs, hc, h1, h2⟩
    · exact h.own j zs q
  · rcases get_set hx with ⟨rfl, q, _⟩ | ⟨n, q⟩
    · rw [← q] at ho; cases ho
    · obtain ⟨b, ws, b1, b2, b3⟩ := h.ro j k zs q
      obtain ⟨b', g1, g2⟩ := hro j k zs q
      rw [b1] at g1
      cases g1
      rcases g2 with g2 | ⟨rfl, us, g2, g3⟩
      · exact ⟨b, ws, b1, b2.to (fun o e _ => e) (fun _ z => oa g2 z), b3⟩
      · exact ⟨b, us, b1, .inl ⟨rfl, g2⟩, g3⟩
  · rcases get_set h1.1 with ⟨rfl, q, hj⟩ | ⟨n1, q1⟩
    · rcases get_set h2.1 with ⟨rfl, _, _⟩ | ⟨n2, q2⟩
      · rfl
      · rw [hs] at h3
        cases h3
        exact absurd ⟨k, t, ⟨q2, h2.2⟩, h4⟩ hnew
    · rcases get_set h2.1 with ⟨rfl, _, hk⟩ | ⟨n2, q2⟩
      · rw [hs] at h4
        cases h4
        exact absurd ⟨j, p, ⟨q1, h1.2⟩, h3⟩ hnew
      · exact h.sep _ _ _ _ b ⟨q1, h1.2⟩ ⟨q2, h2.2⟩ h3 h4
  · rcases get_set q with ⟨rfl, q, _⟩ | ⟨n, q⟩
    · obtain ⟨vs, o, h1, h2, h3⟩ := hst k is q.symm
      exact ⟨c, vs, o, hs, hc, h1, h2, h3⟩
    · exact h.vir.st j k is q
  · rcases get_set q with ⟨rfl, q, _⟩ | ⟨n, q⟩
    · rw [← q] at ho; cases ho
    · exact h.vir.al j k q
  · rcases get_set q with ⟨rfl, q, _⟩ | ⟨n, q⟩
    · rw [hs] at ha
      cases ha
      obtain ⟨q1, q2⟩ := hdx C fs is d us q.symm hH
      obtain ⟨vs, o, h1, h2, h3⟩ := hst _ is q.symm
      rw [hH] at h1
      cases h1
      obtain ⟨l, d', e, hd⟩ := h2
      cases e
      exact ⟨q1, fun z => q2 (oa (nown hd) z)⟩
    · obtain ⟨q1, q2⟩ := h.vir.dx j C fs is a d us q ha hH
      obtain ⟨a', vs, o, e1, e2, e3, e4, e5⟩ := h.vir.st j _ is q
      rw [ha] at e1
      cases e1
      rw [hH] at e3
      cases e3
      obtain ⟨l, d', e, hd⟩ := e4
      cases e
      exact ⟨q1, fun z => q2 (oa (nown hd) z)⟩
/-- .. or a second name of what stands in another slot -/
theorem Rel.tella {i j : Nat} {v : V} (h : Rel K B S H σ ρ) (hn : ρ[i]? = some .no) (hs : σ[i]? = some (some v)) (hj : B ≤ j) (hv : σ[j]? = some (some v)) : Rel K B S H σ (ρ.set i (.al j)) := by
  have oa : ∀ {b : Addr}, OwnAt σ (ρ.set i (.al j)) b → OwnAt σ ρ b := fun {b} ⟨m, us, hm, e⟩ => by
    rcases get_set hm.1 with ⟨rfl, q', hm'⟩ | ⟨n', q'⟩
    · have := hm.2
      rw [q'] at this; cases this
    · exact ⟨m, us, ⟨q', hm.2⟩, e⟩
  refine ⟨by rw [List.length_set]; exact h.len, h.sub, fun j x hx => ?_, fun j zs hx => ?_, fun j k zs hx => ?_, fun j k p t b h1 h2 h3 h4 => ?_, ⟨fun j k is q => ?_, fun k l q => ?_, fun j C fs is a d us q ha hH => ?_⟩⟩
  · rcases get_set hx with ⟨rfl, q, _⟩ | ⟨n, q⟩
    · cases q
    · exact h.val j x q
  · rcases get_set hx with ⟨rfl, q, _⟩ | ⟨n, q⟩
    · cases q
    · exact h.own j zs q
  · rcases get_set hx with ⟨rfl, q, _⟩ | ⟨n, q⟩
    · cases q
    · obtain ⟨b, ws, b1, b2, b3⟩ := h.ro j k zs q
      exact ⟨b, ws, b1, b2.to (fun o e _ => e) (fun _ z => oa z), b3⟩
  · rcases get_set h1.1 with ⟨rfl, q, _⟩ | ⟨n1, q1⟩
    · have := h1.2
      rw [q] at this; cases this
    · rcases get_set h2.1 with ⟨rfl, q, _⟩ | ⟨n2, q2⟩
      · have := h2.2
        rw [q] at this; cases this
      · exact h.sep _ _ _ _ b ⟨q1, h1.2⟩ ⟨q2, h2.2⟩ h3 h4
  · rcases get_set q with ⟨rfl, q, _⟩ | ⟨n, q⟩
    · cases q
    · exact h.vir.st j k is q
  · rcases get_set q with ⟨rfl, q, _⟩ | ⟨n, q⟩
    · cases q
      exact ⟨hj, v, hs, hv⟩
    · exact h.vir.al k l q
  · rcases get_set q with ⟨rfl, q, _⟩ | ⟨n, q⟩
    · cases q
    · obtain ⟨q1, q2⟩ := h.vir.dx j C fs is a d us q ha hH
      exact ⟨q1, fun z => q2 (oa z)⟩
end
/-! ### slots that are no names of the text -/
def invis (X : Cx) (m : Nat) : Bool := match X.N[m]? with
  | some x => (X.env.scope.names.lookup x).isNone
  | none => true
def vok (X : Cx) (is : List Nat) : Bool := (is.all fun m => decide (bd X ≤ m) && invis X m) && decide is.Nodup
def VirEq (X : Cx) (σ σ' : L2.St) : Prop := σ'.length = σ.length ∧ ∀ (i : Nat) (x : Str), X.N[i]? = some x → Vis X.env.scope x → σ'[i]? = σ[i]?
theorem VirEq.refl {X : Cx} {σ : L2.St} : VirEq X σ σ := ⟨rfl, fun _ _ _ _ => rfl⟩
theorem VirEq.set {X : Cx} {σ σ' : L2.St} {m : Nat} {v : Option V} (h : VirEq X σ σ') (hm : invis X m = true) : VirEq X σ (σ'.set m v) := by
  refine ⟨by rw [List.length_set]; exact h.1, fun i x hx hv => ?_⟩
  have : m ≠ i := fun z => by
    subst z
    unfold invis at hm
    rw [hx] at hm
    have hm : X.env.scope.names.lookup x = none := Option.isNone_iff_eq_none.mp hm
    rcases hv with q | q | q <;> (rw [hm] at q; cases q)
  rw [List.getElem?_set_ne this]
  exact h.2 i x hx hv
theorem inv_vir {X : Cx} {pins : List (Addr × Obj)} {σ σ' : L2.St} {H : Hp} {s : Shared} (I : Inv X pins σ H s) (h : VirEq X σ σ') : Inv X pins σ' H s := by
  obtain ⟨m, h1, h2⟩ := I.loc
  exact ⟨I.ok, I.os, I.bare, I.base, ⟨m, h1, fun i x v hx hv hvis => h2 i x v hx (by rw [← h.2 i x hx hvis]; exact hv) hvis⟩, I.cell, I.free, I.freeC, I.pin, I.hok, by rw [h.1]; exact I.len⟩
/-- what is wanted behind a statement, with such slots given anew -/
theorem WS.vir {X : Cx} {st : Stmt} {D : Ends} {σ : L2.St} {H : Hp} (h : WS X st { D with nx := fun σ' H' => ∃ σ'', VirEq X σ' σ'' ∧ D.nx σ'' H' } σ H) : WS X st D σ H := fun pins s I =>
  thn (h pins s I) fun f s' q => by
    cases f with
    | next =>
      obtain ⟨σ', H', I', σ'', hv, q⟩ := q
      exact ⟨σ'', H', inv_vir I' hv, q⟩
    | brk => exact q
    | cont => exact q
    | ret u => exact q
/-! ### parts of a display -/
inductive CV where
  | val (x : D)
  | new (xs : List D)
abbrev VM := R → (List CV → R → Prop) → Prop
def CompR (S' H0 H' : Hp) (v : V) : CV → Prop
  | .val x => Rp S' v x
  | .new xs => ∃ a ws, v = .ref a ∧ H0 a = none ∧ S' a = none ∧ H' a = some (.lst ws) ∧ RpAll S' ws xs
def newA : List V → List CV → List Addr
  | .ref a :: vs, .new _ :: cs => a :: newA vs cs
  | _ :: vs, _ :: cs => newA vs cs
  | _, _ => []
def PostM (X : Cx) (σ : L2.St) (S H : Hp) (ρ : R) (Q : List CV → R → Prop) : List V → Hp → Prop := fun vs H' => ∃ S' ρ' cs, Rel X.K (bd X) S' H' σ ρ' ∧ Ext σ S H ρ S' H' ρ' ∧ Paired (CompR S' H H') vs cs ∧ (newA vs cs).Nodup ∧ Q cs ρ'
def JM (X : Cx) (es : List Expr) (t : VM) : Prop := ∀ σ S H ρ Q, Rel X.K (bd X) S H σ ρ → t ρ Q → WAr X es σ H (PostM X σ S H ρ Q)
def tMNil : VM := fun ρ Q => Q [] ρ
def tMVal (t : VT) (u : VM) : VM := fun ρ Q => t ρ fun x ρ1 => match x with
  | .val d => u ρ1 fun cs ρ2 => Q (.val d :: cs) ρ2
  | _ => False
def tMNew (t : VE) (u : VM) : VM := fun ρ Q => t ρ fun x ρ1 => match x with
  | .list xs => u ρ1 fun cs ρ2 => Q (.new xs :: cs) ρ2
  | _ => False
section
variable {X : Cx} {e : Expr} {es : List Expr} {σ : L2.St} {S H : Hp} {ρ : R}
theorem comp_back {S2 H1 H2 : Hp} (th : ∀ b, H b ≠ none → H1 b ≠ none) {vs : List V} {cs : List CV} (h : Paired (CompR S2 H1 H2) vs cs) : Paired (CompR S2 H H2) vs cs := by
  refine Paired.mapP h fun v c q => ?_
  cases c with
  | val x => exact q
  | new xs =>
    obtain ⟨a, ws, h1, h2, h3⟩ := q
    refine ⟨a, ws, h1, ?_, h3⟩
    cases e : H a with
    | none => rfl
    | some o => exact absurd h2 (th a (by rw [e]; simp))
theorem newA_in {S2 H1 H2 : Hp} : ∀ {vs : List V} {cs : List CV}, Paired (CompR S2 H1 H2) vs cs → ∀ a ∈ newA vs cs, H1 a = none
  | _, _, .nil, a, h => absurd h (by simp [newA])
  | _, _, .cons (a := v) (b := c) r t, a, h => by
    cases c with
    | val x =>
      cases v <;> exact newA_in t a h
    | new xs =>
      obtain ⟨b, ws, rfl, h1, _⟩ := r
      rcases List.mem_cons.mp h with rfl | h
      · exact h1
      · exact newA_in t a h
theorem newA_val {v : V} {x : D} {vs : List V} {cs : List CV} : newA (v :: vs) (.val x :: cs) = newA vs cs := by cases v <;> rfl
theorem jm_nil : JM X [] tMNil := fun σ S H ρ Q hR ht => WAr.of pa_nil ⟨S, ρ, [], hR, .refl, .nil, by simp [newA], ht⟩
theorem jm_val {ta : VT} {u : VM} (ha : JT X e ta) (hb : JM X es u) (hs : notStar e = true) : JM X (e :: es) (tMVal ta u) := by
  intro σ S H ρ Q hR ht
  refine WAr.of (pa_cons peW paW (star_cons hs)) ((ha σ S H ρ _ hR ht).mono fun v H1 q => ?_)
  obtain ⟨S1, ρ1, x, R1, E1, d1, q1⟩ := q
  split at q1
  · rename_i d
    refine (hb σ S1 H1 ρ1 _ R1 q1).mono fun vs H2 q => ?_
    obtain ⟨S2, ρ2, cs, R2, E2, d2, nd, q2⟩ := q
    exact ⟨S2, ρ2, .val d :: cs, R2, E1.trans E2, .cons (Rp.mono d1 E2.same) (comp_back E1.there d2), by rw [newA_val]; exact nd, q2⟩
  · exact q1.elim
theorem jm_new {te : VE} {u : VM} (ha : JN X e te) (hb : JM X es u) (hs : notStar e = true) : JM X (e :: es) (tMNew te u) := by
  intro σ S H ρ Q hR ht
  refine WAr.of (pa_cons peW paW (star_cons hs)) ((ha σ S H ρ _ hR ht).mono fun v H1 q => ?_)
  obtain ⟨S1, ρ1, c, ws, xs, R1, E1, rfl, hc, hcs, hcl, hd, q1⟩ := q
  have nc : ¬ OwnAt σ ρ1 c := fun z => own_new hR hc (E1.at.mpr z)
  refine (hb σ S1 H1 ρ1 _ R1 q1).mono fun vs H2 q => ?_
  obtain ⟨S2, ρ2, cs, R2, E2, d2, nd, q2⟩ := q
  refine ⟨S2, ρ2, .new xs :: cs, R2, E1.trans E2, .cons ⟨c, ws, rfl, hc, E2.stay c (by rw [hcl]; simp) hcs, E2.keep c _ hcl hcs nc, hd.mono E2.same⟩ (comp_back E1.there d2), ?_, q2⟩
  show (c :: newA vs cs).Nodup
  refine List.nodup_cons.mpr ⟨fun hm => ?_, nd⟩
  have := newA_in d2 c hm
  rw [hcl] at this
  cases this
end
/-! ### parts are put into their slots -/
def setL : L2.St → List Nat → List V → L2.St
  | σ, m :: ms, v :: vs => setL (σ.set m (some v)) ms vs
  | σ, _, _ => σ
def CV.sl : CV → Sl
  | .val x => .v x
  | .new xs => .own xs
def putC : R → List Nat → List CV → R
  | ρ, m :: ms, c :: cs => putC (ρ.set m c.sl) ms cs
  | ρ, _, _ => ρ
/-- no slot leans on these -/
def noLean (ρ : R) (is : List Nat) : Bool := ρ.all fun s => s.on.all fun m => !is.contains m
theorem noLean_at {ρ : R} {is : List Nat} (h : noLean ρ is = true) {j m : Nat} {s : Sl} (hs : ρ[j]? = some s) (hm : m ∈ is) : m ∉ s.on := fun z => by
  have h1 := List.all_eq_true.mp h s (List.mem_of_getElem? hs)
  have h2 := List.all_eq_true.mp h1 m z
  rw [List.contains_iff_mem.mpr hm] at h2
  cases h2
section
variable {K : PySem.W.Frag} {B : Nat} {S H H0 : Hp} {σ : L2.St} {ρ : R}
theorem setL_len : ∀ {σ : L2.St} {is : List Nat} {vs : List V}, (setL σ is vs).length = σ.length
  | _, [], _ => rfl
  | _, _ :: _, [] => rfl
  | σ, m :: ms, v :: vs => by
    show (setL (σ.set m (some v)) ms vs).length = _
    rw [setL_len, List.length_set]
theorem setL_out : ∀ {σ : L2.St} {is : List Nat} {vs : List V} {j : Nat}, j ∉ is → (setL σ is vs)[j]? = σ[j]?
  | _, [], _, _, _ => rfl
  | _, _ :: _, [], _, _ => rfl
  | σ, m :: ms, v :: vs, j, h => by
    show (setL (σ.set m (some v)) ms vs)[j]? = _
    rw [setL_out fun z => h (List.mem_cons_of_mem _ z), List.getElem?_set_ne fun z => h (by simp [z])]
theorem setL_vir {X : Cx} {σ0 : L2.St} : ∀ {σ : L2.St} {is : List Nat} {vs : List V}, (∀ m ∈ is, invis X m = true) → VirEq X σ0 σ → VirEq X σ0 (setL σ is vs)
  | _, [], _, _, h => h
  | _, _ :: _, [], _, h => h
  | σ, m :: ms, v :: vs, hm, h => by
    show VirEq X σ0 (setL (σ.set m (some v)) ms vs)
    exact setL_vir (fun k hk => hm k (List.mem_cons_of_mem _ hk)) (h.set (hm m List.mem_cons_self))
theorem putC_out : ∀ {ρ : R} {is : List Nat} {cs : List CV} {j : Nat}, j ∉ is → (putC ρ is cs)[j]? = ρ[j]?
  | _, [], _, _, _ => rfl
  | _, _ :: _, [], _, _ => rfl
  | ρ, m :: ms, c :: cs, j, h => by
    show (putC (ρ.set m c.sl) ms cs)[j]? = _
    rw [putC_out fun z => h (List.mem_cons_of_mem _ z), List.getElem?_set_ne fun z => h (by simp [z])]
theorem putC_len : ∀ {ρ : R} {is : List Nat} {cs : List CV}, (putC ρ is cs).length = ρ.length
  | _, [], _ => rfl
  | _, _ :: _, [] => rfl
  | ρ, m :: ms, c :: cs => by
    show (putC (ρ.set m c.sl) ms cs).length = _
    rw [putC_len, List.length_set]
/-- read lists stand where they stood -/
def RoOld (K : PySem.W.Frag) (S H0 : Hp) (σ : L2.St) (ρ : R) : Prop := ∀ (j : Nat) (k : Bool) (xs : List D), ρ[j]? = some (.ro k xs) → ∃ b, σ[j]? = some (some (.ref b)) ∧ (H0 b ≠ none ∨ (k = false ∧ ∃ ws, KL K b ws ∧ RpAll S ws xs))
theorem RoOld.set {m : Nat} {v : Option V} {s : Sl} (h : RoOld K S H0 σ ρ) (hs : ∀ k xs, s ≠ .ro k xs) : RoOld K S H0 (σ.set m v) (ρ.set m s) := fun j k xs q => by
  rcases get_set q with ⟨rfl, q, _⟩ | ⟨n, q⟩
  · exact absurd q.symm (hs k xs)
  · rw [List.getElem?_set_ne fun z => n z.symm]
    exact h j k xs q
theorem RoOld.of {S1 H1 : Hp} {ρ1 : R} (h : Rel K B S H σ ρ) (E : Ext σ S H ρ S1 H1 ρ1) : RoOld K S1 H σ ρ1 := fun j k xs q => by
  have no : ∀ ys, ρ[j]? ≠ some (.own ys) := fun ys q' => by
    obtain ⟨zs', q''⟩ := (E.kind j).mp ⟨ys, q'⟩
    rw [q] at q''
    cases q''
  have e1 : ρ[j]? = some (.ro k xs) := by rw [← E.oth j no]; exact q
  obtain ⟨b, ws, b1, b2, b3⟩ := h.ro j k xs e1
  refine ⟨b, b1, ?_⟩
  rcases b2 with ⟨rfl, g⟩ | ⟨⟨o, _, g⟩, _⟩
  · exact .inr ⟨rfl, ws, g, b3.mono E.same⟩
  · exact .inl (by rw [g]; simp)
theorem RoOld.at {c : Addr} (h : RoOld K S H0 σ ρ) (hc : H0 c = none) : ∀ (j : Nat) (k : Bool) (xs : List D), ρ[j]? = some (.ro k xs) → ∃ b, σ[j]? = some (some (.ref b)) ∧ (b ≠ c ∨ (k = false ∧ ∃ ws, KL K b ws ∧ RpAll S ws xs)) := fun j k xs q => by
  obtain ⟨b, h1, h2⟩ := h j k xs q
  refine ⟨b, h1, h2.imp (fun z e => z (by rw [e]; exact hc)) fun z => z⟩
theorem noLean_set {is : List Nat} {m : Nat} {s : Sl} (h : noLean ρ is = true) (hs : s.on = []) : noLean (ρ.set m s) is = true := by
  refine List.all_eq_true.mpr fun t ht => ?_
  rcases List.mem_or_eq_of_mem_set ht with z | z
  · exact List.all_eq_true.mp h t z
  · rw [z, hs]
    rfl
theorem noLean_tail {is : List Nat} {m : Nat} (h : noLean ρ (m :: is) = true) : noLean ρ is = true := by
  refine List.all_eq_true.mpr fun t ht => List.all_eq_true.mpr fun k hk => ?_
  have h1 := List.all_eq_true.mp (List.all_eq_true.mp h t ht) k hk
  rw [Bool.not_eq_true'] at h1 ⊢
  cases q : is.contains k with
  | false => rfl
  | true =>
    rw [List.contains_iff_mem.mpr (List.mem_cons_of_mem _ (List.contains_iff_mem.mp q))] at h1
    cases h1
theorem parts_ok : ∀ {is : List Nat} {vs : List V} {cs : List CV} {σ : L2.St} {ρ : R}, Rel K B S H σ ρ → RoOld K S H0 σ ρ → Paired (CompR S H0 H) vs cs → (newA vs cs).Nodup → (∀ a ∈ newA vs cs, ¬ OwnAt σ ρ a) → is.Nodup → noLean ρ is = true → (∀ m ∈ is, m < ρ.length) → is.length = cs.length →
    Rel K B S H (setL σ is vs) (putC ρ is cs) ∧ RoOld K S H0 (setL σ is vs) (putC ρ is cs) ∧ Paired (fun (v : V) (m : Nat) => (setL σ is vs)[m]? = some (some v)) vs is ∧ (∀ b, OwnAt (setL σ is vs) (putC ρ is cs) b → OwnAt σ ρ b ∨ b ∈ newA vs cs)
  | [], _, _, σ, ρ, hR, hO, .nil, _, _, _, _, _, _ => ⟨hR, hO, .nil, fun _ h => .inl h⟩
  | [], _, _, _, _, _, _, .cons _ _, _, _, _, _, _, h => by cases h
  | _ :: _, _, _, _, _, _, _, .nil, _, _, _, _, _, h => by cases h
  | m :: ms, _, _, σ, ρ, hR, hO, .cons (a := v) (b := c) (l₁ := vs) (l₂ := cs) r t, nd, no, hm, hl, hlt, hlen => by
    rw [List.nodup_cons] at hm
    have h1 := hR.setn (i := m) (v := some v) fun j s _ q => noLean_at hl q List.mem_cons_self
    have hml : m < ρ.length := hlt m List.mem_cons_self
    have e0 : (ρ.set m .no)[m]? = some .no := List.getElem?_set_self hml
    have e1 : (σ.set m (some v))[m]? = some (some v) := List.getElem?_set_self (by rw [hR.len]; exact hml)
    have ee : ∀ s : Sl, (ρ.set m .no).set m s = ρ.set m s := fun s => List.set_set ..
    have e3 : setL σ (m :: ms) (v :: vs) = setL (σ.set m (some v)) ms vs := rfl
    have e4 : putC ρ (m :: ms) (c :: cs) = putC (ρ.set m c.sl) ms cs := rfl
    rw [e3, e4]
    have fin : ∀ (R2 : Rel K B S H (σ.set m (some v)) (ρ.set m c.sl)) (no2 : ∀ a ∈ newA vs cs, ¬ OwnAt (σ.set m (some v)) (ρ.set m c.sl) a) (nd2 : (newA vs cs).Nodup),
        (∀ b, OwnAt (σ.set m (some v)) (ρ.set m c.sl) b → OwnAt σ ρ b ∨ b ∈ newA (v :: vs) (c :: cs)) → (∀ b ∈ newA vs cs, b ∈ newA (v :: vs) (c :: cs)) →
        Rel K B S H (setL (σ.set m (some v)) ms vs) (putC (ρ.set m c.sl) ms cs) ∧ RoOld K S H0 (setL (σ.set m (some v)) ms vs) (putC (ρ.set m c.sl) ms cs) ∧ Paired (fun (v' : V) (m' : Nat) => (setL (σ.set m (some v)) ms vs)[m']? = some (some v')) (v :: vs) (m :: ms) ∧ (∀ b, OwnAt (setL (σ.set m (some v)) ms vs) (putC (ρ.set m c.sl) ms cs) b → OwnAt σ ρ b ∨ b ∈ newA (v :: vs) (c :: cs)) := fun R2 no2 nd2 ow1 sub => by
      have hon : c.sl.on = [] := by cases c <;> rfl
      have hro : ∀ k xs, c.sl ≠ .ro k xs := fun k xs z => by cases c <;> cases z
      obtain ⟨g1, g2, g3, g4⟩ := parts_ok R2 (hO.set hro) t nd2 no2 hm.2 (noLean_set (noLean_tail hl) hon) (fun k hk => by rw [List.length_set]; exact hlt k (List.mem_cons_of_mem _ hk)) (by simpa using hlen)
      refine ⟨g1, g2, .cons (by rw [setL_out hm.1]; exact e1) g3, fun b hb => ?_⟩
      rcases g4 b hb with z | z
      · exact ow1 b z
      · exact .inr (sub b z)
    cases c with
    | val x =>
      have R2 := h1.tellv e0 e1 r
      rw [ee] at R2
      refine fin R2 (fun a ha z => no a (by rw [newA_val]; exact ha) (own_set rfl z)) (by rw [newA_val] at nd; exact nd) (fun b z => .inl (own_set rfl z)) (fun b hb => by rw [newA_val]; exact hb)
    | new xs =>
      obtain ⟨a, ws, rfl, ha0, haS, haH, hd⟩ := r
      have na : ¬ OwnAt σ ρ a := no a List.mem_cons_self
      have nd : (a :: newA vs cs).Nodup := nd
      rw [List.nodup_cons] at nd
      have R2 := h1.tello (s := .own xs) e0 e1 rfl (fun z => na (own_set rfl z)) haS ⟨_, haH, rfl⟩ ((hO.set (fun _ _ z => by cases z)).at ha0) (fun ys z => by cases z; exact ⟨ws, haH, hd⟩) (fun k is z => by cases z) (fun C fs is d us z => by cases z)
      rw [ee] at R2
      have ow1 : ∀ b, OwnAt (σ.set m (some (.ref a))) (ρ.set m (.own xs)) b → OwnAt σ ρ b ∨ b = a := fun b ⟨k, u, hk, e⟩ => by
        rcases get_set hk.1 with ⟨rfl, q', _⟩ | ⟨n', q'⟩
        · rw [e1] at e
          cases e
          exact .inr rfl
        · rw [List.getElem?_set_ne fun z => n' z.symm] at e
          exact .inl ⟨k, u, ⟨q', hk.2⟩, e⟩
      refine fin R2 (fun b hb z => ?_) nd.2 (fun b z => ?_) (fun b hb => List.mem_cons_of_mem _ hb)
      · rcases ow1 b z with z | z
        · exact no b (List.mem_cons_of_mem _ hb) z
        · exact nd.1 (z ▸ hb)
      · rcases ow1 b z with z | z
        · exact .inl z
        · exact .inr (by rw [z]; exact List.mem_cons_self)
end
/-! ### name = [..], name = (..): made of parts -/
inductive Sq where
  | lst | tup
def Sq.mk : Sq → List V → HO
  | .lst, vs => .lst vs
  | .tup, vs => .tup vs
def Sq.sk : Sq → SK
  | .lst => .lst
  | .tup => .tup
section
variable {X : Cx} {new : Fs} {F : List Nat} {σ : L2.St} {S H : Hp} {ρ : R} {Qn : R → Prop} {Qr : D → R → Prop} {pos : Pos} {es : List Expr}
theorem st_core {k : Sq} {i : Nat} {is : List Nat} {S1 H1 : Hp} {ρ1 : R} {vs : List V} {cs : List CV} {n : Addr} (hR : Rel X.K (bd X) S H σ ρ) (R1 : Rel X.K (bd X) S1 H1 σ ρ1) (E1 : Ext σ S H ρ S1 H1 ρ1) (hd : Paired (CompR S1 H H1) vs cs) (nd : (newA vs cs).Nodup) (hn : H1 n = none)
    (hib : i < bd X) (hil : i < ρ.length) (hv : vok X is = true) (hiF : i ∉ F) (hF : (is.all fun m => !F.contains m) = true) (hlen : is.length = cs.length) (hlt : (is.all fun m => decide (m < ρ1.length)) = true) (hnl : noLean (ρ1.set i .no) is = true) :
    ∃ σ', VirEq X (σ.set i (some (.ref n))) σ' ∧ Rel X.K (bd X) S1 (upd H1 n (k.mk vs)) σ' ((putC (ρ1.set i .no) is cs).set i (.st k.sk is)) ∧ XS F σ S H ρ σ' S1 (upd H1 n (k.mk vs)) ((putC (ρ1.set i .no) is cs).set i (.st k.sk is)) := by
  rw [vok, Bool.and_eq_true] at hv
  obtain ⟨hv, hnd⟩ := hv
  have hnd := of_decide_eq_true hnd
  have hv' : ∀ m ∈ is, bd X ≤ m ∧ invis X m = true := fun m hm => by
    have := List.all_eq_true.mp hv m hm
    rw [Bool.and_eq_true] at this
    exact ⟨of_decide_eq_true this.1, this.2⟩
  have him : i ∉ is := fun z => absurd (hv' i z).1 (by omega)
  have hl1 : i < ρ1.length := by rw [← R1.len, hR.len]; exact hil
  have hn0 : H n = none := E_none E1 hn
  have nn : ∀ {b : Addr}, H1 b ≠ none → b ≠ n := fun {b} h z => h (by rw [z]; exact hn)
  -- the node, then the slot
  have Ra := R1.new0 (o := k.mk vs) hn
  have Rb : Rel X.K (bd X) S1 (upd H1 n (k.mk vs)) (σ.set i (some (.ref n))) (ρ1.set i .no) := Ra.setn fun j s hj q hm => by
    cases s with
    | st kk js =>
      obtain ⟨a, us, o, _, _, _, _, p⟩ := Ra.vir.st j kk js q
      obtain ⟨u, _, hb, _⟩ := paired_mem p i hm
      omega
    | al jj =>
      have e : i = jj := by simpa [Sl.on] using hm
      have := (Ra.vir.al j jj q).1
      omega
    | _ => cases hm
  have hd2 : Paired (CompR S1 H (upd H1 n (k.mk vs))) vs cs := Paired.mapP hd fun v c q => by
    cases c with
    | val x => exact q
    | new xs =>
      obtain ⟨a, ws, h1, h2, h3, h4, h5⟩ := q
      exact ⟨a, ws, h1, h2, h3, by rw [upd_ne (nn (by rw [h4]; simp))]; exact h4, h5⟩
  have hO : RoOld X.K S1 H (σ.set i (some (.ref n))) (ρ1.set i .no) := (RoOld.of hR E1).set fun _ _ z => by cases z
  have no : ∀ a ∈ newA vs cs, ¬ OwnAt (σ.set i (some (.ref n))) (ρ1.set i .no) a := fun a ha z => own_new hR (newA_in hd a ha) (E1.at.mpr (own_set rfl z))
  obtain ⟨g1, g2, g3, g4⟩ := parts_ok Rb hO hd2 nd no hnd hnl (fun m hm => by rw [List.length_set]; exact of_decide_eq_true (List.all_eq_true.mp hlt m hm)) hlen
  have e0 : (putC (ρ1.set i .no) is cs)[i]? = some .no := by
    rw [putC_out him]
    exact List.getElem?_set_self hl1
  have e1 : (setL (σ.set i (some (.ref n))) is vs)[i]? = some (some (.ref n)) := by
    rw [setL_out him]
    exact List.getElem?_set_self (by rw [hR.len]; exact hil)
  have nown : ∀ b, OwnAt (setL (σ.set i (some (.ref n))) is vs) (putC (ρ1.set i .no) is cs) b → OwnAt σ ρ b ∨ (H b = none ∧ H1 b ≠ none) := fun b z => by
    rcases g4 b z with z | z
    · exact .inl (E1.at.mpr (own_set rfl z))
    · refine .inr ⟨newA_in hd b z, ?_⟩
      have go : ∀ {vs : List V} {cs : List CV}, Paired (CompR S1 H H1) vs cs → b ∈ newA vs cs → H1 b ≠ none := by
        intro vs cs p
        induction p with
        | nil => intro h; cases h
        | cons r t ih =>
          rename_i v c _ _
          intro h
          cases c with
          | val x =>
            rw [newA_val] at h
            exact ih h
          | new xs =>
            obtain ⟨a, ws, rfl, h1, h2, h3, h4⟩ := r
            rcases List.mem_cons.mp h with rfl | h
            · rw [h3]; simp
            · exact ih h
      exact go hd z
  have hnn : ¬ OwnAt (setL (σ.set i (some (.ref n))) is vs) (putC (ρ1.set i .no) is cs) n := fun z => by
    rcases nown n z with z | ⟨_, z⟩
    · exact own_new hR hn0 z
    · exact z hn
  have Rc := g1.tello (s := .st k.sk is) e0 e1 rfl hnn (R1.sub.free hn) ⟨_, upd_same, by cases k <;> rfl⟩ (g2.at hn0) (fun xs z => by cases z)
    (fun kk js z => by
      cases z
      refine ⟨vs, _, upd_same, by cases k <;> rfl, ?_⟩
      have go : ∀ {us : List V} {js : List Nat}, (∀ m ∈ js, bd X ≤ m) → Paired (fun (v : V) (m : Nat) => (setL (σ.set i (some (.ref n))) is vs)[m]? = some (some v)) us js → Paired (fun (v : V) (m : Nat) => bd X ≤ m ∧ (setL (σ.set i (some (.ref n))) is vs)[m]? = some (some v)) us js := by
        intro us js hb p
        induction p with
        | nil => exact .nil
        | cons r t ih => exact .cons ⟨hb _ List.mem_cons_self, r⟩ (ih fun m hm => hb m (List.mem_cons_of_mem _ hm))
      exact go (fun m hm => (hv' m hm).1) g3)
    (fun C fs js d us z => by cases k <;> cases z)
  refine ⟨_, setL_vir (fun m hm => (hv' m hm).2) .refl, Rc, ?_⟩
  have hFm : ∀ j ∈ F, j ∉ is := fun j hj z => by
    have := List.all_eq_true.mp hF j z
    rw [List.contains_iff_mem.mpr hj] at this
    cases this
  refine ⟨E1.same, fun b h => ?_, fun b h h' _ => E1.stay b h h', fun b o h h' q => ?_, fun b z => ?_, fun j hj => ?_, fun j hj h => ?_⟩
  · rw [upd_ne (nn (E1.there b h))]
    exact E1.there b h
  · rw [upd_ne (nn (E1.there b (by rw [h]; simp)))]
    exact E1.keep b o h h' q
  · obtain ⟨m, u, hm, e⟩ := z
    rcases get_set hm.1 with ⟨rfl, q', _⟩ | ⟨n', q'⟩
    · rw [e1] at e
      cases e
      exact .inr hn0
    · rcases nown b ⟨m, u, ⟨q', hm.2⟩, e⟩ with z | z
      · exact .inl z
      · exact .inr z.1
  · rw [setL_out (hFm j hj), List.getElem?_set_ne fun z => hiF (by rw [z]; exact hj)]
  · have nj : i ≠ j := fun z => hiF (by rw [z]; exact hj)
    rw [List.getElem?_set_ne nj, putC_out (hFm j hj), List.getElem?_set_ne nj]
    exact (E1.kind j).mp h
def stOk (ρ : R) (i : Nat) (is : List Nat) : Bool := noLean (ρ.set i .no) is && (is.all fun m => decide (m < ρ.length)) && decide (i < ρ.length)
def tStD (k : Sq) (i : Nat) (is : List Nat) (t : VM) : VS := fun ρ Qn _ => t ρ fun cs ρ1 => is.length = cs.length ∧ cs.length ≤ sizeLine ∧ stOk ρ1 i is = true ∧ Qn ((putC (ρ1.set i .no) is cs).set i (.st k.sk is))
theorem comp_len {S' H0 H' : Hp} : ∀ {vs : List V} {cs : List CV}, Paired (CompR S' H0 H') vs cs → vs.length = cs.length
  | _, _, .nil => rfl
  | _, _, .cons _ t => congrArg (· + 1) (comp_len t)
theorem js_stL {i : Nat} {is : List Nat} {x : Str} {pos' lp : Pos} {t : VM} (nd : X.N.Nodup) (hn : Sn X i x) (hi : i ∉ F) (hv : vok X is = true) (hF : (is.all fun m => !F.contains m) = true) (h : JM X es t) (hs : swapsWith (.List es lp) (some (.Name x pos')) pos.line X.env = pure false) :
    JS X new F (.Assign [.Name x pos'] (.List es lp) pos) (tStD .lst i is t) := by
  intro σ S H ρ Qn Qr hR ht
  refine WS.vir (WS.of (ps_set nd hn.n hn.l (pe_lst paW) hs hn.f) ((h σ S H ρ _ hR ht).mono fun vs H1 q => ?_))
  obtain ⟨S1, ρ1, cs, R1, E1, d1, nd1, h1, h2, h3, q⟩ := q
  rw [stOk, Bool.and_eq_true, Bool.and_eq_true] at h3
  refine ⟨by rw [comp_len d1]; exact h2, fun n hn' => ?_⟩
  have hil : i < ρ.length := by rw [← hR.len, R1.len]; exact of_decide_eq_true h3.2
  obtain ⟨σ', v', R', X'⟩ := st_core (k := .lst) hR R1 E1 d1 nd1 hn' hn.b hil hv hi hF h1 h3.1.2 h3.1.1
  exact ⟨σ', v', S1, _, R', X', q⟩
theorem js_stT {i : Nat} {is : List Nat} {x : Str} {pos' lp : Pos} {x1 : Nat} {t : VM} (nd : X.N.Nodup) (hn : Sn X i x) (hi : i ∉ F) (hv : vok X is = true) (hF : (is.all fun m => !F.contains m) = true) (h : JM X es t) (hs : swapsWith (.Tuple es x1 lp) (some (.Name x pos')) pos.line X.env = pure false) :
    JS X new F (.Assign [.Name x pos'] (.Tuple es x1 lp) pos) (tStD .tup i is t) := by
  intro σ S H ρ Qn Qr hR ht
  refine WS.vir (WS.of (ps_set nd hn.n hn.l (pe_tup paW) hs hn.f) ((h σ S H ρ _ hR ht).mono fun vs H1 q => ?_))
  obtain ⟨S1, ρ1, cs, R1, E1, d1, nd1, h1, h2, h3, q⟩ := q
  rw [stOk, Bool.and_eq_true, Bool.and_eq_true] at h3
  refine ⟨by rw [comp_len d1]; exact h2, fun n hn' => ?_⟩
  have hil : i < ρ.length := by rw [← hR.len, R1.len]; exact of_decide_eq_true h3.2
  obtain ⟨σ', v', R', X'⟩ := st_core (k := .tup) hR R1 E1 d1 nd1 hn' hn.b hil hv hi hF h1 h3.1.2 h3.1.1
  exact ⟨σ', v', S1, _, R', X', q⟩
end
end WA

/-! WA19: ways to parts: x[0], x[0].append(e), for y in x, x[1] = x[0], comparisons. -/
namespace WA
open PySem PySem.Spec PyProof.Rows L2
abbrev PSl := R → Option Nat
def follow (ρ : R) (i : Nat) : Option Nat := match ρ[i]? with
  | none => none
  | some .no => none
  | some (.al j) => some j
  | some _ => some i
section
variable {K : PySem.W.Frag} {B : Nat} {S H : Hp} {σ : L2.St} {ρ : R}
theorem Rel.held {i : Nat} {s : Sl} (h : Rel K B S H σ ρ) (hs : ρ[i]? = some s) (n : s ≠ .no) : ∃ w, σ[i]? = some (some w) := by
  cases s with
  | no => exact absurd rfl n
  | v x =>
    obtain ⟨w, h1, _⟩ := h.val i x hs
    exact ⟨w, h1⟩
  | own xs =>
    obtain ⟨a, _, h1, _⟩ := h.own i xs hs
    exact ⟨_, h1⟩
  | ro k xs =>
    obtain ⟨a, _, h1, _⟩ := h.ro i k xs hs
    exact ⟨_, h1⟩
  | st k is =>
    obtain ⟨a, _, _, h1, _⟩ := h.vir.st i k is hs
    exact ⟨_, h1⟩
  | al j =>
    obtain ⟨_, w, h1, _⟩ := h.vir.al i j hs
    exact ⟨w, h1⟩
theorem Rel.follow {i m : Nat} (h : Rel K B S H σ ρ) (hf : follow ρ i = some m) : ∃ w, σ[i]? = some (some w) ∧ σ[m]? = some (some w) := by
  unfold WA.follow at hf
  cases e : ρ[i]? with
  | none => rw [e] at hf; cases hf
  | some s =>
    rw [e] at hf
    cases s with
    | no => cases hf
    | al j =>
      cases hf
      obtain ⟨_, w, h1, h2⟩ := h.vir.al i _ e
      exact ⟨w, h1, h2⟩
    | v x =>
      cases hf
      obtain ⟨w, h1⟩ := h.held e (fun z => by cases z)
      exact ⟨w, h1, h1⟩
    | own x =>
      cases hf
      obtain ⟨w, h1⟩ := h.held e (fun z => by cases z)
      exact ⟨w, h1, h1⟩
    | ro k x =>
      cases hf
      obtain ⟨w, h1⟩ := h.held e (fun z => by cases z)
      exact ⟨w, h1, h1⟩
    | st k x =>
      cases hf
      obtain ⟨w, h1⟩ := h.held e (fun z => by cases z)
      exact ⟨w, h1, h1⟩
end
def JP (X : Cx) (e : Expr) (tp : PSl) : Prop := ∀ σ S H ρ m, Rel X.K (bd X) S H σ ρ → tp ρ = some m → W X e σ H fun v H' => H' = H ∧ σ[m]? = some (some v)
def pNm (i : Nat) : PSl := fun ρ => follow ρ i
def pSub (tp : PSl) (c : Nat) : PSl := fun ρ => match tp ρ with
  | some i => match ρ[i]? with
    | some (.st .lst is) => match is[c]? with
      | some m => follow ρ m
      | none => none
    | some (.st .tup is) => match is[c]? with
      | some m => follow ρ m
      | none => none
    | _ => none
  | none => none
theorem paired_at {α β : Type} {P : α → β → Prop} : ∀ {xs : List α} {ys : List β} {c : Nat} {y : β}, Paired P xs ys → ys[c]? = some y → ∃ x, xs[c]? = some x ∧ P x y
  | _, _, _, _, .nil, h => by simp at h
  | _, _, 0, _, .cons r _, h => by
    simp at h
    subst h
    exact ⟨_, rfl, r⟩
  | _, _, c + 1, _, .cons _ t, h => by
    obtain ⟨x, h1, h2⟩ := paired_at (c := c) t (by simpa using h)
    exact ⟨x, by simpa using h1, h2⟩
section
variable {X : Cx} {pos p : Pos} {e a : Expr} {ta : VT} {tp : PSl}
theorem jp_nm {i : Nat} {x : Str} (hn : Nm X i x) : JP X (.Name x p) (pNm i) := by
  intro σ S H ρ m hR ht
  obtain ⟨w, h1, h2⟩ := hR.follow ht
  exact W.of hn.pe ⟨w, h1, rfl, h2⟩
theorem jp_sub {c j : Nat} {pc : Pos} (h : JP X e tp) : JP X (.Subscript e (.Constant (.int (c : Nat)) j pc) pos) (pSub tp c) := by
  intro σ S H ρ m hR ht
  refine W.of (pe_ix ix_seq peW pe_int (fun _ _ => rfl)) ?_
  unfold pSub at ht
  split at ht
  · rename_i i ei
    refine (h σ S H ρ i hR ei).mono fun v H1 q => ?_
    obtain ⟨rfl, hv⟩ := q
    split at ht
    · rename_i is es
      split at ht
      · rename_i k ek
        obtain ⟨a', vs, o, e1, e2, e3, e4, e5⟩ := hR.vir.st i .lst is es
        rw [hv] at e1
        cases e1
        have e4 : o = .lst vs := e4
        subst e4
        obtain ⟨y, h1, _, h2⟩ := paired_at e5 ek
        obtain ⟨w, g1, g2⟩ := hR.follow ht
        rw [h2] at g1
        cases g1
        exact .inl ⟨a', vs, (c : Nat), y, rfl, rfl, SqL.of e3, atI_nat h1, rfl, g2⟩
      · cases ht
    · rename_i is es
      split at ht
      · rename_i k ek
        obtain ⟨a', vs, o, e1, e2, e3, e4, e5⟩ := hR.vir.st i .tup is es
        rw [hv] at e1
        cases e1
        have e4 : o = .tup vs := e4
        subst e4
        obtain ⟨y, h1, _, h2⟩ := paired_at e5 ek
        obtain ⟨w, g1, g2⟩ := hR.follow ht
        rw [h2] at g1
        cases g1
        exact .inr (.inl ⟨a', vs, (c : Nat), y, rfl, rfl, .of e3, atI_nat h1, rfl, g2⟩)
      · cases ht
    · cases ht
  · cases ht
/-! ### as operands -/
def tSl (m : Nat) : VT := fun ρ Q => match ρ[m]? with
  | some (.v x) => Q (.val x) ρ
  | some (.own _) => Q (.slot m) ρ
  | some (.ro _ _) => Q (.slot m) ρ
  | _ => False
def tPath (tp : PSl) : VT := fun ρ Q => match tp ρ with
  | some m => tSl m ρ Q
  | none => False
theorem jt_path (h : JP X e tp) : JT X e (tPath tp) := by
  intro σ S H ρ Q hR ht
  unfold tPath at ht
  split at ht
  · rename_i m em
    refine (h σ S H ρ m hR em).mono fun v H1 q => ?_
    obtain ⟨rfl, hv⟩ := q
    unfold tSl at ht
    split at ht
    · rename_i x ex
      obtain ⟨w, h1, h2⟩ := hR.val m x ex
      rw [hv] at h1
      cases h1
      exact ⟨S, ρ, .val x, hR, .refl, h2, ht⟩
    · exact ⟨S, ρ, .slot m, hR, .refl, hv, ht⟩
    · exact ⟨S, ρ, .slot m, hR, .refl, hv, ht⟩
    · exact ht.elim
  · exact ht.elim
/-! ### changed -/
def tAt (tp : PSl) (f : Nat → VE) : VE := fun ρ Q => match tp ρ with
  | some m => f m ρ Q
  | none => False
theorem je_appP {apos : Pos} (h : JP X e tp) (ha : JT X a ta) (hs : notStar a = true) (hba : attributeBase e "append" X.env (eval e X.env) = eval e X.env) (hl : (apos.endLine == pos.line) = true) : JE X (.Call (.Attribute e "append" apos) [a] [] pos) (tAt tp fun i => tApp i ta) := by
  intro σ S H ρ Q hR ht
  unfold tAt at ht
  split at ht
  · rename_i i ei
    obtain ⟨⟨zs, hz⟩, ht⟩ := ht
    obtain ⟨l, ws, l1, l2, l3, l4⟩ := hR.own i zs hz
    refine W.of (pe_bm PySem.F.plainAttrs_list PySem.F.slot_list_append PySem.F.type_list_append mt_append peW (pa_cons peW pa_nil (star_cons hs)) hba (few1 hs) hl (star_cons hs) rfl) ((h σ S H ρ i hR ei).mono fun v H1 q => ?_)
    obtain ⟨rfl, hv⟩ := q
    rw [l1] at hv
    cases hv
    refine ⟨.inl ⟨rfl, _, SqL.of l3⟩, (ha σ S H1 ρ _ hR ht).mono fun v H1 q => ?_⟩
    obtain ⟨S1, ρ1, u, R1, E1, d1, q1⟩ := q
    split at q1
    · rename_i d xs e
      obtain ⟨b, vs, b1, b2, b3, b4⟩ := R1.own i xs e
      rw [l1] at b1
      cases b1
      refine ⟨l, vs, v, rfl, rfl, b3, by rw [rps_len b4]; exact q1.1, S1, _, _, R1.put e l1 (rps_app b4 (rps_one d1)), E1.trans (.put R1 e l1), .non, q1.2⟩
    · exact q1.elim
  · exact ht.elim
theorem je_popP {apos : Pos} (h : JP X e tp) (hba : attributeBase e "pop" X.env (eval e X.env) = eval e X.env) (hl : (apos.endLine == pos.line) = true) : JE X (.Call (.Attribute e "pop" apos) [] [] pos) (tAt tp tPop) := by
  intro σ S H ρ Q hR ht
  unfold tAt at ht
  split at ht
  · rename_i i ei
    unfold tPop at ht
    split at ht
    · rename_i xs e
      obtain ⟨l, vs, l1, l2, l3, l4⟩ := hR.own i xs e
      obtain ⟨d, hd, ht⟩ := ht
      obtain ⟨v, hv, hr⟩ := rps_get l4 hd
      refine W.of (pe_bm0 PySem.F.plainAttrs_list PySem.F.slot_list_pop PySem.F.type_list_pop mt_pop peW hba hl) ((h σ S H ρ i hR ei).mono fun w H1 q => ?_)
      obtain ⟨rfl, hw⟩ := q
      rw [l1] at hw
      cases hw
      exact ⟨.inl ⟨rfl, _, SqL.of l3⟩, l, vs, v, rfl, rfl, l3, by rw [rps_len l4]; exact hv, S, _, d, hR.put e l1 (rps_dropLast l4), .put hR e l1, hr, ht⟩
    · exact ht.elim
  · exact ht.elim
theorem je_clrP {apos : Pos} (h : JP X e tp) (hba : attributeBase e "clear" X.env (eval e X.env) = eval e X.env) (hl : (apos.endLine == pos.line) = true) : JE X (.Call (.Attribute e "clear" apos) [] [] pos) (tAt tp tClr) := by
  intro σ S H ρ Q hR ht
  unfold tAt at ht
  split at ht
  · rename_i i ei
    unfold tClr at ht
    split at ht
    · rename_i xs e
      obtain ⟨l, vs, l1, l2, l3, l4⟩ := hR.own i xs e
      refine W.of (pe_bm0 PySem.F.plainAttrs_list PySem.F.slot_list_clear PySem.F.type_list_clear mt_clear peW hba hl) ((h σ S H ρ i hR ei).mono fun w H1 q => ?_)
      obtain ⟨rfl, hw⟩ := q
      rw [l1] at hw
      cases hw
      exact ⟨.inl ⟨rfl, _, SqL.of l3⟩, l, vs, rfl, rfl, l3, S, _, .none, hR.put e l1 .nil, .put hR e l1, .non, ht⟩
    · exact ht.elim
  · exact ht.elim
end
/-! ### what stands in a slot, parts and all -/
mutual
def contF : Nat → R → Nat → Option D
  | 0, _, _ => none
  | f + 1, ρ, m => match ρ[m]? with
    | some (.v x) => some x
    | some (.own xs) => some (.list xs)
    | some (.ro _ xs) => some (.list xs)
    | some (.st .lst is) => (contL f ρ is).map .list
    | some (.st .tup is) => (contL f ρ is).map .tuple
    | some (.al j) => contF f ρ j
    | _ => none
def contL : Nat → R → List Nat → Option (List D)
  | _, _, [] => some []
  | f, ρ, m :: ms => match contF f ρ m, contL f ρ ms with
    | some x, some xs => some (x :: xs)
    | _, _ => none
end
section
variable {K : PySem.W.Frag} {B : Nat} {S H : Hp} {σ : L2.St} {ρ : R}
theorem contL_dp (ih : ∀ {m : Nat} {x : D} {v : V}, contF f ρ m = some x → σ[m]? = some (some v) → Dp K H v x) : ∀ {is : List Nat} {vs : List V} {xs : List D}, contL f ρ is = some xs → Paired (fun (v : V) (m : Nat) => B ≤ m ∧ σ[m]? = some (some v)) vs is → DpAll K H vs xs
  | [], _, _, h, .nil => by
    rw [contL] at h
    cases h
    exact .nil
  | m :: ms, _, xs, h, .cons r t => by
    rw [contL] at h
    split at h
    · rename_i x ys e1 e2
      cases h
      exact .cons (ih e1 r.2) (contL_dp ih e2 t)
    · cases h
theorem cont_dp (hR : Rel K B S H σ ρ) : ∀ {f : Nat} {m : Nat} {x : D} {v : V}, contF f ρ m = some x → σ[m]? = some (some v) → Dp K H v x
  | 0, _, _, _, h, _ => by
    rw [contF] at h
    cases h
  | f + 1, m, x, v, h, hv => by
    rw [contF] at h
    split at h
    · rename_i y e
      cases h
      obtain ⟨w, h1, h2⟩ := hR.val m x e
      rw [hv] at h1
      cases h1
      exact (h2.mono hR.sub).dp
    · rename_i ys e
      cases h
      obtain ⟨a, vs, h1, h2, h3, h4⟩ := hR.own m ys e
      rw [hv] at h1
      cases h1
      exact .lst (.of h3) (h4.mono hR.sub).dp
    · rename_i k ys e
      cases h
      obtain ⟨a, vs, h1, h2, h3⟩ := hR.ro m k ys e
      rw [hv] at h1
      cases h1
      exact .lst h2.seq (h3.mono hR.sub).dp
    · rename_i is e
      cases q : contL f ρ is with
      | none => rw [q] at h; cases h
      | some xs =>
        rw [q] at h
        cases h
        obtain ⟨a, vs, o, e1, e2, e3, e4, e5⟩ := hR.vir.st m .lst is e
        rw [hv] at e1
        cases e1
        have e4 : o = .lst vs := e4
        subst e4
        exact .lst (.of e3) (contL_dp (fun h1 h2 => cont_dp hR h1 h2) q e5)
    · rename_i is e
      cases q : contL f ρ is with
      | none => rw [q] at h; cases h
      | some xs =>
        rw [q] at h
        cases h
        obtain ⟨a, vs, o, e1, e2, e3, e4, e5⟩ := hR.vir.st m .tup is e
        rw [hv] at e1
        cases e1
        have e4 : o = .tup vs := e4
        subst e4
        exact .tup (.of e3) (contL_dp (fun h1 h2 => cont_dp hR h1 h2) q e5)
    · rename_i j e
      obtain ⟨_, w, h1, h2⟩ := hR.vir.al m j e
      rw [hv] at h1
      cases h1
      exact cont_dp hR h h2
    · cases h
end
/-! ### x == y, x != y, where x is made of parts -/
section
variable {X : Cx} {pos p : Pos} {a b : Expr} {tb : VT} {tp : PSl}
def vEqP (op : COp) (x y : Option D) (Q : Bool → Prop) : Prop := match op, x, y with
  | .eq, some x, some y => (SeqAt.shaped x = true ∧ SeqAt.shaped y = true) ∧ Q (PyData.eqv x y)
  | .ne, some x, some y => (SeqAt.shaped x = true ∧ SeqAt.shaped y = true) ∧ Q (!PyData.eqv x y)
  | _, _, _ => False
def tCmpP (op : COp) (tp : PSl) (tb : VT) : VE := fun ρ Q => match tp ρ with
  | some m => tb ρ fun w ρ1 => vEqP op (contF 9 ρ1 m) (deref ρ1 w) fun r => Q (.bool r) ρ1
  | none => False
theorem cmpP_core {op : COp} {σ : L2.St} {S H : Hp} {ρ : R} {v w : V} {z : AV} {m : Nat} {Q : VK} {P : Bool → Prop} (hu : X.A.units + 64 < cLine) (R : Rel X.K (bd X) S H σ ρ) (d1 : σ[m]? = some (some v)) (d2 : ARep X.K S σ w z) (h : vEqP op (contF 9 ρ m) (deref ρ z) P) (hq : ∀ k, P k → Q (.bl k) H) : WO X (compareOp op.op) v w H Q := by
  unfold vEqP at h
  split at h
  · rename_i x y e1 e2
    exact WO.of (op_eqD hu) ⟨x, y, cont_dp R e1 d1, d2.dp R e2, h.1.1, h.1.2, hq _ h.2⟩
  · rename_i x y e1 e2
    exact WO.of (op_neD hu) ⟨x, y, cont_dp R e1 d1, d2.dp R e2, h.1.1, h.1.2, hq _ h.2⟩
  · exact h.elim
theorem je_cmpP {op : COp} (hu : X.A.units + 64 < cLine) (ha : JP X a tp) (hb : JT X b tb) (hm : behindInMarks op.op b = false) : JE X (.Compare a [op.op] [b] pos) (tCmpP op tp tb) := by
  intro σ S H ρ Q hR ht
  unfold tCmpP at ht
  split at ht
  · rename_i m em
    refine W.of (pe_cmpR opW peW peW hm) ((ha σ S H ρ m hR em).mono fun v H1 q => ?_)
    obtain ⟨rfl, hv⟩ := q
    refine (hb σ S H1 ρ _ hR ht).mono fun w H2 q => ?_
    obtain ⟨S2, ρ2, z, R2, E2, d2, q2⟩ := q
    exact cmpP_core hu R2 hv d2 q2 fun k hk => ⟨S2, ρ2, _, R2, E2, .bl k, hk⟩
  · exact ht.elim
theorem jc_cmpP {op : COp} (hu : X.A.units + 64 < cLine) (ha : JP X a tp) (hb : JT X b tb) (hm : behindInMarks op.op b = false) : JC X (.Compare a [op.op] [b] pos) (cOf (vT (tCmpP op tp tb))) := by
  intro σ S H ρ Q hR ht
  have ht : tCmpP op tp tb ρ fun x ρ' => match x with
    | .bool b => Q b ρ'
    | _ => False := ht
  unfold tCmpP at ht
  split at ht
  · rename_i m em
    refine WT.of (pt_cmpR opW peW peW hm) ((ha σ S H ρ m hR em).mono fun v H1 q => ?_)
    obtain ⟨rfl, hv⟩ := q
    refine (hb σ S H1 ρ _ hR ht).mono fun w H2 q => ?_
    obtain ⟨S2, ρ2, z, R2, E2, d2, q2⟩ := q
    exact cmpP_core hu R2 hv d2 q2 fun k hk => ⟨k, rfl, S2, ρ2, R2, E2, hk⟩
  · exact ht.elim
/-! str of what is made of parts -/
def tStrP (tp : PSl) : VE := fun ρ Q => match tp ρ with
  | some m => match contF 9 ρ m with
    | some x => isSeqD x = true ∧ strOk x ∧ Q (.str x.shown) ρ
    | none => False
  | none => False
theorem je_strP (hgd : X.A.guards = some []) (hu : X.A.units + 64 < cLine) (hg : Gl X "str") (hm : X.mg "str" = none) (ha : JP X a tp) (hs : notStar a = true) : JE X (.Call (.Name "str" p) [a] [] pos) (tStrP tp) := by
  intro σ S H ρ Q hR ht
  unfold tStrP at ht
  split at ht
  · rename_i m em
    split at ht
    · rename_i x ex
      refine W.of (pe_callTy (T := "str") (cr_strD hgd hu) hg hm (by decide +kernel) (pa_cons peW pa_nil (star_cons hs)) (by decide) (by decide) (star_cons hs) rfl) ((ha σ S H ρ m hR em).mono fun v H1 q => ?_)
      obtain ⟨rfl, hv⟩ := q
      obtain ⟨h1, h2, q1⟩ := ht
      have dp := cont_dp hR ex hv
      refine ⟨v, x, rfl, dp, ?_, h2, S, ρ, _, hR, .refl, .str _, q1⟩
      cases dp <;> first | exact ⟨_, rfl⟩ | cases h1
    · exact ht.elim
  · exact ht.elim
end
end WA

/-! WA20: for y in x, x[1] = x[0], x[1][k] = e, where x is made of parts. -/
namespace WA
open PySem PySem.Spec PyProof.Rows L2
section
variable {K : PySem.W.Frag} {B : Nat} {S H : Hp} {σ : L2.St} {ρ : R}
theorem Rel.free_lt {i : Nat} (h : Rel K B S H σ ρ) (hi : i < B) : freeAt ρ i i := fun j s _ q hm => by
  cases s with
  | st kk js =>
    obtain ⟨a, us, o, _, _, _, _, p⟩ := h.vir.st j kk js q
    obtain ⟨u, _, hb, _⟩ := paired_mem p i hm
    omega
  | al jj =>
    have e : i = jj := by simpa [Sl.on] using hm
    have := (h.vir.al j jj q).1
    omega
  | _ => cases hm
theorem paired_len {α β : Type} {P : α → β → Prop} : ∀ {xs : List α} {ys : List β}, Paired P xs ys → xs.length = ys.length
  | _, _, .nil => rfl
  | _, _, .cons _ t => congrArg (· + 1) (paired_len t)
theorem Rel.follow_le {m k : Nat} (h : Rel K B S H σ ρ) (hf : WA.follow ρ m = some k) (hm : B ≤ m) : B ≤ k := by
  unfold WA.follow at hf
  cases e : ρ[m]? with
  | none => rw [e] at hf; cases hf
  | some s =>
    rw [e] at hf
    cases s with
    | no => cases hf
    | al j =>
      cases hf
      exact (h.vir.al m _ e).1
    | _ => cases hf; exact hm
end
/-! ### for -/
def stLoop (g t : Nat) (all : List Nat) (body : VS) : List Nat → R → (R → Prop) → (D → R → Prop) → Prop
  | [], ρ, Qn, _ => ρ[g]? = some (.st .lst all) ∧ Qn ρ
  | m :: ms, ρ, Qn, Qr => ρ[g]? = some (.st .lst all) ∧ decide (t < ρ.length) = true ∧ ∃ k, follow ρ m = some k ∧ body (ρ.set t (.al k)) (fun ρ2 => stLoop g t all body ms ρ2 Qn Qr) Qr
def tForSt (F' : List Nat) (tp : PSl) (t : Nat) (body : VS) : VS := fun ρ Qn Qr => match tp ρ with
  | some g => match ρ[g]? with
    | some (.st .lst is) => (F'.contains g && !F'.contains t) = true ∧ stLoop g t is body is ρ Qn Qr
    | _ => False
  | none => False
section
variable {X : Cx} {new : Fs} {F : List Nat} {pos : Pos} {e : Expr} {tp : PSl}
theorem js_forSt {F' : List Nat} {t : Nat} {tgE iter : Expr} {body : List Stmt} {tb : VS} (hB : decide (t < bd X) = true) (hp : PassesOwn (model X.prog X.w) X.A X.env X.xe) (hc : X.calm = true) (hi : JP X iter tp) (hg : PG X tgE (gT X.K (.one t))) (hb : JSs X new F' body tb) (hF : ∀ i ∈ F, i ∈ F')
    (hs : ∀ x, foldedSetIterable iter X.env x = pure x) : JS X new F (.For tgE iter body [] pos) (tForSt F' tp t tb) := by
  intro σ S H ρ Qn Qr hR ht
  have hB := of_decide_eq_true hB
  unfold tForSt at ht
  split at ht
  · rename_i g eg
    split at ht
    · rename_i is es
      obtain ⟨hgt, hl⟩ := ht
      rw [Bool.and_eq_true] at hgt
      have hgF : g ∈ F' := List.contains_iff_mem.mp hgt.1
      have htF : t ∉ F' := fun z => by
        have := hgt.2
        rw [List.contains_iff_mem.mpr z] at this
        cases this
      refine WS.of (ps_for hp hc piW hg pssW hs) (WIt.of (pi_list peW) ((hi σ S H ρ g hR eg).mono fun v H1 q => ?_))
      obtain ⟨rfl, hv⟩ := q
      obtain ⟨a, vs, o, e1, e2, e3, e4, e5⟩ := hR.vir.st g .lst is es
      rw [hv] at e1
      cases e1
      have e4 : o = .lst vs := e4
      subst e4
      have now : ∀ {σc : L2.St} {S' Hc : Hp} {ρ' : R}, Rel X.K (bd X) S' Hc σc ρ' → σc[g]? = σ[g]? → ρ'[g]? = some (.st .lst is) → ∃ us, Hc a = some (.lst us) ∧ Paired (fun (v : V) (m : Nat) => bd X ≤ m ∧ σc[m]? = some (some v)) us is := fun {σc S' Hc ρ'} R' hf q => by
        obtain ⟨a', us, o', f1, f2, f3, f4, f5⟩ := R'.vir.st g .lst is q
        rw [hf, hv] at f1
        cases f1
        have f4 : o' = .lst us := f4
        subst f4
        exact ⟨us, f3, f5⟩
      refine ⟨a, rfl, ⟨vs, SqL.of e3⟩, fun i m σc Hc => m = is.length - i ∧ i ≤ is.length ∧ ∃ S' ρ', Rel X.K (bd X) S' Hc σc ρ' ∧ XS F' σ S H1 ρ σc S' Hc ρ' ∧ stLoop g t is tb (is.drop i) ρ' Qn Qr,
        ⟨is.length, by simp, Nat.zero_le _, S, ρ, hR, .refl, hl⟩, ?_⟩
      rintro i m σc Hc ⟨rfl, hle, S', ρ', R', E', hl⟩
      by_cases hlt : i < is.length
      · rw [List.drop_eq_getElem_cons hlt] at hl
        obtain ⟨hst, htl, k, hk, hl⟩ := hl
        obtain ⟨us, hus, hps⟩ := now R' (E'.fix g hgF) hst
        obtain ⟨y, hy, hyB, hys⟩ := paired_at hps (List.getElem?_eq_getElem hlt)
        refine .inr ⟨⟨us, y, SqL.of hus, hy⟩, fun σn Hn => ∃ S' ρ', Rel X.K (bd X) S' Hn σn ρ' ∧ XS F' σ S H1 ρ σn S' Hn ρ' ∧ stLoop g t is tb (is.drop (i + 1)) ρ' Qn Qr, fun σn Hn hn => ⟨is.length - (i + 1), by omega, rfl, hlt, hn⟩, fun x H' yy => ?_⟩
        obtain ⟨rfl, yy⟩ := yy
        have ex : x = y := Option.some.inj ((yy us (SqL.of hus)).symm.trans hy)
        subst ex
        show (fun σ2 H2 => WSs X body _ σ2 H2) (σc.set t (some x)) H'
        obtain ⟨w, f1, f2⟩ := R'.follow hk
        rw [hys] at f1
        cases f1
        have hkB : bd X ≤ k := R'.follow_le hk hyB
        have htl := of_decide_eq_true htl
        have Ra := R'.setn (i := t) (v := some x) (R'.free_lt hB)
        have Rb := Ra.tella (i := t) (j := k) (v := x) (List.getElem?_set_self htl) (List.getElem?_set_self (by rw [R'.len]; exact htl)) hkB (by rw [List.getElem?_set_ne (by omega)]; exact f2)
        rw [List.set_set] at Rb
        have Ex : XS F' σc S' H' ρ' (σc.set t (some x)) S' H' (ρ'.set t (.al k)) := xs_set htF rfl
        refine (hb (σc.set t (some x)) S' H' _ _ Qr Rb hl).mono (fun σ3 H3 q => ?_) (fun v H3 q => ?_) (fun _ _ q => q.elim) (fun _ _ q => q.elim)
        · obtain ⟨S3, ρ3, R3, E3, q⟩ := q
          exact ⟨S3, ρ3, R3, (E'.trans Ex).trans E3, q⟩
        · exact endsS_weak (Qn := Qn) hF (ends_rt (Qn := Qn) (E'.trans Ex) q)
      · have e : i = is.length := by omega
        subst e
        rw [List.drop_length] at hl
        obtain ⟨hst, hl⟩ := hl
        obtain ⟨us, hus, hps⟩ := now R' (E'.fix g hgF) hst
        exact .inl ⟨⟨us, SqL.of hus, by rw [paired_len hps]; exact Nat.le_refl _⟩, S', ρ', R', E'.weak hF, hl⟩
    · exact ht.elim
  · exact ht.elim
end
theorem ixN_at' {n c : Nat} (h : c < n) : ixN n ((c : Nat) : Int) = some c := by
  unfold ixN
  rw [if_pos (by omega), if_pos (by omega), Int.toNat_natCast]
/-! ### path[k] = e -/
section
variable {X : Cx} {new : Fs} {F : List Nat} {pos : Pos} {e pe : Expr} {tp : PSl}
def tSetIxP (tp : PSl) (tk tv : VT) : VS := fun ρ Qn _ => tv ρ fun u ρ1 => match tp ρ1 with
  | some i => isOwn ρ1 i ∧ tk ρ1 fun w ρ2 => (match u, deref ρ2 w, ρ2[i]? with
    | .val d, some (.int k), some (.own xs) => ∃ j, ixN xs.length k = some j ∧ Qn (ρ2.set i (.own (xs.set j d)))
    | _, _, _ => False)
  | none => False
theorem js_setIxP {pos' : Pos} {k : Expr} {tk tv : VT} (hp : JP X pe tp) (hk : JT X k tk) (hv : JT X e tv) (hs : swapsWithSole [.Subscript pe k pos'] e pos.line X.env = pure false) (hw : swappedStores [.Subscript pe k pos'] e X.env = pure none)
    (h1 : (assignEach [.Subscript pe k pos'] X.env).map (·.2) = [assign (.Subscript pe k pos') X.env])
    (ha : ∀ v, assign (.Subscript pe k pos') X.env v = (do
      let ov ← holding [v] (eval pe X.env)
      let iv ← holding [v, ov] (eval k X.env)
      standAt pos'
      holding [v, ov, iv] (setItem ov iv v)
      release [v, ov, iv] [])) : JS X new F (.Assign [.Subscript pe k pos'] e pos) (tSetIxP tp tk tv) := by
  intro σ S H ρ Qn Qr hR ht
  refine WS.of (ps_asg peW (pg_sub peW peW set_list ha) hs hw h1) ((hv σ S H ρ _ hR ht).mono fun v H1 q => ?_)
  obtain ⟨S1, ρ1, u, R1, E1, d1, q1⟩ := q
  split at q1
  · rename_i i ei
    obtain ⟨⟨zs, hz⟩, q1⟩ := q1
    refine (hp σ S1 H1 ρ1 i R1 ei).mono fun o H2 q => ?_
    obtain ⟨rfl, ho⟩ := q
    refine (hk σ S1 H2 ρ1 _ R1 q1).mono fun y H3 q => ?_
    obtain ⟨S2, ρ2, w, R2, E2, d2, q2⟩ := q
    split at q2
    · rename_i _ _ _ d kk xs ek ex
      obtain ⟨c, vs, c1, c2, c3, c4⟩ := R2.own i xs ex
      obtain ⟨j, ej, q2⟩ := q2
      rw [ho] at c1
      cases c1
      have d1 : Rp S1 v d := d1
      exact ⟨c, vs, kk, j, rfl, d2.int ek, c3, by rw [rps_len c4]; exact ej, S2, _, R2.put ex ho (rps_set j c4 (d1.mono E2.same)), ((E1.trans E2).trans (Ext.put R2 ex ho)).xs, q2⟩
    · exact q2.elim
  · exact q1.elim
end
/-! ### x[c] = another part -/
section
variable {K : PySem.W.Frag} {B : Nat} {S H : Hp} {σ : L2.St} {ρ : R}
theorem VRel.to3 {B : Nat} {S H S' H' : Hp} {σ σ' : L2.St} {ρ ρ' : R} (v : VRel B S H σ ρ) (h1 : ∀ (i : Nat) (s : Sl), ρ'[i]? = some s → s.leans = true → ρ[i]? = some s ∧ σ'[i]? = σ[i]?) (h2 : ∀ m, B ≤ m → σ'[m]? = σ[m]?)
    (h3 : ∀ (i : Nat) (k : SK) (is : List Nat) (a : Addr) (o : HO), ρ'[i]? = some (.st k is) → ρ[i]? = some (.st k is) → σ[i]? = some (some (.ref a)) → S a = none → H a = some o → S' a = none ∧ H' a = some o)
    (h4 : ∀ (d c : Addr), H d = some (.own c) → S d = none → ¬ OwnAt σ ρ d → S' d = none ∧ H' d = some (.own c) ∧ ¬ OwnAt σ' ρ' d) : VRel B S' H' σ' ρ' where
  st := fun i k is h => by
    obtain ⟨g1, g2⟩ := h1 i _ h rfl
    obtain ⟨a, vs, o, e1, e2, e3, e4, e5⟩ := v.st i k is g1
    obtain ⟨f1, f2⟩ := h3 i k is a o h g1 e1 e2 e3
    refine ⟨a, vs, o, by rw [g2]; exact e1, f1, f2, ?_, Paired.mapP e5 fun v m q => ⟨q.1, by rw [h2 m q.1]; exact q.2⟩⟩
    cases k with
    | lst => exact e4
    | tup => exact e4
    | ins C fs =>
      obtain ⟨l, d, rfl, hd⟩ := e4
      obtain ⟨q1, q2⟩ := v.dx i C fs is a d _ g1 e1 e3
      exact ⟨l, d, rfl, (h4 d _ hd q1 q2).2.1⟩
  al := fun i j h => by
    obtain ⟨g1, g2⟩ := h1 i _ h rfl
    obtain ⟨e1, w, e2, e3⟩ := v.al i j g1
    exact ⟨e1, w, by rw [g2]; exact e2, by rw [h2 j e1]; exact e3⟩
  dx := fun i C fs is a d us h ha hH => by
    obtain ⟨g1, g2⟩ := h1 i _ h rfl
    rw [g2] at ha
    obtain ⟨a', vs, o, e1, e2, e3, e4, e5⟩ := v.st i _ is g1
    rw [ha] at e1
    cases e1
    obtain ⟨f1, f2⟩ := h3 i _ is a o h g1 ha e2 e3
    rw [hH] at f2
    cases f2
    obtain ⟨l, d', q, hd⟩ := e4
    cases q
    obtain ⟨q1, q2⟩ := v.dx i C fs is a d _ g1 ha e3
    obtain ⟨r1, _, r2⟩ := h4 d _ hd q1 q2
    exact ⟨r1, r2⟩
/-- a thing made of parts is forgotten while its place is written -/
theorem Rel.updSt {g : Nat} {k : SK} {is : List Nat} {a : Addr} {o : HO} (h : Rel K B S H σ ρ) (hg : ρ[g]? = some (.st k is)) (ha : σ[g]? = some (some (.ref a))) : Rel K B S (upd H a o) σ (ρ.set g .no) := by
  have hgl : g < ρ.length := (List.getElem?_eq_some_iff.mp hg).1
  obtain ⟨a', vs, o', e1, e2, e3, e4, e5⟩ := h.vir.st g k is hg
  rw [ha] at e1
  cases e1
  have oa : ∀ {b : Addr}, OwnAt σ (ρ.set g .no) b → OwnAt σ ρ b := fun {b} ⟨m, u, hm, e⟩ => by
    rcases get_set hm.1 with ⟨rfl, q', _⟩ | ⟨n', q'⟩
    · have := hm.2
      rw [q'] at this; cases this
    · exact ⟨m, u, ⟨q', hm.2⟩, e⟩
  have ne : ∀ {j : Nat} {s : Sl} {b : Addr}, j ≠ g → Ow ρ j s → σ[j]? = some (some (.ref b)) → b ≠ a := fun {j s b} n q e z => n (h.sep j g _ _ b q ⟨hg, rfl⟩ e (by rw [z]; exact ha))
  refine ⟨by rw [List.length_set]; exact h.len, fun b x e => ?_, fun j x hx => ?_, fun j zs hx => ?_, fun j kk zs hx => ?_, fun j kk s t b h1 h2 h3 h4 => ?_, ?_⟩
  · rw [upd_ne (ne_of_none e e2)]
    exact h.sub _ _ e
  · rcases get_set hx with ⟨rfl, q, _⟩ | ⟨n, q⟩
    · cases q
    · exact h.val j x q
  · rcases get_set hx with ⟨rfl, q, _⟩ | ⟨n, q⟩
    · cases q
    · obtain ⟨b, ws, b1, b2, b3, b4⟩ := h.own j zs q
      exact ⟨b, ws, b1, b2, by rw [upd_ne (ne n (ow q) b1)]; exact b3, b4⟩
  · rcases get_set hx with ⟨rfl, q, _⟩ | ⟨n, q⟩
    · cases q
    · obtain ⟨b, ws, b1, b2, b3⟩ := h.ro j kk zs q
      refine ⟨b, ws, b1, b2.to (fun u e nn => ?_) (fun _ z => oa z), b3⟩
      rw [upd_ne (fun z => nn ⟨g, _, ⟨hg, rfl⟩, by rw [z]; exact ha⟩)]
      exact e
  · rcases get_set h1.1 with ⟨rfl, q, _⟩ | ⟨n1, q1⟩
    · have := h1.2
      rw [q] at this; cases this
    · rcases get_set h2.1 with ⟨rfl, q, _⟩ | ⟨n2, q2⟩
      · have := h2.2
        rw [q] at this; cases this
      · exact h.sep _ _ _ _ b ⟨q1, h1.2⟩ ⟨q2, h2.2⟩ h3 h4
  · refine h.vir.to3 (fun j s q l => ?_) (fun _ _ => rfl) (fun j kk js b u q0 q1 q2 q3 q4 => ⟨q3, ?_⟩) (fun d c q1 q2 n => ⟨q2, ?_, fun z => n (oa z)⟩)
    · rcases get_set q with ⟨rfl, q, _⟩ | ⟨n, q⟩
      · rw [q] at l; cases l
      · exact ⟨q, rfl⟩
    · rcases get_set q0 with ⟨rfl, q, _⟩ | ⟨n, q⟩
      · cases q
      · rw [upd_ne (ne n ⟨q1, rfl⟩ q2)]
        exact q4
    · rw [upd_ne (fun z => ?_)]
      · exact q1
      · rw [z, e3] at q1
        cases q1
        cases k with
        | lst => cases e4
        | tup => cases e4
        | ins C fs =>
          obtain ⟨_, d', q, _⟩ := e4
          cases q
end
section
variable {X : Cx} {new : Fs} {F : List Nat} {pos : Pos} {e : Expr} {tp : PSl}
theorem pSub_le {c : Nat} {σ : L2.St} {S H : Hp} {ρ : R} {j : Nat} (hR : Rel X.K (bd X) S H σ ρ) (h : pSub tp c ρ = some j) : bd X ≤ j := by
  unfold pSub at h
  split at h
  · rename_i i ei
    split at h
    · rename_i is es
      split at h
      · rename_i m em
        obtain ⟨_, vs, _, _, _, _, _, e5⟩ := hR.vir.st i _ is es
        obtain ⟨_, _, hb, _⟩ := paired_at e5 em
        exact hR.follow_le h hb
      · cases h
    · rename_i is es
      split at h
      · rename_i m em
        obtain ⟨_, vs, _, _, _, _, _, e5⟩ := hR.vir.st i _ is es
        obtain ⟨_, _, hb, _⟩ := paired_at e5 em
        exact hR.follow_le h hb
      · cases h
    · cases h
  · cases h
theorem paired_set {P Q : V → Nat → Prop} {v : V} {m : Nat} : ∀ {vs : List V} {is : List Nat} {c : Nat}, Paired P vs is → is.Nodup → is[c]? = some m → Q v m → (∀ w k, k ≠ m → P w k → Q w k) → Paired Q (vs.set c v) is
  | _, _, _, .nil, _, h, _, _ => by simp at h
  | _, _, 0, .cons (b := b0) r t, hn, h, hq, hp => by
    simp at h
    subst h
    rw [List.nodup_cons] at hn
    refine .cons hq ?_
    have go : ∀ {vs : List V} {is : List Nat}, (∀ k ∈ is, k ≠ b0) → Paired P vs is → Paired Q vs is := by
      intro vs is hk p
      induction p with
      | nil => exact .nil
      | cons r t ih => exact .cons (hp _ _ (hk _ List.mem_cons_self) r) (ih fun k hk' => hk k (List.mem_cons_of_mem _ hk'))
    exact go (fun k hk z => hn.1 (z ▸ hk)) t
  | _, _, c + 1, .cons r t, hn, h, hq, hp => by
    rw [List.nodup_cons] at hn
    have h' := by simpa using h
    refine .cons (hp _ _ (fun z => hn.1 ?_) r) (paired_set (c := c) t hn.2 h' hq hp)
    rw [z]
    exact List.mem_of_getElem? h'
/-- x[c] = e, e a way to another part, which then has two ways -/
def tStoP (F : List Nat) (g c : Nat) (tp : PSl) : VS := fun ρ Qn _ => match ρ[g]?, tp ρ with
  | some (.st .lst is), some j => ∃ m, is[c]? = some m ∧ (decide is.Nodup && decide (j ≠ m) && noLean (ρ.set g .no) [m] && decide (m < ρ.length) && !F.contains m) = true ∧ Qn (ρ.set m (.al j))
  | _, _ => False
theorem js_stoP {g c jc : Nat} {x : Str} {p pc pos' : Pos} (hn : Nm X g x) (hgB : decide (g < bd X) = true) (hp : JP X e tp) (hv : ∀ {σ : L2.St} {S H : Hp} {ρ : R} {j : Nat}, Rel X.K (bd X) S H σ ρ → tp ρ = some j → bd X ≤ j) (hx : ((List.range X.N.length).all fun m => decide (m < bd X) || invis X m) = true)
    (hs : swapsWithSole [.Subscript (.Name x p) (.Constant (.int (c : Nat)) jc pc) pos'] e pos.line X.env = pure false) (hw : swappedStores [.Subscript (.Name x p) (.Constant (.int (c : Nat)) jc pc) pos'] e X.env = pure none)
    (h1 : (assignEach [.Subscript (.Name x p) (.Constant (.int (c : Nat)) jc pc) pos'] X.env).map (·.2) = [assign (.Subscript (.Name x p) (.Constant (.int (c : Nat)) jc pc) pos') X.env])
    (ha : ∀ v, assign (.Subscript (.Name x p) (.Constant (.int (c : Nat)) jc pc) pos') X.env v = (do
      let ov ← holding [v] (eval (.Name x p) X.env)
      let iv ← holding [v, ov] (eval (.Constant (.int (c : Nat)) jc pc) X.env)
      standAt pos'
      holding [v, ov, iv] (setItem ov iv v)
      release [v, ov, iv] [])) : JS X new F (.Assign [.Subscript (.Name x p) (.Constant (.int (c : Nat)) jc pc) pos'] e pos) (tStoP F g c tp) := by
  intro σ S H ρ Qn Qr hR ht
  have hgB := of_decide_eq_true hgB
  unfold tStoP at ht
  split at ht
  · rename_i _ _ is j es ej
    obtain ⟨m, hm, hok, ht⟩ := ht
    rw [Bool.and_eq_true, Bool.and_eq_true, Bool.and_eq_true, Bool.and_eq_true] at hok
    obtain ⟨⟨⟨⟨k1, k2⟩, k3⟩, k4⟩, k5⟩ := hok
    have k1 := of_decide_eq_true k1
    have k2 := of_decide_eq_true k2
    have k4 := of_decide_eq_true k4
    have k5 : m ∉ F := fun z => by
      rw [List.contains_iff_mem.mpr z] at k5
      cases k5
    have hjB := hv hR ej
    obtain ⟨a, vs, o, e1, e2, e3, e4, e5⟩ := hR.vir.st g .lst is es
    have e4 : o = .lst vs := e4
    subst e4
    obtain ⟨w, hw1, hmB, hw2⟩ := paired_at e5 hm
    have hcl : c < vs.length := (List.getElem?_eq_some_iff.mp hw1).1
    have him : invis X m = true := by
      by_cases hl : m < X.N.length
      · have := List.all_eq_true.mp hx m (List.mem_range.mpr hl)
        rw [Bool.or_eq_true] at this
        rcases this with z | z
        · have := of_decide_eq_true z
          omega
        · exact z
      · unfold invis
        rw [List.getElem?_eq_none (by omega)]
    refine WS.vir (WS.of (ps_asg peW (pg_sub hn.pe pe_int set_list ha) hs hw h1) ((hp σ S H ρ j hR ej).mono fun v H1 q => ?_))
    obtain ⟨rfl, hjv⟩ := q
    refine ⟨_, e1, a, vs, (c : Nat), c, rfl, rfl, e3, ixN_at' hcl, σ.set m (some v), VirEq.refl.set him, S, ρ.set m (.al j), ?_, ?_, ht⟩
    · have hgl : g < ρ.length := (List.getElem?_eq_some_iff.mp es).1
      have hgm : g ≠ m := by omega
      have Ra := hR.updSt (o := .lst (vs.set c v)) es e1
      have Rb := Ra.setn (i := m) (v := some v) fun jj s _ q => noLean_at k3 q (by simp)
      have Rc := Rb.tella (i := m) (j := j) (v := v) (List.getElem?_set_self (by rw [List.length_set]; exact k4)) (List.getElem?_set_self (by rw [hR.len]; exact k4)) hjB (by rw [List.getElem?_set_ne fun z => k2 z.symm]; exact hjv)
      have oa : ∀ {b : Addr}, OwnAt (σ.set m (some v)) ((((ρ.set g .no).set m .no).set m (.al j))) b → ∃ k s, k ≠ g ∧ Ow ρ k s ∧ σ[k]? = some (some (.ref b)) := fun {b} z => by
        obtain ⟨k, s, hk, e⟩ := z
        rw [List.set_set] at hk
        rcases get_set hk.1 with ⟨rfl, q, _⟩ | ⟨n1, q1⟩
        · have := hk.2
          rw [q] at this; cases this
        · rw [List.getElem?_set_ne fun z => n1 z.symm] at e
          rcases get_set q1 with ⟨rfl, q, _⟩ | ⟨n2, q2⟩
          · have := hk.2
            rw [q] at this; cases this
          · exact ⟨k, s, n2, ⟨q2, hk.2⟩, e⟩
      have Rd := Rc.tello (i := g) (c := a) (s := .st .lst is) (by rw [List.set_set, List.getElem?_set_ne fun z => hgm z.symm]; exact List.getElem?_set_self hgl) (by rw [List.getElem?_set_ne fun z => hgm z.symm]; exact e1) rfl
        (fun z => by
          obtain ⟨k, s, n, q, e⟩ := oa z
          exact n (hR.sep k g _ _ a q ⟨es, rfl⟩ e e1))
        e2 ⟨_, upd_same, rfl⟩
        (fun jj kk xs q => by
          rw [List.set_set] at q
          rcases get_set q with ⟨rfl, q, _⟩ | ⟨n1, q⟩
          · cases q
          · rcases get_set q with ⟨rfl, q, _⟩ | ⟨n2, q⟩
            · cases q
            · obtain ⟨b, ws, b1, b2, b3⟩ := hR.ro jj kk xs q
              refine ⟨b, by rw [List.getElem?_set_ne fun z => n1 z.symm]; exact b1, ?_⟩
              rcases b2 with ⟨rfl, g⟩ | ⟨_, nn⟩
              · exact .inr ⟨rfl, ws, g, b3⟩
              · exact .inl fun z => nn ⟨_, _, ⟨es, rfl⟩, by rw [z]; exact e1⟩)
        (fun xs z => by cases z)
        (fun kk js z => by
          cases z
          refine ⟨vs.set c v, _, upd_same, rfl, paired_set e5 k1 hm ⟨hmB, List.getElem?_set_self (by rw [hR.len]; exact k4)⟩ fun w k n q => ⟨q.1, by rw [List.getElem?_set_ne fun z => n z.symm]; exact q.2⟩⟩)
        (fun C fs js d us z => by cases z)
      have ee : ((((ρ.set g .no).set m .no).set m (.al j)).set g (.st .lst is)) = ρ.set m (.al j) := by
        refine List.ext_getElem? fun k => ?_
        by_cases hk : k = g
        · subst hk
          rw [List.getElem?_set_self (by simp only [List.length_set]; exact hgl), List.getElem?_set_ne fun z => hgm z.symm, es]
        · rw [List.getElem?_set_ne fun z => hk z.symm, List.set_set]
          by_cases hk2 : k = m
          · subst hk2
            rw [List.getElem?_set_self (by rw [List.length_set]; exact k4), List.getElem?_set_self k4]
          · rw [List.getElem?_set_ne fun z => hk2 z.symm, List.getElem?_set_ne fun z => hk z.symm, List.getElem?_set_ne fun z => hk2 z.symm]
      rw [ee] at Rd
      exact Rd
    · refine ⟨Same.refl _, fun b h => ?_, fun _ _ h _ => h, fun b u h _ n => ?_, fun b z => .inl (own_set rfl z), fun k hk => List.getElem?_set_ne fun z => k5 (by rw [z]; exact hk), fun k hk h => ?_⟩
      · by_cases z : b = a
        · rw [z, upd_same]; simp
        · rw [upd_ne z]; exact h
      · rw [upd_ne fun z => n ⟨g, _, ⟨es, rfl⟩, by rw [z]; exact e1⟩]
        exact h
      · rw [List.getElem?_set_ne fun z => k5 (by rw [z]; exact hk)]
        exact h
  · exact ht.elim
end
end WA

/-! WA21: things made of parts, told by their shape: made, told, handed out, put into slots. -/
namespace WA
open PySem PySem.Spec PyProof.Rows L2
def Fs.size : Fs → Nat
  | .nil => 0
  | .val t => t.size + 1
  | .lst t => t.size + 1
  | .pts _ c t => c.size + t.size + 1
/-- the slots of the roots, from those of all (first the root, then what stands under it, then the next) -/
def Fs.roots : Fs → List Nat → List Nat
  | .val t, n :: ns => n :: t.roots ns
  | .lst t, n :: ns => n :: t.roots ns
  | .pts _ c t, n :: ns => n :: t.roots (ns.drop c.size)
  | _, _ => []
def itemsD : D → List D
  | .list xs => xs
  | .tuple xs => xs
  | _ => []
theorem itemsD_d (k : SK) (xs : List D) : itemsD (k.d xs) = xs := by cases k <;> rfl
def putF : Fs → List Nat → List D → R → R
  | .val t, n :: ns, x :: xs, ρ => putF t ns xs (ρ.set n (.v x))
  | .lst t, n :: ns, x :: xs, ρ => putF t ns xs (ρ.set n (.own (itemsD x)))
  | .pts k c t, n :: ns, x :: xs, ρ => putF t (ns.drop c.size) xs ((putF c ns (itemsD x) ρ).set n (.st k (c.roots ns)))
  | _, _, _, ρ => ρ
/-- what stands under another stands in slots without a name -/
def okF (B : Nat) : Fs → List Nat → Bool
  | .val t, _ :: ns => okF B t ns
  | .lst t, _ :: ns => okF B t ns
  | .pts _ c t, _ :: ns => ((c.roots ns).all fun m => decide (B ≤ m)) && okF B c ns && okF B t (ns.drop c.size)
  | _, _ => true
theorem mem_drop_take {α : Type} {l : List α} {a b : Nat} {x : α} (h : x ∈ (l.drop a).take b) : x ∈ l.take (a + b) := by
  have e : (l.take (a + b)).drop a = (l.drop a).take b := by
    rw [List.drop_take]
    congr 1
    omega
  rw [← e] at h
  exact List.mem_of_mem_drop h
theorem mem_take_le {α : Type} {l : List α} {a b : Nat} {x : α} (hab : a ≤ b) (h : x ∈ l.take a) : x ∈ l.take b := by
  have e : (l.take b).take a = l.take a := by rw [List.take_take, Nat.min_eq_left hab]
  rw [← e] at h
  exact List.mem_of_mem_take h
theorem roots_sub : ∀ (f : Fs) {ns : List Nat} {m : Nat}, m ∈ f.roots ns → m ∈ ns.take f.size
  | .nil, ns, m, h => by cases ns <;> cases h
  | .val t, [], m, h => by cases h
  | .lst t, [], m, h => by cases h
  | .pts _ c t, [], m, h => by cases h
  | .val t, n :: ns, m, h => by
    show m ∈ n :: ns.take t.size
    rcases List.mem_cons.mp h with rfl | h
    · exact List.mem_cons_self
    · exact List.mem_cons_of_mem _ (roots_sub t h)
  | .lst t, n :: ns, m, h => by
    show m ∈ n :: ns.take t.size
    rcases List.mem_cons.mp h with rfl | h
    · exact List.mem_cons_self
    · exact List.mem_cons_of_mem _ (roots_sub t h)
  | .pts _ c t, n :: ns, m, h => by
    show m ∈ n :: ns.take (c.size + t.size)
    rcases List.mem_cons.mp h with rfl | h
    · exact List.mem_cons_self
    · exact List.mem_cons_of_mem _ (mem_drop_take (roots_sub t h))
theorem noLean_sub {ρ : R} {is js : List Nat} (h : noLean ρ is = true) (hs : ∀ m ∈ js, m ∈ is) : noLean ρ js = true :=
  List.all_eq_true.mpr fun t ht => List.all_eq_true.mpr fun k hk => by
    have h1 := List.all_eq_true.mp (List.all_eq_true.mp h t ht) k hk
    rw [Bool.not_eq_true'] at h1 ⊢
    cases q : js.contains k with
    | false => rfl
    | true =>
      rw [List.contains_iff_mem.mpr (hs k (List.contains_iff_mem.mp q))] at h1
      cases h1
theorem noLean_setS {ρ : R} {is : List Nat} {m : Nat} {s : Sl} (h : noLean ρ is = true) (hs : ∀ k ∈ s.on, k ∉ is) : noLean (ρ.set m s) is = true := by
  refine List.all_eq_true.mpr fun t ht => ?_
  rcases List.mem_or_eq_of_mem_set ht with z | z
  · exact List.all_eq_true.mp h t z
  · rw [z]
    refine List.all_eq_true.mpr fun k hk => ?_
    rw [Bool.not_eq_true']
    cases q : is.contains k with
    | false => rfl
    | true => exact absurd (List.contains_iff_mem.mp q) (hs k hk)
section
variable {K : PySem.W.Frag} {B : Nat} {S H H0 : Hp}
theorem nodup_cut {l : List Nat} (h : l.Nodup) (a : Nat) {m : Nat} (h1 : m ∈ l.take a) (h2 : m ∈ l.drop a) : False := by
  rw [← List.take_append_drop a l, List.nodup_append] at h
  exact h.2.2 m h1 m h2 rfl
theorem objR_ownable {k : SK} {a : Addr} {vs : List V} {o : HO} (h : k.objR H a vs o) : ownable o = true := by
  cases k with
  | lst => cases h; rfl
  | tup => cases h; rfl
  | ins C fs =>
    obtain ⟨_, d, rfl, _⟩ := h
    rfl
structure PutOk (K : PySem.W.Frag) (B : Nat) (S H H0 : Hp) (σ : L2.St) (ρ : R) (vs : List V) (as : List Addr) (rs us : List Nat) (σ' : L2.St) (ρ' : R) : Prop where
  rel : Rel K B S H σ' ρ'
  ro : RoOld K S H0 σ' ρ'
  at_ : Paired (fun (v : V) (m : Nat) => σ'[m]? = some (some v)) vs rs
  out : ∀ m, m ∉ us → σ'[m]? = σ[m]? ∧ ρ'[m]? = ρ[m]?
  own : ∀ b, OwnAt σ' ρ' b → OwnAt σ ρ b ∨ b ∈ as
  lean : ∀ ms, (∀ m ∈ ms, m ∉ us) → noLean ρ ms = true → noLean ρ' ms = true
  len : ρ'.length = ρ.length
theorem forest_ok : ∀ (f : Fs) {ns : List Nat} {vs : List V} {xs : List D} {as : List Addr} {σ : L2.St} {ρ : R}, Rel K B S H σ ρ → RoOld K S H0 σ ρ → OwnF S H f vs xs as → as.Nodup → (∀ a ∈ as, H0 a = none ∧ S a = none ∧ ¬ OwnAt σ ρ a) → ns.Nodup → noLean ρ ns = true → (∀ m ∈ ns, m < ρ.length) → f.size ≤ ns.length → okF B f ns = true →
    ∃ σ', PutOk K B S H H0 σ ρ vs as (f.roots ns) (ns.take f.size) σ' (putF f ns xs ρ)
  | .nil, ns, _, _, _, σ, ρ, hR, hO, ⟨rfl, rfl, rfl⟩, _, _, _, _, _, _, _ => by
    refine ⟨σ, ?_⟩
    have e : putF .nil ns [] ρ = ρ := by cases ns <;> rfl
    have e2 : Fs.roots .nil ns = [] := by cases ns <;> rfl
    rw [e, e2]
    exact ⟨hR, hO, .nil, fun _ _ => ⟨rfl, rfl⟩, fun _ h => .inl h, fun _ _ h => h, rfl⟩
  | .val t, [], _, _, _, _, _, _, _, _, _, _, _, _, _, h, _ => by cases h
  | .lst t, [], _, _, _, _, _, _, _, _, _, _, _, _, _, h, _ => by cases h
  | .pts _ c t, [], _, _, _, _, _, _, _, _, _, _, _, _, _, h, _ => by cases h
  | .val t, n :: ns, _, _, as, σ, ρ, hR, hO, ⟨v, x, vs, xs, rfl, rfl, hv, ht⟩, nd, ha, hn, hl, hlt, hsz, hok => by
    rw [List.nodup_cons] at hn
    have hml : n < ρ.length := hlt n List.mem_cons_self
    have h1 := hR.setn (i := n) (v := some v) fun j s _ q => noLean_at hl q List.mem_cons_self
    have R2 := h1.tellv (List.getElem?_set_self hml) (List.getElem?_set_self (by rw [hR.len]; exact hml)) hv
    rw [List.set_set] at R2
    obtain ⟨σ', p⟩ := forest_ok t R2 (hO.set fun _ _ z => by cases z) ht nd (fun a h => ⟨(ha a h).1, (ha a h).2.1, fun z => (ha a h).2.2 (own_set rfl z)⟩) hn.2 (noLean_set (noLean_tail hl) rfl) (fun m hm => by rw [List.length_set]; exact hlt m (List.mem_cons_of_mem _ hm)) (by have : t.size + 1 ≤ ns.length + 1 := hsz; omega) hok
    have hnt : n ∉ ns.take t.size := fun z => hn.1 (List.mem_of_mem_take z)
    refine ⟨σ', p.rel, p.ro, .cons (by rw [(p.out n hnt).1]; exact List.getElem?_set_self (by rw [hR.len]; exact hml)) p.at_, fun m hm => ?_, fun b z => ?_, fun ms hms h => ?_, by rw [putF, p.len, List.length_set]⟩
    · have hm : m ∉ n :: ns.take t.size := hm
      obtain ⟨q1, q2⟩ := p.out m fun z => hm (List.mem_cons_of_mem _ z)
      have nm : n ≠ m := fun z => hm (by rw [z]; exact List.mem_cons_self)
      exact ⟨by rw [q1, List.getElem?_set_ne nm], by rw [putF, q2, List.getElem?_set_ne nm]⟩
    · rcases p.own b z with z | z
      · exact .inl (own_set rfl z)
      · exact .inr z
    · exact p.lean ms (fun m hm z => hms m hm (List.mem_cons_of_mem _ z)) (noLean_set h rfl)
  | .lst t, n :: ns, _, _, _, σ, ρ, hR, hO, ⟨a, ws, ds, vs, xs, as, rfl, rfl, rfl, haH, hd, ht⟩, nd, ha, hn, hl, hlt, hsz, hok => by
    rw [List.nodup_cons] at hn nd
    obtain ⟨ha0, haS, hao⟩ := ha a List.mem_cons_self
    have hml : n < ρ.length := hlt n List.mem_cons_self
    have h1 := hR.setn (i := n) (v := some (.ref a)) fun j s _ q => noLean_at hl q List.mem_cons_self
    have e1 : (σ.set n (some (V.ref a)))[n]? = some (some (.ref a)) := List.getElem?_set_self (by rw [hR.len]; exact hml)
    have R2 := h1.tello (s := .own ds) (List.getElem?_set_self hml) e1 rfl (fun z => hao (own_set rfl z)) haS ⟨_, haH, rfl⟩ ((hO.set (fun _ _ z => by cases z)).at ha0) (fun ys z => by cases z; exact ⟨ws, haH, hd⟩) (fun k is z => by cases z) (fun C fs is d us z => by cases z)
    rw [List.set_set] at R2
    have ow1 : ∀ b, OwnAt (σ.set n (some (.ref a))) (ρ.set n (.own ds)) b → OwnAt σ ρ b ∨ b = a := fun b ⟨k, u, hk, e⟩ => by
      rcases get_set hk.1 with ⟨rfl, q', _⟩ | ⟨n', q'⟩
      · rw [e1] at e
        cases e
        exact .inr rfl
      · rw [List.getElem?_set_ne fun z => n' z.symm] at e
        exact .inl ⟨k, u, ⟨q', hk.2⟩, e⟩
    obtain ⟨σ', p⟩ := forest_ok t R2 (hO.set fun _ _ z => by cases z) ht nd.2 (fun b h => ⟨(ha b (List.mem_cons_of_mem _ h)).1, (ha b (List.mem_cons_of_mem _ h)).2.1, fun z => by
      rcases ow1 b z with z | z
      · exact (ha b (List.mem_cons_of_mem _ h)).2.2 z
      · exact nd.1 (z ▸ h)⟩) hn.2 (noLean_set (noLean_tail hl) rfl) (fun m hm => by rw [List.length_set]; exact hlt m (List.mem_cons_of_mem _ hm)) (by have : t.size + 1 ≤ ns.length + 1 := hsz; omega) hok
    have hnt : n ∉ ns.take t.size := fun z => hn.1 (List.mem_of_mem_take z)
    have ep : putF (.lst t) (n :: ns) (.list ds :: xs) ρ = putF t ns xs (ρ.set n (.own ds)) := rfl
    rw [ep]
    refine ⟨σ', p.rel, p.ro, .cons (by rw [(p.out n hnt).1]; exact e1) p.at_, fun m hm => ?_, fun b z => ?_, fun ms hms h => ?_, by rw [p.len, List.length_set]⟩
    · have hm : m ∉ n :: ns.take t.size := hm
      obtain ⟨q1, q2⟩ := p.out m fun z => hm (List.mem_cons_of_mem _ z)
      have nm : n ≠ m := fun z => hm (by rw [z]; exact List.mem_cons_self)
      exact ⟨by rw [q1, List.getElem?_set_ne nm], by rw [q2, List.getElem?_set_ne nm]⟩
    · rcases p.own b z with z | z
      · rcases ow1 b z with z | z
        · exact .inl z
        · exact .inr (by rw [z]; exact List.mem_cons_self)
      · exact .inr (List.mem_cons_of_mem _ z)
    · exact p.lean ms (fun m hm z => hms m hm (List.mem_cons_of_mem _ z)) (noLean_set h rfl)
  | .pts k c t, n :: ns, _, _, _, σ, ρ, hR, hO, ⟨a, us, ys, o, bs, vs, xs, as, rfl, rfl, rfl, haH, hob, hc, ht⟩, nd, ha, hn, hl, hlt, hsz, hok => by
    rw [List.nodup_cons] at hn nd
    have hsz : c.size + t.size + 1 ≤ ns.length + 1 := hsz
    have hok : (((c.roots ns).all fun m => decide (B ≤ m)) && okF B c ns && okF B t (ns.drop c.size)) = true := hok
    rw [Bool.and_eq_true, Bool.and_eq_true] at hok
    obtain ⟨⟨hokr, hokc⟩, hokt⟩ := hok
    obtain ⟨ha0, haS, hao⟩ := ha a List.mem_cons_self
    have nd1 := nd.1
    have nd2 := nd.2
    rw [List.nodup_append, List.nodup_append] at nd2
    obtain ⟨ndx, ⟨ndb, nda, ndba⟩, ndr⟩ := nd2
    have mb : ∀ b ∈ bs, b ∈ a :: (SK.dx o ++ (bs ++ as)) := fun b h => List.mem_cons_of_mem _ (List.mem_append_right _ (List.mem_append_left _ h))
    have mt : ∀ b ∈ as, b ∈ a :: (SK.dx o ++ (bs ++ as)) := fun b h => List.mem_cons_of_mem _ (List.mem_append_right _ (List.mem_append_right _ h))
    have md : ∀ b ∈ SK.dx o, b ∈ a :: (SK.dx o ++ (bs ++ as)) := fun b h => List.mem_cons_of_mem _ (List.mem_append_left _ h)
    have hml : n < ρ.length := hlt n List.mem_cons_self
    -- what stands under it
    obtain ⟨σ1, p⟩ := forest_ok c hR hO hc ndb (fun b h => ha b (mb b h)) hn.2 (noLean_tail hl) (fun m hm => hlt m (List.mem_cons_of_mem _ hm)) (by omega) hokc
    have hnc : n ∉ ns.take c.size := fun z => hn.1 (List.mem_of_mem_take z)
    have hl1 : noLean (putF c ns ys ρ) [n] = true := p.lean [n] (fun m hm => by rw [List.mem_singleton.mp hm]; exact hnc) (noLean_sub hl fun m hm => by rw [List.mem_singleton.mp hm]; exact List.mem_cons_self)
    have hml1 : n < (putF c ns ys ρ).length := by rw [p.len]; exact hml
    have h1 := p.rel.setn (i := n) (v := some (.ref a)) fun j s _ q => noLean_at hl1 q (by simp)
    have e1 : (σ1.set n (some (V.ref a)))[n]? = some (some (.ref a)) := List.getElem?_set_self (by rw [p.rel.len]; exact hml1)
    have nown : ∀ {b : Addr}, b ∉ bs → ¬ OwnAt σ ρ b → ¬ OwnAt (σ1.set n (some (.ref a))) ((putF c ns ys ρ).set n .no) b := fun {b} h h' z => by
      rcases p.own b (own_set rfl z) with z | z
      · exact h' z
      · exact h z
    have hab : a ∉ bs := fun z => nd1 (List.mem_append_right _ (List.mem_append_left _ z))
    have R2 := h1.tello (s := .st k (c.roots ns)) (List.getElem?_set_self hml1) e1 rfl (nown hab hao) haS ⟨_, haH, objR_ownable hob⟩ ((p.ro.set (fun _ _ z => by cases z)).at ha0) (fun ys z => by cases z)
      (fun k' is z => by
        cases z
        refine ⟨us, o, haH, hob, ?_⟩
        have go : ∀ {us : List V} {js : List Nat}, (∀ m ∈ js, m ∈ c.roots ns) → Paired (fun (v : V) (m : Nat) => σ1[m]? = some (some v)) us js → Paired (fun (v : V) (m : Nat) => B ≤ m ∧ (σ1.set n (some (.ref a)))[m]? = some (some v)) us js := by
          intro us js hj q
          induction q with
          | nil => exact .nil
          | cons r tl ih =>
            rename_i v m _ _
            have hm := hj m List.mem_cons_self
            refine .cons ⟨of_decide_eq_true (List.all_eq_true.mp hokr m hm), ?_⟩ (ih fun m hm => hj m (List.mem_cons_of_mem _ hm))
            rw [List.getElem?_set_ne fun z => hnc (by rw [z]; exact roots_sub c hm)]
            exact r
        exact go (fun _ h => h) p.at_)
      (fun C fs is d ws z e => by
        rw [haH] at e
        cases e
        have hd : d ∈ SK.dx (HO.ins C d ws) := List.mem_cons_self
        obtain ⟨_, d2, d3⟩ := ha d (md d hd)
        exact ⟨d2, nown (fun z => ndr d hd d (List.mem_append_left _ z) rfl) d3⟩)
    rw [List.set_set] at R2
    have ow1 : ∀ b, OwnAt (σ1.set n (some (.ref a))) ((putF c ns ys ρ).set n (.st k (c.roots ns))) b → OwnAt σ ρ b ∨ b = a ∨ b ∈ bs := fun b ⟨j, u, hk, e⟩ => by
      rcases get_set hk.1 with ⟨rfl, q', _⟩ | ⟨n', q'⟩
      · rw [e1] at e
        cases e
        exact .inr (.inl rfl)
      · rw [List.getElem?_set_ne fun z => n' z.symm] at e
        rcases p.own b ⟨j, u, ⟨q', hk.2⟩, e⟩ with z | z
        · exact .inl z
        · exact .inr (.inr z)
    have hdr : ∀ m ∈ ns.drop c.size, m ∉ ns.take c.size := fun m h1 h2 => nodup_cut hn.2 c.size h2 h1
    have hl2 : noLean ((putF c ns ys ρ).set n (.st k (c.roots ns))) (ns.drop c.size) = true := noLean_setS (p.lean _ hdr (noLean_sub (noLean_tail hl) fun m hm => List.mem_of_mem_drop hm)) fun m hm z => hdr m z (roots_sub c hm)
    obtain ⟨σ', q⟩ := forest_ok t R2 (p.ro.set fun _ _ z => by cases z) ht nda (fun b h => ⟨(ha b (mt b h)).1, (ha b (mt b h)).2.1, fun z => by
      rcases ow1 b z with z | z | z
      · exact (ha b (mt b h)).2.2 z
      · exact nd1 (List.mem_append_right _ (List.mem_append_right _ (z ▸ h)))
      · exact ndba b z b h rfl⟩) (hn.2.drop) hl2 (fun m hm => by rw [List.length_set, p.len]; exact hlt m (List.mem_cons_of_mem _ (List.mem_of_mem_drop hm))) (by rw [List.length_drop]; omega) hokt
    have hnt : n ∉ (ns.drop c.size).take t.size := fun z => hn.1 (List.mem_of_mem_drop (List.mem_of_mem_take z))
    have ep : putF (.pts k c t) (n :: ns) (k.d ys :: xs) ρ = putF t (ns.drop c.size) xs ((putF c ns ys ρ).set n (.st k (c.roots ns))) := by
      rw [putF, itemsD_d]
    rw [ep]
    refine ⟨σ', q.rel, q.ro, .cons (by rw [(q.out n hnt).1]; exact e1) q.at_, fun m hm => ?_, fun b z => ?_, fun ms hms h => ?_, by rw [q.len, List.length_set, p.len]⟩
    · have hm : m ∉ n :: ns.take (c.size + t.size) := hm
      have nm : n ≠ m := fun z => hm (by rw [z]; exact List.mem_cons_self)
      obtain ⟨q1, q2⟩ := q.out m fun z => hm (List.mem_cons_of_mem _ (mem_drop_take z))
      obtain ⟨p1, p2⟩ := p.out m fun z => hm (List.mem_cons_of_mem _ (mem_take_le (by omega) z))
      exact ⟨by rw [q1, List.getElem?_set_ne nm, p1], by rw [q2, List.getElem?_set_ne nm, p2]⟩
    · rcases q.own b z with z | z
      · rcases ow1 b z with z | z | z
        · exact .inl z
        · exact .inr (by rw [z]; exact List.mem_cons_self)
        · exact .inr (mb b z)
      · exact .inr (mt b z)
    · have hms1 : ∀ m ∈ ms, m ∉ ns.take c.size := fun m hm z => hms m hm (List.mem_cons_of_mem _ (mem_take_le (by omega) z))
      refine q.lean ms (fun m hm z => hms m hm (List.mem_cons_of_mem _ (mem_drop_take z))) (noLean_setS (p.lean ms hms1 h) fun m hm z => hms1 m z (roots_sub c hm))
end
end WA

/-! WA22: expressions that tell a new thing made of parts. -/
namespace WA
open PySem PySem.Spec PyProof.Rows L2
section
variable {K : PySem.W.Frag} {B : Nat} {S S' H H' : Hp} {σ : L2.St} {ρ : R}
theorem OwnF.mono (e : Same S S') : ∀ (f : Fs) {vs : List V} {xs : List D} {as : List Addr}, (∀ a ∈ as, ∀ o, H a = some o → H' a = some o) → OwnF S H f vs xs as → OwnF S' H' f vs xs as
  | .nil, _, _, _, _, h => h
  | .val t, _, _, _, k, ⟨v, x, vs, xs, e1, e2, hv, ht⟩ => ⟨v, x, vs, xs, e1, e2, hv.mono e, OwnF.mono e t k ht⟩
  | .lst t, _, _, _, k, ⟨a, ws, ds, vs, xs, as, e1, e2, e3, h1, h2, ht⟩ => by
    subst e3
    exact ⟨a, ws, ds, vs, xs, as, e1, e2, rfl, k a List.mem_cons_self _ h1, h2.mono e, OwnF.mono e t (fun b hb => k b (List.mem_cons_of_mem _ hb)) ht⟩
  | .pts q c t, _, _, _, k, ⟨a, us, ys, o, bs, vs, xs, as, e1, e2, e3, h1, h2, hc, ht⟩ => by
    subst e3
    refine ⟨a, us, ys, o, bs, vs, xs, as, e1, e2, rfl, k a List.mem_cons_self _ h1, ?_, OwnF.mono e c (fun b hb => k b (List.mem_cons_of_mem _ (List.mem_append_right _ (List.mem_append_left _ hb)))) hc, OwnF.mono e t (fun b hb => k b (List.mem_cons_of_mem _ (List.mem_append_right _ (List.mem_append_right _ hb)))) ht⟩
    cases q with
    | lst => exact h2
    | tup => exact h2
    | ins C fs =>
      obtain ⟨g1, d, rfl, g2⟩ := h2
      exact ⟨g1, d, rfl, k d (List.mem_cons_of_mem _ (List.mem_append_left _ List.mem_cons_self)) _ g2⟩
theorem OwnF.there : ∀ (f : Fs) {vs : List V} {xs : List D} {as : List Addr}, OwnF S H f vs xs as → ∀ a ∈ as, H a ≠ none
  | .nil, _, _, _, ⟨_, _, e⟩, a, ha => by rw [e] at ha; cases ha
  | .val t, _, _, _, ⟨v, x, vs, xs, e1, e2, hv, ht⟩, a, ha => OwnF.there t ht a ha
  | .lst t, _, _, _, ⟨b, ws, ds, vs, xs, as, e1, e2, e3, h1, h2, ht⟩, a, ha => by
    subst e3
    rcases List.mem_cons.mp ha with rfl | ha
    · rw [h1]; simp
    · exact OwnF.there t ht a ha
  | .pts q c t, _, _, _, ⟨b, us, ys, o, bs, vs, xs, as, e1, e2, e3, h1, h2, hc, ht⟩, a, ha => by
    subst e3
    rcases List.mem_cons.mp ha with rfl | ha
    · rw [h1]; simp
    rcases List.mem_append.mp ha with ha | ha
    · cases q with
      | lst => cases h2; cases ha
      | tup => cases h2; cases ha
      | ins C fs =>
        obtain ⟨g1, d, rfl, g2⟩ := h2
        rw [List.mem_singleton.mp ha, g2]
        simp
    rcases List.mem_append.mp ha with ha | ha
    · exact OwnF.there c hc a ha
    · exact OwnF.there t ht a ha
def Fs.app : Fs → Fs → Fs
  | .nil, g => g
  | .val t, g => .val (t.app g)
  | .lst t, g => .lst (t.app g)
  | .pts k c t, g => .pts k c (t.app g)
theorem OwnF.app {g : Fs} {ws : List V} {zs : List D} {cs : List Addr} (hg : OwnF S H g ws zs cs) : ∀ (f : Fs) {vs : List V} {xs : List D} {as : List Addr}, OwnF S H f vs xs as → OwnF S H (f.app g) (vs ++ ws) (xs ++ zs) (as ++ cs)
  | .nil, _, _, _, ⟨rfl, rfl, rfl⟩ => hg
  | .val t, _, _, _, ⟨v, x, vs, xs, e1, e2, hv, ht⟩ => ⟨v, x, vs ++ ws, xs ++ zs, by rw [e1]; rfl, by rw [e2]; rfl, hv, OwnF.app hg t ht⟩
  | .lst t, _, _, _, ⟨a, us, ds, vs, xs, as, e1, e2, e3, h1, h2, ht⟩ => ⟨a, us, ds, vs ++ ws, xs ++ zs, as ++ cs, by rw [e1]; rfl, by rw [e2]; rfl, by rw [e3]; rfl, h1, h2, OwnF.app hg t ht⟩
  | .pts q c t, _, _, _, ⟨a, us, ys, o, bs, vs, xs, as, e1, e2, e3, h1, h2, hc, ht⟩ => ⟨a, us, ys, o, bs, vs ++ ws, xs ++ zs, as ++ cs, by rw [e1]; rfl, by rw [e2]; rfl, by rw [e3]; simp, h1, h2, hc, OwnF.app hg t ht⟩
/-- taken among what is known -/
theorem Rel.know2 {p : Addr} {o : HO} (h : Rel K B S H σ ρ) (hp : H p = some o) (hn : ¬ OwnAt σ ρ p) (hS : S p = none) (hl : ownable o = true) : Rel K B (upd S p o) H σ ρ where
  len := h.len
  sub := fun b x e => by
    by_cases hb : b = p
    · subst hb
      rw [upd_same] at e
      cases e
      exact hp
    · rw [upd_ne hb] at e
      exact h.sub _ _ e
  val := fun i x hx => by
    obtain ⟨w, a, b⟩ := h.val i x hx
    exact ⟨w, a, b.mono (same_upd hS)⟩
  own := fun i xs hx => by
    obtain ⟨a, vs, b1, b2, b3, b4⟩ := h.own i xs hx
    refine ⟨a, vs, b1, ?_, b3, b4.mono (same_upd hS)⟩
    rw [upd_ne (fun z => hn ⟨i, _, ow hx, by rw [← z]; exact b1⟩)]
    exact b2
  ro := fun i k xs hx => by
    obtain ⟨a, vs, b1, b2, b3⟩ := h.ro i k xs hx
    exact ⟨a, vs, b1, b2, b3.mono (same_upd hS)⟩
  sep := h.sep
  vir := h.vir.to (fun _ _ q _ => ⟨q, rfl⟩) (fun _ _ => rfl) (fun i k is a u q1 q2 q3 q4 => ⟨by rw [upd_ne (fun z => hn ⟨i, _, ⟨q1, rfl⟩, by rw [← z]; exact q2⟩)]; exact q3, q4⟩)
    (fun d c q1 q2 n => ⟨by rw [upd_ne (fun z => by rw [z, hp] at q1; cases q1; cases hl)]; exact q2, q1, n⟩)
def Fs.plain : Fs → Bool
  | .nil => true
  | .val t => t.plain
  | .lst t => t.plain
  | .pts .lst c t => c.plain && t.plain
  | .pts .tup c t => c.plain && t.plain
  | .pts _ _ _ => false
theorem freeze : ∀ (f : Fs) {S : Hp} {vs : List V} {xs : List D} {as : List Addr}, f.plain = true → Rel K B S H σ ρ → OwnF S H f vs xs as → as.Nodup → (∀ a ∈ as, S a = none ∧ ¬ OwnAt σ ρ a) →
    ∃ S', Same S S' ∧ Rel K B S' H σ ρ ∧ RpAll S' vs xs ∧ ∀ b, b ∉ as → S' b = S b
  | .nil, S, _, _, _, _, hR, ⟨rfl, rfl, rfl⟩, _, _ => ⟨S, Same.refl _, hR, .nil, fun _ _ => rfl⟩
  | .val t, S, _, _, _, hp, hR, ⟨v, x, vs, xs, rfl, rfl, hv, ht⟩, nd, ha => by
    obtain ⟨S', h1, h2, h3, h4⟩ := freeze t hp hR ht nd ha
    exact ⟨S', h1, h2, .cons (hv.mono h1) h3, h4⟩
  | .lst t, S, _, _, _, hp, hR, ⟨a, ws, ds, vs, xs, as, rfl, rfl, rfl, g1, g2, ht⟩, nd, ha => by
    rw [List.nodup_cons] at nd
    obtain ⟨a1, a2⟩ := ha a List.mem_cons_self
    have R1 := hR.know2 g1 a2 a1 rfl
    have ne : ∀ b ∈ as, b ≠ a := fun b hb z => nd.1 (z ▸ hb)
    obtain ⟨S', h1, h2, h3, h4⟩ := freeze t hp R1 (OwnF.mono (same_upd a1) t (fun _ _ _ h => h) ht) nd.2 (fun b hb => ⟨by rw [upd_ne (ne b hb)]; exact (ha b (List.mem_cons_of_mem _ hb)).1, (ha b (List.mem_cons_of_mem _ hb)).2⟩)
    refine ⟨S', (same_upd a1).trans h1, h2, .cons (.lst (h1 _ _ upd_same) (g2.mono ((same_upd a1).trans h1))) h3, fun b hb => ?_⟩
    rw [h4 b fun z => hb (List.mem_cons_of_mem _ z), upd_ne fun z => hb (by rw [z]; exact List.mem_cons_self)]
  | .pts .lst c t, S, _, _, _, hp, hR, ⟨a, us, ys, o, bs, vs, xs, as, rfl, rfl, rfl, g1, g2, hc, ht⟩, nd, ha => by
    cases g2
    have nd : (a :: (bs ++ as)).Nodup := nd
    have ha : ∀ b ∈ a :: (bs ++ as), S b = none ∧ ¬ OwnAt σ ρ b := ha
    have hp : (c.plain && t.plain) = true := hp
    rw [Bool.and_eq_true] at hp
    rw [List.nodup_cons, List.nodup_append] at nd
    obtain ⟨a1, a2⟩ := ha a List.mem_cons_self
    obtain ⟨S1, h1, h2, h3, h4⟩ := freeze c hp.1 hR hc nd.2.1 (fun b hb => ha b (List.mem_cons_of_mem _ (List.mem_append_left _ hb)))
    have a3 : S1 a = none := by
      rw [h4 a fun z => nd.1 (List.mem_append_left _ z)]
      exact a1
    have R2 := h2.know2 g1 a2 a3 rfl
    have ne : ∀ b ∈ as, b ≠ a := fun b hb z => nd.1 (List.mem_append_right _ (z ▸ hb))
    obtain ⟨S', k1, k2, k3, k4⟩ := freeze t hp.2 R2 (OwnF.mono (h1.trans (same_upd a3)) t (fun _ _ _ h => h) ht) nd.2.2.1 (fun b hb => ⟨by
      rw [upd_ne (ne b hb), h4 b fun z => nd.2.2.2 b z b hb rfl]
      exact (ha b (List.mem_cons_of_mem _ (List.mem_append_right _ hb))).1, (ha b (List.mem_cons_of_mem _ (List.mem_append_right _ hb))).2⟩)
    refine ⟨S', (h1.trans (same_upd a3)).trans k1, k2, .cons (.lst (k1 _ _ upd_same) (h3.mono ((same_upd a3).trans k1))) k3, fun b hb => ?_⟩
    rw [k4 b fun z => hb (List.mem_cons_of_mem _ (List.mem_append_right _ (List.mem_append_right _ z))), upd_ne fun z => hb (by rw [z]; exact List.mem_cons_self), h4 b fun z => hb (List.mem_cons_of_mem _ (List.mem_append_right _ (List.mem_append_left _ z)))]
  | .pts .tup c t, S, _, _, _, hp, hR, ⟨a, us, ys, o, bs, vs, xs, as, rfl, rfl, rfl, g1, g2, hc, ht⟩, nd, ha => by
    cases g2
    have nd : (a :: (bs ++ as)).Nodup := nd
    have ha : ∀ b ∈ a :: (bs ++ as), S b = none ∧ ¬ OwnAt σ ρ b := ha
    have hp : (c.plain && t.plain) = true := hp
    rw [Bool.and_eq_true] at hp
    rw [List.nodup_cons, List.nodup_append] at nd
    obtain ⟨a1, a2⟩ := ha a List.mem_cons_self
    obtain ⟨S1, h1, h2, h3, h4⟩ := freeze c hp.1 hR hc nd.2.1 (fun b hb => ha b (List.mem_cons_of_mem _ (List.mem_append_left _ hb)))
    have a3 : S1 a = none := by
      rw [h4 a fun z => nd.1 (List.mem_append_left _ z)]
      exact a1
    have R2 := h2.know2 g1 a2 a3 rfl
    have ne : ∀ b ∈ as, b ≠ a := fun b hb z => nd.1 (List.mem_append_right _ (z ▸ hb))
    obtain ⟨S', k1, k2, k3, k4⟩ := freeze t hp.2 R2 (OwnF.mono (h1.trans (same_upd a3)) t (fun _ _ _ h => h) ht) nd.2.2.1 (fun b hb => ⟨by
      rw [upd_ne (ne b hb), h4 b fun z => nd.2.2.2 b z b hb rfl]
      exact (ha b (List.mem_cons_of_mem _ (List.mem_append_right _ hb))).1, (ha b (List.mem_cons_of_mem _ (List.mem_append_right _ hb))).2⟩)
    refine ⟨S', (h1.trans (same_upd a3)).trans k1, k2, .cons (.tup (k1 _ _ upd_same) (h3.mono ((same_upd a3).trans k1))) k3, fun b hb => ?_⟩
    rw [k4 b fun z => hb (List.mem_cons_of_mem _ (List.mem_append_right _ (List.mem_append_right _ z))), upd_ne fun z => hb (by rw [z]; exact List.mem_cons_self), h4 b fun z => hb (List.mem_cons_of_mem _ (List.mem_append_right _ (List.mem_append_left _ z)))]
/-- nothing is told of a slot any more -/
theorem own_forget {i : Nat} {b : Addr} (h : OwnAt σ (ρ.set i .no) b) : OwnAt σ ρ b := by
  obtain ⟨m, s, hm, e⟩ := h
  rcases get_set hm.1 with ⟨rfl, q, _⟩ | ⟨n, q⟩
  · have := hm.2
    rw [q] at this
    cases this
  · exact ⟨m, s, ⟨q, hm.2⟩, e⟩
theorem Rel.forget {i : Nat} (h : Rel K B S H σ ρ) : Rel K B S H σ (ρ.set i .no) := by
  have get : ∀ {j : Nat} {s : Sl}, s ≠ .no → (ρ.set i .no)[j]? = some s → ρ[j]? = some s := fun {j s} n q => by
    rcases get_set q with ⟨rfl, q, _⟩ | ⟨_, q⟩
    · exact absurd q n
    · exact q
  have gow : ∀ {j : Nat} {s : Sl}, Ow (ρ.set i .no) j s → Ow ρ j s := fun {j s} q => ⟨get (fun z => by have := q.2; rw [z] at this; cases this) q.1, q.2⟩
  refine ⟨by rw [List.length_set]; exact h.len, h.sub, fun j x q => h.val j x (get (fun z => by cases z) q), fun j x q => h.own j x (get (fun z => by cases z) q), fun j k x q => ?_, fun j k s t b h1 h2 => h.sep j k s t b (gow h1) (gow h2), ⟨fun j k is q => h.vir.st j k is (get (fun z => by cases z) q), fun j k q => h.vir.al j k (get (fun z => by cases z) q), fun j C fs is a d us q e1 e2 => ?_⟩⟩
  · obtain ⟨b, ws, b1, b2, b3⟩ := h.ro j k x (get (fun z => by cases z) q)
    exact ⟨b, ws, b1, b2.to (fun o e _ => e) (fun _ z => own_forget z), b3⟩
  · obtain ⟨q1, q2⟩ := h.vir.dx j C fs is a d us (get (fun z => by cases z) q) e1 e2
    exact ⟨q1, fun z => q2 (own_forget z)⟩
def clr : List Nat → R → R
  | [], ρ => ρ
  | n :: ns, ρ => clr ns (ρ.set n .no)
theorem clr_len : ∀ {ns : List Nat} {ρ : R}, (clr ns ρ).length = ρ.length
  | [], _ => rfl
  | n :: ns, ρ => by rw [clr, clr_len, List.length_set]
theorem clr_out : ∀ {ns : List Nat} {ρ : R} {j : Nat}, j ∉ ns → (clr ns ρ)[j]? = ρ[j]?
  | [], _, _, _ => rfl
  | n :: ns, ρ, j, h => by rw [clr, clr_out fun z => h (List.mem_cons_of_mem _ z), List.getElem?_set_ne fun z => h (by rw [z]; exact List.mem_cons_self)]
theorem clr_ok : ∀ {ns : List Nat} {ρ : R}, Rel K B S H σ ρ → Rel K B S H σ (clr ns ρ) ∧ (∀ b, OwnAt σ (clr ns ρ) b → OwnAt σ ρ b) ∧ (∀ {H0 : Hp}, RoOld K S H0 σ ρ → RoOld K S H0 σ (clr ns ρ))
  | [], _, h => ⟨h, fun _ h => h, fun h => h⟩
  | n :: ns, ρ, h => by
    obtain ⟨h1, h2, h3⟩ := clr_ok (ns := ns) (h.forget (i := n))
    refine ⟨h1, fun b z => own_forget (h2 b z), fun {H0} hO => h3 fun j k xs q => ?_⟩
    rcases get_set q with ⟨rfl, q, _⟩ | ⟨_, q⟩
    · cases q
    · exact hO j k xs q
end
/-! ### judgements -/
section
variable {X : Cx} {f g : Fs} {e a : Expr} {es : List Expr} {pos p : Pos}
def PostX (X : Cx) (f : Fs) (σ : L2.St) (S H : Hp) (ρ : R) (Q : D → R → Prop) : VK := fun v H' => ∃ S' ρ' x as, Rel X.K (bd X) S' H' σ ρ' ∧ Ext σ S H ρ S' H' ρ' ∧ OwnF S' H' f [v] [x] as ∧ as.Nodup ∧ (∀ a ∈ as, H a = none ∧ S' a = none) ∧ Q x ρ'
def JX (X : Cx) (f : Fs) (e : Expr) (t : VE) : Prop := ∀ σ S H ρ Q, Rel X.K (bd X) S H σ ρ → t ρ Q → W X e σ H (PostX X f σ S H ρ Q)
abbrev VXs := R → (List D → R → Prop) → Prop
def PostXs (X : Cx) (f : Fs) (σ : L2.St) (S H : Hp) (ρ : R) (Q : List D → R → Prop) : List V → Hp → Prop := fun vs H' => ∃ S' ρ' xs as, Rel X.K (bd X) S' H' σ ρ' ∧ Ext σ S H ρ S' H' ρ' ∧ OwnF S' H' f vs xs as ∧ as.Nodup ∧ (∀ a ∈ as, H a = none ∧ S' a = none) ∧ Q xs ρ'
def JXs (X : Cx) (f : Fs) (es : List Expr) (t : VXs) : Prop := ∀ σ S H ρ Q, Rel X.K (bd X) S H σ ρ → t ρ Q → WAr X es σ H (PostXs X f σ S H ρ Q)
/-- a value, where something with parts is wanted -/
def tXV (t : VT) : VE := fun ρ Q => t ρ fun u ρ1 => match u with
  | .val d => Q d ρ1
  | _ => False
theorem jx_val {t : VT} (h : JT X e t) : JX X (.val .nil) e (tXV t) := by
  intro σ S H ρ Q hR ht
  refine (h σ S H ρ _ hR ht).mono fun v H1 q => ?_
  obtain ⟨S1, ρ1, u, R1, E1, d1, q1⟩ := q
  split at q1
  · rename_i d
    exact ⟨S1, ρ1, d, [], R1, E1, ⟨v, d, [], [], rfl, rfl, d1, rfl, rfl, rfl⟩, by simp, fun _ h => (by cases h), q1⟩
  · exact q1.elim
theorem jx_new {t : VE} (h : JN X e t) : JX X (.lst .nil) e t := by
  intro σ S H ρ Q hR ht
  refine (h σ S H ρ Q hR ht).mono fun v H1 q => ?_
  obtain ⟨S1, ρ1, c, vs, xs, R1, E1, rfl, hc, hcs, hcl, hd, q⟩ := q
  exact ⟨S1, ρ1, .list xs, [c], R1, E1, ⟨c, vs, xs, [], [], [], rfl, rfl, rfl, hcl, hd, rfl, rfl, rfl⟩, by simp, fun b hb => by rw [List.mem_singleton.mp hb]; exact ⟨hc, hcs⟩, q⟩
def tXNil : VXs := fun ρ Q => Q [] ρ
def tXCons (t : VE) (u : VXs) : VXs := fun ρ Q => t ρ fun x ρ1 => u ρ1 fun xs ρ2 => Q (x :: xs) ρ2
theorem jxs_nil : JXs X .nil [] tXNil := fun σ S H ρ Q hR ht => WAr.of pa_nil ⟨S, ρ, [], [], hR, .refl, ⟨rfl, rfl, rfl⟩, by simp, fun _ h => (by cases h), ht⟩
theorem jxs_cons {h : Fs} {t : VE} {u : VXs} (ha : JX X g e t) (hb : JXs X f es u) (hs : notStar e = true) (hh : g.app f = h) : JXs X h (e :: es) (tXCons t u) := by
  subst hh
  intro σ S H ρ Q hR ht
  refine WAr.of (pa_cons peW paW (star_cons hs)) ((ha σ S H ρ _ hR ht).mono fun v H1 q => ?_)
  obtain ⟨S1, ρ1, x, as, R1, E1, o1, n1, f1, q1⟩ := q
  refine (hb σ S1 H1 ρ1 _ R1 q1).mono fun vs H2 q => ?_
  obtain ⟨S2, ρ2, xs, bs, R2, E2, o2, n2, f2, q2⟩ := q
  have th := OwnF.there g o1
  have no : ∀ a ∈ as, ¬ OwnAt σ ρ1 a := fun a ha z => own_new hR (f1 a ha).1 (E1.at.mpr z)
  have o1' : OwnF S2 H2 g [v] [x] as := OwnF.mono E2.same g (fun a ha o h => E2.keep a o h (f1 a ha).2 (no a ha)) o1
  refine ⟨S2, ρ2, x :: xs, as ++ bs, R2, E1.trans E2, OwnF.app o2 g o1', List.nodup_append.mpr ⟨n1, n2, fun a ha b hb z => ?_⟩, fun a ha => ?_, q2⟩
  · exact th a ha (by rw [z]; exact (f2 b hb).1)
  · rcases List.mem_append.mp ha with h | h
    · exact ⟨(f1 a h).1, E2.stay a (th a h) (f1 a h).2⟩
    · refine ⟨?_, (f2 a h).2⟩
      cases e : H a with
      | none => rfl
      | some o => exact absurd (f2 a h).1 (E1.there a (by rw [e]; simp))
def tXD (k : SK) (t : VXs) : VE := fun ρ Q => t ρ fun xs ρ1 => xs.length ≤ sizeLine ∧ Q (k.d xs) ρ1
theorem ownF_len {S H : Hp} : ∀ (f : Fs) {vs : List V} {xs : List D} {as : List Addr}, OwnF S H f vs xs as → vs.length = xs.length
  | .nil, _, _, _, ⟨rfl, rfl, _⟩ => rfl
  | .val t, _, _, _, ⟨v, x, vs, xs, rfl, rfl, hv, ht⟩ => congrArg (· + 1) (ownF_len t ht)
  | .lst t, _, _, _, ⟨a, us, ds, vs, xs, as, rfl, rfl, e3, h1, h2, ht⟩ => congrArg (· + 1) (ownF_len t ht)
  | .pts q c t, _, _, _, ⟨a, us, ys, o, bs, vs, xs, as, rfl, rfl, e3, h1, h2, hc, ht⟩ => congrArg (· + 1) (ownF_len t ht)
theorem xd_core {k : Sq} {σ : L2.St} {S H S1 H1 : Hp} {ρ ρ1 : R} {vs : List V} {xs : List D} {as : List Addr} {n : Addr} {Q : D → R → Prop} (R1 : Rel X.K (bd X) S1 H1 σ ρ1) (E1 : Ext σ S H ρ S1 H1 ρ1) (o1 : OwnF S1 H1 f vs xs as) (n1 : as.Nodup) (f1 : ∀ a ∈ as, H a = none ∧ S1 a = none) (hn : H1 n = none) (q : Q (k.sk.d xs) ρ1) :
    PostX X (.pts k.sk f .nil) σ S H ρ Q (.ref n) (upd H1 n (k.mk vs)) := by
  have th := OwnF.there f o1
  have nn : ∀ {b : Addr}, H1 b ≠ none → b ≠ n := fun {b} h z => h (by rw [z]; exact hn)
  refine ⟨S1, ρ1, k.sk.d xs, n :: (SK.dx (k.mk vs) ++ (as ++ [])), R1.new0 hn, E1.trans (.new0 R1 hn), ⟨n, vs, xs, k.mk vs, as, [], [], [], rfl, rfl, rfl, upd_same, by cases k <;> rfl, OwnF.mono (Same.refl _) f (fun a ha o h => by rw [upd_ne (nn (th a ha))]; exact h) o1, rfl, rfl, rfl⟩, ?_, fun a ha => ?_, q⟩
  · have e : SK.dx (k.mk vs) = [] := by cases k <;> rfl
    rw [e, List.append_nil]
    exact List.nodup_cons.mpr ⟨fun z => th n z hn, n1⟩
  · have e : SK.dx (k.mk vs) = [] := by cases k <;> rfl
    rw [e, List.append_nil] at ha
    rcases List.mem_cons.mp ha with rfl | ha
    · exact ⟨E_none E1 hn, R1.sub.free hn⟩
    · exact f1 a ha
theorem jx_lst {t : VXs} (h : JXs X f es t) : JX X (.pts .lst f .nil) (.List es pos) (tXD .lst t) := by
  intro σ S H ρ Q hR ht
  refine W.of (pe_lst paW) ((h σ S H ρ _ hR ht).mono fun vs H1 q => ?_)
  obtain ⟨S1, ρ1, xs, as, R1, E1, o1, n1, f1, hz, q⟩ := q
  exact ⟨by rw [ownF_len f o1]; exact hz, fun n hn => xd_core (k := .lst) R1 E1 o1 n1 f1 hn q⟩
theorem jx_tup {x1 : Nat} {t : VXs} (h : JXs X f es t) : JX X (.pts .tup f .nil) (.Tuple es x1 pos) (tXD .tup t) := by
  intro σ S H ρ Q hR ht
  refine W.of (pe_tup paW) ((h σ S H ρ _ hR ht).mono fun vs H1 q => ?_)
  obtain ⟨S1, ρ1, xs, as, R1, E1, o1, n1, f1, hz, q⟩ := q
  exact ⟨by rw [ownF_len f o1]; exact hz, fun n hn => xd_core (k := .tup) R1 E1 o1 n1 f1 hn q⟩
theorem call_x {F : FSpec} {σ : L2.St} {S H H1 S2 H2 : Hp} {ρ ρ2 : R} {v : V} {r : D} {Q : D → R → Prop} (R2 : Rel X.K (bd X) S2 H2 σ ρ2) (E : Ext σ S H ρ S2 H2 ρ2) (th : ∀ b, H b ≠ none → H1 b ≠ none) (rr : ResR F.new H1 S2 H2 v r) (q : Q r ρ2) : PostX X F.new σ S H ρ Q v H2 := by
  obtain ⟨as, o1, n1, f1⟩ := rr
  refine ⟨S2, ρ2, r, as, R2, E, o1, n1, fun a ha => ⟨?_, (f1 a ha).2⟩, q⟩
  cases e : H a with
  | none => rfl
  | some o => exact absurd (f1 a ha).1 (th a (by rw [e]; simp))
theorem jx_call {lvl : Nat} {F : FSpec} {t : VA} (hr : Room lvl X.A) (k : Known X lvl F) (hg : Gl X F.name) (h : JA X (e :: es) t) (hs : (e :: es).all notStar = true) : JX X F.new (.Call (.Name F.name p) (e :: es) [] pos) (tCallF F t) := by
  intro σ S H ρ Q hR ht
  exact call_core hr k hg h hs hR ht fun v r H1 S2 H2 ρ2 R2 E th rr q => call_x R2 E th rr q
theorem jx_callG {lvl : Nat} {F : FSpec} {t : VA} (hr : Room lvl X.A) (hgd : X.A.guards = some []) (k : KnownG X.prog X.w X.K X.mg X.base lvl F) (hg : Gl X F.name) (h : JA X (e :: es) t) (hs : (e :: es).all notStar = true) : JX X F.new (.Call (.Name F.name p) (e :: es) [] pos) (tCallF F t) := by
  intro σ S H ρ Q hR ht
  exact call_coreG hr hgd k hg h hs hR ht fun v r H1 S2 H2 ρ2 R2 E th rr q => call_x R2 E th rr q
/-- as a value: nothing of it is changed later -/
theorem JX.fz {t : VE} (hp : f.plain = true) (h : JX X f e t) : JE X e t := by
  intro σ S H ρ Q hR ht
  refine (h σ S H ρ Q hR ht).mono fun v H1 q => ?_
  obtain ⟨S1, ρ1, x, as, R1, E1, o1, n1, f1, q⟩ := q
  obtain ⟨S2, h1, h2, h3, h4⟩ := freeze f hp R1 o1 n1 fun a ha => ⟨(f1 a ha).2, fun z => own_new hR (f1 a ha).1 (E1.at.mpr z)⟩
  cases h3 with
  | cons hv _ =>
    refine ⟨S2, ρ1, x, h2, ⟨E1.same.trans h1, E1.there, fun b hb h0 => ?_, E1.keep, E1.kind, E1.oth⟩, hv, q⟩
    rw [h4 b fun z => hb (f1 b z).1]
    exact E1.stay b hb h0
end
/-! ### statements -/
section
variable {X : Cx} {new f : Fs} {F : List Nat} {pos : Pos} {e : Expr}
theorem js_retX {t : VE} (h : JX X f e t) : JS X f F (.Return (some e) pos) (tRetN t) := by
  intro σ S H ρ Qn Qr hR ht
  refine WS.of (ps_ret peW) ((h σ S H ρ _ hR ht).mono fun v H1 q => ?_)
  obtain ⟨S1, ρ1, x, as, R1, E1, o1, n1, f1, q⟩ := q
  exact ⟨σ, S1, ρ1, x, R1, E1.xs, ⟨as, o1, n1, fun a ha => ⟨(f1 a ha).2, .inr (f1 a ha).1⟩⟩, q⟩
def xOk (ρ : R) (ns : List Nat) : Bool := noLean (clr ns ρ) ns && (ns.all fun m => decide (m < ρ.length))
def tAsgX (f : Fs) (ns : List Nat) (t : VE) : VS := fun ρ Qn _ => t ρ fun x ρ1 => xOk ρ1 ns = true ∧ Qn (putF f ns [x] (clr ns ρ1))
/-- all slots but the first n stand without a name -/
def virOk (X : Cx) (k : Nat) (ns : List Nat) : Bool := (ns.drop k).all fun m => invis X m
theorem put_core {σ : L2.St} {S H S1 H1 : Hp} {ρ ρ1 : R} {ns : List Nat} {vs : List V} {xs : List D} {as : List Addr} (hR : Rel X.K (bd X) S H σ ρ) (R1 : Rel X.K (bd X) S1 H1 σ ρ1) (E1 : Ext σ S H ρ S1 H1 ρ1) (o1 : OwnF S1 H1 f vs xs as) (n1 : as.Nodup) (f1 : ∀ a ∈ as, H a = none ∧ S1 a = none)
    (hok : xOk ρ1 ns = true) (hsz : f.size ≤ ns.length) (hokf : okF (bd X) f ns = true) (hnd : ns.Nodup) (hF : (ns.all fun m => !F.contains m) = true) :
    ∃ σ', Rel X.K (bd X) S1 H1 σ' (putF f ns xs (clr ns ρ1)) ∧ XS F σ S H ρ σ' S1 H1 (putF f ns xs (clr ns ρ1)) ∧ Paired (fun (v : V) (m : Nat) => σ'[m]? = some (some v)) vs (f.roots ns) ∧ (∀ m, m ∉ ns → σ'[m]? = σ[m]?) ∧ σ'.length = σ.length := by
  rw [xOk, Bool.and_eq_true] at hok
  obtain ⟨c1, c2, c3⟩ := clr_ok (ns := ns) R1
  have no : ∀ a ∈ as, ¬ OwnAt σ (clr ns ρ1) a := fun a ha z => own_new hR (f1 a ha).1 (E1.at.mpr (c2 a z))
  obtain ⟨σ', p⟩ := forest_ok f c1 (c3 (RoOld.of hR E1)) o1 n1 (fun a ha => ⟨(f1 a ha).1, (f1 a ha).2, no a ha⟩) hnd hok.1 (fun m hm => by rw [clr_len]; exact of_decide_eq_true (List.all_eq_true.mp hok.2 m hm)) hsz hokf
  have hFm : ∀ j ∈ F, j ∉ ns := fun j hj z => by
    have := List.all_eq_true.mp hF j z
    rw [List.contains_iff_mem.mpr hj] at this
    cases this
  have out : ∀ m, m ∉ ns → σ'[m]? = σ[m]? ∧ (putF f ns xs (clr ns ρ1))[m]? = ρ1[m]? := fun m hm => by
    obtain ⟨q1, q2⟩ := p.out m fun z => hm (List.mem_of_mem_take z)
    exact ⟨q1, by rw [q2, clr_out hm]⟩
  refine ⟨σ', p.rel, ⟨E1.same, E1.there, fun b h h' _ => E1.stay b h h', E1.keep, fun b z => ?_, fun j hj => (out j (hFm j hj)).1, fun j hj h => ?_⟩, p.at_, fun m hm => (out m hm).1, by rw [p.rel.len, p.len, clr_len, ← R1.len]⟩
  · rcases p.own b z with z | z
    · exact .inl (E1.at.mpr (c2 b z))
    · exact .inr (f1 b z).1
  · rw [(out j (hFm j hj)).2]
    exact (E1.kind j).mp h
theorem js_setX {i : Nat} {ns : List Nat} {x : Str} {pos' : Pos} {k : SK} {c : Fs} {t : VE} (nd : X.N.Nodup) (hn : Sn X i x) (hv : virOk X 1 (i :: ns) = true) (hok : okF (bd X) (.pts k c .nil) (i :: ns) = true) (hsz : decide ((Fs.pts k c .nil).size ≤ (i :: ns).length) = true) (hnd : decide (i :: ns).Nodup = true) (hF : ((i :: ns).all fun m => !F.contains m) = true)
    (h : JX X (.pts k c .nil) e t) (hs : swapsWith e (some (.Name x pos')) pos.line X.env = pure false) : JS X new F (.Assign [.Name x pos'] e pos) (tAsgX (.pts k c .nil) (i :: ns) t) := by
  intro σ S H ρ Qn Qr hR ht
  refine WS.vir (WS.of (ps_set nd hn.n hn.l peW hs hn.f) ((h σ S H ρ _ hR ht).mono fun v H1 q => ?_))
  obtain ⟨S1, ρ1, y, as, R1, E1, o1, n1, f1, hx, q⟩ := q
  have hnd := of_decide_eq_true hnd
  obtain ⟨σ', R', X', at', out, hlen⟩ := put_core (F := F) hR R1 E1 o1 n1 f1 hx (of_decide_eq_true hsz) hok hnd hF
  have hi : i < σ.length := by
    rw [hR.len]
    rw [xOk, Bool.and_eq_true] at hx
    have := of_decide_eq_true (List.all_eq_true.mp hx.2 i List.mem_cons_self)
    rw [← R1.len, hR.len] at this
    exact this
  have e1 : σ'[i]? = some (some v) := by
    cases at' with
    | cons r _ => exact r
  refine ⟨σ', ⟨by rw [List.length_set]; exact hlen, fun j y hj hvis => ?_⟩, S1, _, R', X', q⟩
  · by_cases z : j = i
    · rw [z, e1, List.getElem?_set_self hi]
    · have hj' : j ∉ i :: ns := fun hm => by
        rcases List.mem_cons.mp hm with hm | hm
        · exact z hm
        · have hi := List.all_eq_true.mp hv j hm
          unfold invis at hi
          rw [hj] at hi
          have hi : X.env.scope.names.lookup y = none := Option.isNone_iff_eq_none.mp hi
          rcases hvis with q | q | q <;> (rw [hi] at q; cases q)
      rw [out j hj', List.getElem?_set_ne fun q => z q.symm]
end
end WA

/-! WA23: isinstance and len of a thing made of parts, text.count, names = a new thing. -/
namespace WA
open PySem PySem.Spec PyProof.Rows L2
section
variable {X : Cx} {pos p : Pos} {a b e : Expr} {ta tb : VT} {tp : PSl}
/-- the kind and the number of the parts -/
def stD (ρ : R) (m : Nat) : Option (Bool × Nat) := match ρ[m]? with
  | some (.st .lst is) => some (true, is.length)
  | some (.st .tup is) => some (false, is.length)
  | _ => none
def tIsiP (t : Ty) (tp : PSl) : VE := fun ρ Q => match tp ρ with
  | some m => match stD ρ m with
    | some (true, _) => Q (.bool (isiD t (.list []))) ρ
    | some (false, _) => Q (.bool (isiD t (.tuple []))) ρ
    | none => False
  | none => False
theorem je_isiP {t : Ty} {p2 : Pos} (hg : Gl X "isinstance") (hm : X.mg "isinstance" = none) (hg2 : Gl X t.name) (hm2 : X.mg t.name = none) (ha : JP X a tp) (hs : notStar a = true) : JE X (.Call (.Name "isinstance" p) [a, .Name t.name p2] [] pos) (tIsiP t tp) := by
  intro σ S H ρ Q hR ht
  unfold tIsiP at ht
  split at ht
  · rename_i m em
    refine W.of (pe_callB (id := "isinstance") clW hg hm (by decide +kernel) (pa_cons peW (pa_cons (pe_bltn (v := .ty t.s) hg2 hm2 t.boot rfl t.nn t.nd) pa_nil) (star_cons hs)) (by decide) (by decide) (star_cons hs) rfl) ((ha σ S H ρ m hR em).mono fun v H1 q => ?_)
    obtain ⟨rfl, hv⟩ := q
    unfold stD at ht
    split at ht
    · rename_i e1
      split at e1
      · rename_i is e2
        cases e1
        obtain ⟨c, vs, o, g1, g2, g3, g4, g5⟩ := hR.vir.st m _ is e2
        rw [hv] at g1
        cases g1
        cases g4
        exact WCl.of call_isi ⟨_, .ty t.s, _, _, _, rfl, .ty _, .base (.lst g3), isi_kit t "list" (.inr (.inr (.inr (.inr (.inl rfl))))), S, ρ, _, hR, .refl, .bl _, ht⟩
      · cases e1
      · cases e1
    · rename_i e1
      split at e1
      · cases e1
      · rename_i is e2
        cases e1
        obtain ⟨c, vs, o, g1, g2, g3, g4, g5⟩ := hR.vir.st m _ is e2
        rw [hv] at g1
        cases g1
        cases g4
        exact WCl.of call_isi ⟨_, .ty t.s, _, _, _, rfl, .ty _, .base (.tup g3), isi_kit t "tuple" (.inr (.inr (.inr (.inr (.inr rfl))))), S, ρ, _, hR, .refl, .bl _, ht⟩
      · cases e1
    · exact ht.elim
  · exact ht.elim
def tLenP (tp : PSl) : VE := fun ρ Q => match tp ρ with
  | some m => match stD ρ m with
    | some (_, n) => Q (.int n) ρ
    | none => False
  | none => False
theorem je_lenP (hg : Gl X "len") (hm : X.mg "len" = none) (ha : JP X a tp) (hs : notStar a = true) : JE X (.Call (.Name "len" p) [a] [] pos) (tLenP tp) := by
  intro σ S H ρ Q hR ht
  unfold tLenP at ht
  split at ht
  · rename_i m em
    refine W.of (pe_callB (id := "len") clW hg hm (by decide +kernel) (pa_cons peW pa_nil (star_cons hs)) (by decide) (by decide) (star_cons hs) rfl) ((ha σ S H ρ m hR em).mono fun v H1 q => ?_)
    obtain ⟨rfl, hv⟩ := q
    split at ht
    · rename_i k n e1
      unfold stD at e1
      split at e1
      · rename_i is e2
        cases e1
        obtain ⟨c, vs, o, g1, g2, g3, g4, g5⟩ := hR.vir.st m _ is e2
        rw [hv] at g1
        cases g1
        cases g4
        exact WCl.of call_len_seq ⟨c, vs, rfl, .inl (SqL.of g3), by rw [paired_len g5]; exact ⟨S, ρ, _, hR, .refl, .int _, ht⟩⟩
      · rename_i is e2
        cases e1
        obtain ⟨c, vs, o, g1, g2, g3, g4, g5⟩ := hR.vir.st m _ is e2
        rw [hv] at g1
        cases g1
        cases g4
        exact WCl.of call_len_seq ⟨c, vs, rfl, .inr (.of g3), by rw [paired_len g5]; exact ⟨S, ρ, _, hR, .refl, .int _, ht⟩⟩
      · cases e1
    · exact ht.elim
  · exact ht.elim
/-! ### text.count(text) -/
def tCntS (ta tb : VT) : VE := fun ρ Q => ta ρ fun u ρ1 => ∃ x, u = .val (.str x) ∧ tb ρ1 fun w ρ2 => match w with
  | .val (.str y) => Q (.int (Txt.count x y)) ρ2
  | _ => False
theorem je_cnt {apos : Pos} (ha : JT X a ta) (hb : JT X b tb) (hs : notStar b = true) (hba : attributeBase a "count" X.env (eval a X.env) = eval a X.env) (hl : (apos.endLine == pos.line) = true) : JE X (.Call (.Attribute a "count" apos) [b] [] pos) (tCntS ta tb) := by
  intro σ S H ρ Q hR ht
  refine W.of (pe_m1 F.slot_str_count F.type_str_count mt_count peW peW (star_cons hs) hba hl) ((ha σ S H ρ _ hR ht).mono fun v H1 q => ?_)
  obtain ⟨S1, ρ1, u, R1, E1, d1, z0, rfl, q1⟩ := q
  have ev : v = .str z0 := by cases d1; rfl
  refine ⟨⟨z0, ev⟩, (hb σ S1 H1 ρ1 _ R1 q1).mono fun w H2 q => ?_⟩
  obtain ⟨S2, ρ2, t, R2, E2, d2, q2⟩ := q
  split at q2
  · rename_i y
    have ew : w = .str y := by cases d2; rfl
    exact ⟨z0, y, ev, by rw [ew], S2, ρ2, _, R2, E1.trans E2, .int _, q2⟩
  · exact q2.elim
end
/-! ### xs.remove(text) -/
section
variable {X : Cx} {pos p : Pos} {a : Expr} {ta : VT}
theorem strOf_at (k : Str) : ∀ {vs : List Value} {ns : List Str}, StrsAre vs ns → ∀ (i : Nat) (h : i < vs.length), isStrOf k vs[i] = true ↔ ns[i]? = some k
  | _, _, .nil, i, h => absurd h (by simp)
  | _, _, .cons n t hr, 0, _ => by
    show (n == k) = true ↔ some n = some k
    rw [beq_iff_eq, Option.some_inj]
  | _, _, .cons n t hr, i + 1, h => strOf_at k hr i (Nat.lt_of_succ_lt_succ h)
theorem strs_len : ∀ {vs : List Value} {ns : List Str}, StrsAre vs ns → vs.length = ns.length
  | _, _, .nil => rfl
  | _, _, .cons _ _ h => congrArg (· + 1) (strs_len h)
theorem first_of : ∀ {ns : List Str} {k : Str}, k ∈ ns → ∃ j, j < ns.length ∧ ns[j]? = some k ∧ (∀ i, i < j → ns[i]? ≠ some k) ∧ ns.eraseIdx j = ns.erase k
  | [], k, h => absurd h (by simp)
  | a :: r, k, h => by
    by_cases e : a = k
    · refine ⟨0, Nat.succ_pos _, by rw [e]; rfl, fun i hi => absurd hi (Nat.not_lt_zero _), ?_⟩
      rw [e, List.erase_cons_head]; rfl
    · have hr : k ∈ r := by
        rcases List.mem_cons.mp h with z | z
        · exact absurd z.symm e
        · exact z
      obtain ⟨j, h1, h2, h3, h4⟩ := first_of hr
      refine ⟨j + 1, Nat.succ_lt_succ h1, h2, fun i hi => ?_, ?_⟩
      · cases i with
        | zero =>
          intro z
          exact e (Option.some.inj z)
        | succ i => exact h3 i (Nat.lt_of_succ_lt_succ hi)
      · rw [List.erase_cons_tail (by rw [beq_iff_eq]; exact e), ← h4]; rfl
def rRemS : V → List V → Hp → VK → Prop := fun x vs H Q => ∃ (l : Addr) (ns : List Str) (k : Str), x = .ref l ∧ vs = [.str k] ∧ H l = some (.lst (ns.map V.str)) ∧ k ∈ ns ∧ Q .non (upd H l (.lst ((ns.erase k).map V.str)))
theorem mt_remS : MtM X "list.remove" rRemS := by
  intro pins s σ H x vs v us Q I rx rv h
  obtain ⟨l, ns, k, rfl, rfl, hH, hk, q⟩ := h
  cases rx
  obtain ⟨u, rfl, ru⟩ := rv.one
  obtain ⟨t, rfl⟩ := ru
  obtain ⟨z, its, n, r, hl, e0⟩ := I.lstM hH
  have hi : StrsAre its ns := strs_of_vals r
  have heq := eq_isStrOf k t hi
  have hnl := strs_len hi
  have hsz : its.toArray.size ≤ sizeLine := by rw [List.size_toArray, ← hl]; exact z
  obtain ⟨j, j1, j2, j3, j4⟩ := first_of hk
  have hj : j < its.length := by omega
  refine call_meets PySem.F.slot_list_remove ⟨_, e0, rfl⟩ PySem.F.entry_list_remove (PySem.F.args_list_remove_2 _ _)
    (MeetsSeq.list_remove l its.toArray n (.str k t) (isStrOf k) (fun y hy => heq y (by simpa using hy)) j (by rw [List.size_toArray]; exact hj) ?hit (fun i hi2 hlt => ?hno) hsz) ⟨e0, ?_⟩
  case hit =>
    show isStrOf k its[j] = true
    exact (strOf_at k hi j hj).mpr j2
  case hno =>
    have hi3 : i < its.length := by rw [List.size_toArray] at hi2; exact hi2
    show isStrOf k its[i] = false
    rw [Bool.eq_false_iff]
    intro w
    exact j3 i hlt ((strOf_at k hi i hi3).mp w)
  have me : ∀ (ns : List Str) (j : Nat), (ns.map V.str).eraseIdx j = (ns.eraseIdx j).map V.str := fun ns => by
    induction ns with
    | nil => intro j; rfl
    | cons a r ih =>
      intro j
      cases j with
      | zero => rfl
      | succ j =>
        show V.str a :: (r.map V.str).eraseIdx j = V.str a :: (r.eraseIdx j).map V.str
        rw [ih j]
  have r2 : Vals ((ns.erase k).map V.str) (its.eraseIdx j) := by
    have w := r.eraseIdx j
    rw [me, j4] at w
    exact w
  refine ⟨.non, _, I.lset (its' := its.eraseIdx j) hH e0 ?_ r2 ?_, rfl, q⟩
  · show its.toArray.eraseIdxIfInBounds j = (its.eraseIdx j).toArray
    rw [List.eraseIdxIfInBounds_toArray]
  · rw [List.length_map]
    have := List.length_erase_le (a := k) (l := ns)
    rw [List.length_map] at z
    omega
def tRem (i : Nat) (te : VT) : VE := fun ρ Q => isOwn ρ i ∧ te ρ fun u ρ1 => match u, ρ1[i]? with
  | .val (.str k), some (.own xs) => ∃ ss : List Str, xs = ss.map PyData.str ∧ k ∈ ss ∧ Q .none (ρ1.set i (.own ((ss.erase k).map PyData.str)))
  | _, _ => False
theorem je_rem {i : Nat} {x : Str} {apos : Pos} (hn : Nm X i x) (ha : JT X a ta) (hs : notStar a = true) (hl : (apos.endLine == pos.line) = true) : JE X (.Call (.Attribute (.Name x p) "remove" apos) [a] [] pos) (tRem i ta) := by
  intro σ S H ρ Q hR ht
  obtain ⟨⟨zs, hz⟩, ht⟩ := ht
  obtain ⟨l, ws, l1, l2, l3, l4⟩ := hR.own i zs hz
  refine W.of (pe_bm PySem.F.plainAttrs_list PySem.F.slot_list_remove PySem.F.type_list_remove mt_remS hn.pe (pa_cons peW pa_nil (star_cons hs)) rfl (few1 hs) hl (star_cons hs) rfl) ?_
  refine ⟨.ref l, l1, .inl ⟨rfl, _, SqL.of l3⟩, (ha σ S H ρ _ hR ht).mono fun v H1 q => ?_⟩
  obtain ⟨S1, ρ1, u, R1, E1, d1, q1⟩ := q
  split at q1
  · rename_i k xs e
    obtain ⟨ss, rfl, hk, q1⟩ := q1
    obtain ⟨b, vs, b1, b2, b3, b4⟩ := R1.own i _ e
    rw [l1] at b1
    cases b1
    have ev : v = .str k := by cases d1; rfl
    have evs := rps_strs b4
    subst evs
    exact ⟨l, ss, k, rfl, by rw [ev], b3, hk, S1, _, .none, R1.put e l1 (rps_of_strs _), E1.trans (.put R1 e l1), .non, q1⟩
  · exact q1.elim
end
end WA

/-! WA24: objects of classes: fields read and stored. -/
namespace WA
open PySem PySem.Spec PyProof.Rows L2
/-- what stands in the slots of fields: values, own lists -/
def rdF : Fs → R → List Nat → Option (List D)
  | .nil, _, [] => some []
  | .val t, ρ, m :: ms => match ρ[m]? with
    | some (.v x) => (rdF t ρ ms).map (x :: ·)
    | _ => none
  | .lst t, ρ, m :: ms => match ρ[m]? with
    | some (.own xs) => (rdF t ρ ms).map (.list xs :: ·)
    | _ => none
  | _, _, _ => none
section
variable {K : PySem.W.Frag} {B : Nat} {S H S' H' : Hp} {σ : L2.St} {ρ : R}
theorem rd_own (hR : Rel K B S H σ ρ) : ∀ (c : Fs) {is : List Nat} {us : List V} {ys : List D}, rdF c ρ is = some ys → Paired (fun (v : V) (m : Nat) => B ≤ m ∧ σ[m]? = some (some v)) us is → is.Nodup →
    ∃ bs, OwnF S H c us ys bs ∧ bs.Nodup ∧ ∀ b ∈ bs, S b = none ∧ ∃ m ∈ is, (∃ xs, ρ[m]? = some (.own xs)) ∧ σ[m]? = some (some (.ref b))
  | .nil, [], _, ys, h, .nil, _ => by
    cases h
    exact ⟨[], ⟨rfl, rfl, rfl⟩, by simp, fun _ h => by cases h⟩
  | .nil, _ :: _, _, _, h, _, _ => by cases h
  | .val t, [], _, _, h, _, _ => by cases h
  | .lst t, [], _, _, h, _, _ => by cases h
  | .pts _ _ _, is, _, _, h, _, _ => by cases is <;> cases h
  | .val t, m :: ms, _, ys, h, .cons (a := u) r tl, hn => by
    rw [List.nodup_cons] at hn
    unfold rdF at h
    split at h
    · rename_i x ex
      cases q : rdF t ρ ms with
      | none => rw [q] at h; cases h
      | some zs =>
        rw [q] at h
        cases h
        obtain ⟨bs, h1, h2, h3⟩ := rd_own hR t q tl hn.2
        obtain ⟨w, g1, g2⟩ := hR.val m x ex
        rw [r.2] at g1
        cases g1
        refine ⟨bs, ⟨u, x, _, zs, rfl, rfl, g2, h1⟩, h2, fun b hb => ?_⟩
        obtain ⟨k1, k, k2, k3⟩ := h3 b hb
        exact ⟨k1, k, List.mem_cons_of_mem _ k2, k3⟩
    · cases h
  | .lst t, m :: ms, _, ys, h, .cons (a := u) r tl, hn => by
    rw [List.nodup_cons] at hn
    unfold rdF at h
    split at h
    · rename_i x ex
      cases q : rdF t ρ ms with
      | none => rw [q] at h; cases h
      | some zs =>
        rw [q] at h
        cases h
        obtain ⟨bs, h1, h2, h3⟩ := rd_own hR t q tl hn.2
        obtain ⟨a, ws, g1, g2, g3, g4⟩ := hR.own m x ex
        have g0 := g1
        rw [r.2] at g1
        cases g1
        refine ⟨a :: bs, ⟨a, ws, x, _, zs, bs, rfl, rfl, rfl, g3, g4, h1⟩, List.nodup_cons.mpr ⟨fun hm => ?_, h2⟩, fun b hb => ?_⟩
        · obtain ⟨_, k, k2, ⟨ys, k3⟩, k4⟩ := h3 a hm
          have := hR.sep m k _ _ a (ow ex) (ow k3) g0 k4
          exact hn.1 (this ▸ k2)
        · rcases List.mem_cons.mp hb with rfl | hb
          · exact ⟨g2, m, List.mem_cons_self, ⟨x, ex⟩, g0⟩
          · obtain ⟨k1, k, k2, k3⟩ := h3 b hb
            exact ⟨k1, k, List.mem_cons_of_mem _ k2, k3⟩
    · cases h
/-- an object in a slot, with all that it is made of -/
structure ObIs (K : PySem.W.Frag) (B : Nat) (S H : Hp) (σ : L2.St) (ρ : R) (C : Addr) (fs : List Str) (c : Fs) (i : Nat) (is : List Nat) (ys : List D) (a dx : Addr) (us : List V) (bs : List Addr) : Prop where
  at_ : σ[i]? = some (some (.ref a))
  obj : H a = some (.ins C dx (fs.zip us))
  len : fs.length = us.length
  dict : H dx = some (.own a)
  pair : Paired (fun (v : V) (m : Nat) => B ≤ m ∧ σ[m]? = some (some v)) us is
  own : OwnF S H c us ys bs
  nd : (a :: dx :: bs).Nodup
  new : ∀ b ∈ a :: dx :: bs, S b = none
  its : ∀ b ∈ bs, ∃ m ∈ is, (∃ xs, ρ[m]? = some (.own xs)) ∧ σ[m]? = some (some (.ref b))
  ndx : ¬ OwnAt σ ρ dx
theorem get_ob (hR : Rel K B S H σ ρ) {C : Addr} {fs : List Str} {c : Fs} {i : Nat} {is : List Nat} {ys : List D} (hi : ρ[i]? = some (.st (.ins C fs) is)) (hr : rdF c ρ is = some ys) (hnd : is.Nodup) : ∃ a dx us bs, ObIs K B S H σ ρ C fs c i is ys a dx us bs := by
  obtain ⟨a, us, o, e1, e2, e3, e4, e5⟩ := hR.vir.st i _ is hi
  obtain ⟨l, dx, rfl, hd⟩ := e4
  obtain ⟨d1, d2⟩ := hR.vir.dx i C fs is a dx _ hi e1 e3
  obtain ⟨bs, h1, h2, h3⟩ := rd_own hR c hr e5 hnd
  have hbo : ∀ b ∈ bs, OwnAt σ ρ b := fun b hb => by
    obtain ⟨_, k, _, ⟨xs, k3⟩, k4⟩ := h3 b hb
    exact ⟨k, _, ow k3, k4⟩
  have hao : OwnAt σ ρ a := ⟨i, _, ⟨hi, rfl⟩, e1⟩
  refine ⟨a, dx, us, bs, e1, e3, l, hd, e5, h1, ?_, fun b hb => ?_, fun b hb => (h3 b hb).2, d2⟩
  · refine List.nodup_cons.mpr ⟨fun hm => ?_, List.nodup_cons.mpr ⟨fun hm => d2 (hbo dx hm), h2⟩⟩
    rcases List.mem_cons.mp hm with z | hm
    · exact d2 (z ▸ hao)
    · obtain ⟨_, k, _, ⟨xs, k3⟩, k4⟩ := h3 a hm
      have := hR.sep i k _ _ a ⟨hi, rfl⟩ (ow k3) e1 k4
      subst this
      rw [hi] at k3
      cases k3
  · rcases List.mem_cons.mp hb with rfl | hb
    · exact e2
    · rcases List.mem_cons.mp hb with rfl | hb
      · exact d1
      · exact (h3 b hb).1
theorem ObIs.ow {C : Addr} {fs : List Str} {c : Fs} {i : Nat} {is : List Nat} {ys : List D} {a dx : Addr} {us : List V} {bs : List Addr} (O : ObIs K B S H σ ρ C fs c i is ys a dx us bs) (hi : ρ[i]? = some (.st (.ins C fs) is)) : ∀ b ∈ a :: bs, ∃ m ∈ i :: is, ∃ s, Ow ρ m s ∧ σ[m]? = some (some (.ref b)) := fun b hb => by
  rcases List.mem_cons.mp hb with rfl | hb
  · exact ⟨i, List.mem_cons_self, _, ⟨hi, rfl⟩, O.at_⟩
  · obtain ⟨k, k2, ⟨xs, k3⟩, k4⟩ := O.its b hb
    exact ⟨k, List.mem_cons_of_mem _ k2, _, WA.ow k3, k4⟩
theorem ObIs.fs {C : Addr} {fs : List Str} {c : Fs} {i : Nat} {is : List Nat} {ys : List D} {a dx : Addr} {us : List V} {bs : List Addr} (O : ObIs K B S H σ ρ C fs c i is ys a dx us bs) : OwnF S H (.pts (.ins C fs) c .nil) [.ref a] [.list ys] (a :: ([dx] ++ (bs ++ []))) :=
  ⟨a, us, ys, _, bs, [], [], [], rfl, rfl, rfl, O.obj, ⟨O.len, dx, rfl, O.dict⟩, O.own, rfl, rfl, rfl⟩
/-- behind a call that may change an object -/
structure CExtO (S H : Hp) (as : List Addr) (S' H' : Hp) : Prop where
  sub : Same S' H'
  same : Same S S'
  there : ∀ b, H b ≠ none → H' b ≠ none
  stay : ∀ b, H b ≠ none → S b = none → b ∉ as → S' b = none
  keep : ∀ b o, H b = some o → S b = none → b ∉ as → H' b = some o
theorem CExtO.kept {as : List Addr} (C : CExtO S H as S' H') (hS : Same S H) {b : Addr} {o : HO} (h : H b = some o) (n : b ∉ as) : H' b = some o := by
  cases hs : S b with
  | none => exact C.keep b o h hs n
  | some o2 =>
    have e := hS _ _ hs
    rw [h] at e
    cases e
    exact C.sub _ _ (C.same _ _ hs)
theorem clr_get : ∀ {ns : List Nat} {ρ : R} {j : Nat} {s : Sl}, (clr ns ρ)[j]? = some s → s ≠ .no → ρ[j]? = some s
  | [], _, _, _, h, _ => h
  | n :: ns, ρ, j, s, h, hn => by
    have h1 := clr_get (ns := ns) h hn
    rcases get_set h1 with ⟨_, q, _⟩ | ⟨_, q⟩
    · exact absurd q hn
    · exact q
theorem clr_in : ∀ {ns : List Nat} {ρ : R} {j : Nat} {s : Sl}, (clr ns ρ)[j]? = some s → s ≠ .no → j ∉ ns
  | [], _, _, _, _, _ => by simp
  | n :: ns, ρ, j, s, h, hn => fun hm => by
    rcases List.mem_cons.mp hm with rfl | hm
    · have h1 := clr_get (ns := ns) h hn
      rcases get_set h1 with ⟨_, q, _⟩ | ⟨z, _⟩
      · exact hn q
      · exact z rfl
    · exact clr_in (ns := ns) h hn hm
/-- the slots but those of the object, behind a call -/
theorem ob_rel {as ns : List Addr} (R : Rel K B S H σ ρ) (has : ∀ b ∈ as, ∃ m ∈ ns, ∃ s, Ow ρ m s ∧ σ[m]? = some (some (.ref b))) (C : CExtO S H as S' H') : Rel K B S' H' σ (clr ns ρ) := by
  have Rc := (clr_ok (ns := ns) R).1
  have oc := (clr_ok (ns := ns) R).2.1
  have out : ∀ {j : Nat} {s : Sl} {b : Addr}, Ow (clr ns ρ) j s → σ[j]? = some (some (.ref b)) → b ∉ as := fun {j s b} h e hm => by
    have hs : s ≠ .no := fun z => by have := h.2; rw [z] at this; cases this
    obtain ⟨m, hm, t, h2, e2⟩ := has b hm
    have := R.sep j m _ _ b ⟨clr_get h.1 hs, h.2⟩ h2 e e2
    exact clr_in h.1 hs (this ▸ hm)
  refine ⟨Rc.len, C.sub, fun j x hx => ?_, fun j zs hx => ?_, fun j k zs hx => ?_, Rc.sep, ⟨fun j k is h => ?_, Rc.vir.al, fun j C' fs is a d us h ha hH => ?_⟩⟩
  · obtain ⟨w, a, b⟩ := Rc.val j x hx
    exact ⟨w, a, b.mono C.same⟩
  · obtain ⟨b, ws, b1, b2, b3, b4⟩ := Rc.own j zs hx
    have n := out (WA.ow hx) b1
    exact ⟨b, ws, b1, C.stay b (by rw [b3]; simp) b2 n, C.kept R.sub b3 n, b4.mono C.same⟩
  · obtain ⟨b, ws, b1, b2, b3⟩ := R.ro j k zs (clr_get hx (fun z => by cases z))
    refine ⟨b, ws, b1, b2.to (fun o q n => C.kept R.sub q fun hm => ?_) (fun _ z => oc b z), b3.mono C.same⟩
    obtain ⟨m, _, t, h2, e2⟩ := has b hm
    exact n ⟨m, t, h2, e2⟩
  · obtain ⟨a, vs, o, e1, e2, e3, e4, e5⟩ := Rc.vir.st j k is h
    have n := out ⟨h, rfl⟩ e1
    refine ⟨a, vs, o, e1, C.stay a (by rw [e3]; simp) e2 n, C.kept R.sub e3 n, ?_, e5⟩
    cases k with
    | lst => exact e4
    | tup => exact e4
    | ins C' fs =>
      obtain ⟨l, d, rfl, hd⟩ := e4
      have hj := clr_get h (fun z => by cases z)
      obtain ⟨q1, q2⟩ := R.vir.dx j C' fs is a d _ hj e1 e3
      refine ⟨l, d, rfl, C.kept R.sub hd fun hm => ?_⟩
      obtain ⟨m, _, t, h2, e2⟩ := has d hm
      exact q2 ⟨m, t, h2, e2⟩
  · obtain ⟨a', vs, o, e1, e2, e3, e4, e5⟩ := Rc.vir.st j _ is h
    rw [ha] at e1
    cases e1
    have n := out ⟨h, rfl⟩ ha
    have := C.kept R.sub e3 n
    rw [hH] at this
    cases this
    obtain ⟨l, d', q, hd⟩ := e4
    cases q
    have hj := clr_get h (fun z => by cases z)
    obtain ⟨q1, q2⟩ := R.vir.dx j C' fs is a d _ hj ha e3
    refine ⟨C.stay d (by rw [hd]; simp) q1 fun hm => ?_, fun z => q2 (oc d z)⟩
    obtain ⟨m, _, t, h2, e2⟩ := has d hm
    exact q2 ⟨m, t, h2, e2⟩
theorem not_mem_nil' {α : Type} (b : α) : b ∉ ([] : List α) := by simp
/-- .. and the object's own, told anew -/
theorem ob_put {C : Addr} {fs fs1 : List Str} {c c1 : Fs} {i : Nat} {is ns : List Nat} {ys zs : List D} {a dx dx' : Addr} {us us' : List V} {bs bs' : List Addr} (R : Rel K B S H σ ρ) (hi : ρ[i]? = some (.st (.ins C fs) is)) (O : ObIs K B S H σ ρ C fs c i is ys a dx us bs) (E : CExtO S H (a :: bs) S' H')
    (hsub : ∀ m ∈ i :: is, m ∈ ns) (hob : H' a = some (.ins C dx' (fs1.zip us'))) (hlen : fs1.length = us'.length) (hdict : H' dx' = some (.own a)) (hown : OwnF S' H' c1 us' zs bs') (hnd : (a :: dx' :: bs').Nodup) (hnew : ∀ b ∈ a :: dx' :: bs', S' b = none) (hbs : ∀ b ∈ bs', b ∈ bs ∨ H b = none)
    (hnn : (i :: ns.tail).Nodup) (hns : ns = i :: ns.tail) (hle : noLean (clr ns ρ) ns = true) (hlt : ∀ m ∈ ns, m < ρ.length) (hsz : c1.size + 1 ≤ ns.length) (hok : okF B (.pts (.ins C fs1) c1 .nil) ns = true) :
    ∃ σ', PutOk K B S' H' (fun b => if b ∈ a :: dx' :: bs' then none else H' b) σ (clr ns ρ) [.ref a] (a :: ([dx'] ++ (bs' ++ []))) ((Fs.pts (.ins C fs1) c1 .nil).roots ns) (ns.take (Fs.pts (.ins C fs1) c1 .nil).size) σ' (putF (.pts (.ins C fs1) c1 .nil) ns [.list zs] (clr ns ρ)) := by
  have Rc : Rel K B S' H' σ (clr ns ρ) := ob_rel R (fun b hb => by
    obtain ⟨m, hm, s, h⟩ := O.ow hi b hb
    exact ⟨m, hsub m hm, s, h⟩) E
  have oc := (clr_ok (ns := ns) R).2.1
  have eas : a :: ([dx'] ++ (bs' ++ [])) = a :: dx' :: bs' := by simp
  have hao : OwnAt σ ρ a := ⟨i, _, ⟨hi, rfl⟩, O.at_⟩
  have hF : OwnF S' H' (.pts (.ins C fs1) c1 .nil) [.ref a] [.list zs] (a :: ([dx'] ++ (bs' ++ []))) := ⟨a, us', zs, _, bs', [], [], [], rfl, rfl, rfl, hob, ⟨hlen, dx', rfl, hdict⟩, hown, rfl, rfl, rfl⟩
  have old : ∀ {b : Addr}, H b ≠ none → ¬ OwnAt σ ρ b → b ∈ a :: dx' :: bs' → b = dx' := fun {b} hb n hm => by
    rcases List.mem_cons.mp hm with z | hm
    · exact absurd (z ▸ hao) n
    · rcases List.mem_cons.mp hm with z | hm
      · exact z
      · rcases hbs b hm with z | z
        · obtain ⟨m, _, s, h2, e2⟩ := O.ow hi b (List.mem_cons_of_mem _ z)
          exact absurd ⟨m, s, h2, e2⟩ n
        · exact absurd z hb
  refine forest_ok _ Rc (fun j k xs q => ?_) hF (by rw [eas]; exact hnd) (fun b hb => ?_) (by rw [hns]; exact hnn) hle (fun m hm => by rw [clr_len]; exact hlt m hm) hsz hok
  · obtain ⟨b, ws, b1, b2, b3⟩ := R.ro j k xs (clr_get q (fun z => by cases z))
    refine ⟨b, b1, ?_⟩
    rcases b2 with ⟨rfl, g⟩ | ⟨⟨o, ho, g⟩, n⟩
    · exact .inr ⟨rfl, ws, g, b3.mono E.same⟩
    · refine .inl ?_
      have hk : H' b = some o := E.kept R.sub g fun hm => by
        obtain ⟨m, _, s, h2, e2⟩ := O.ow hi b hm
        exact n ⟨m, s, h2, e2⟩
      have hn : b ∉ a :: dx' :: bs' := fun hm => by
        have := old (by rw [g]; simp) n hm
        rw [this, hdict] at hk
        cases hk
        rcases ho with z | ⟨_, _, z⟩ <;> cases z
      show (if b ∈ a :: dx' :: bs' then none else H' b) ≠ none
      rw [if_neg hn, hk]
      simp
  · rw [eas] at hb
    refine ⟨if_pos hb, hnew b hb, fun z => ?_⟩
    obtain ⟨m, s, h2, e2⟩ := z
    have hs : s ≠ .no := fun z => by have := h2.2; rw [z] at this; cases this
    have hm := clr_in h2.1 hs
    have hO : Ow ρ m s := ⟨clr_get h2.1 hs, h2.2⟩
    rcases List.mem_cons.mp hb with z | hb'
    · subst z
      have := R.sep m i _ _ b hO ⟨hi, rfl⟩ e2 O.at_
      exact hm (hsub m (by rw [this]; exact List.mem_cons_self))
    · rcases List.mem_cons.mp hb' with z | hb'
      · obtain ⟨_, u, h3, h4⟩ := Rc.own_at ⟨m, s, h2, e2⟩
        rw [z, hdict] at h3
        cases h3
        cases h4
      · rcases hbs b hb' with z | z
        · obtain ⟨k, k1, t, k3, k4⟩ := O.ow hi b (List.mem_cons_of_mem _ z)
          have := R.sep m k _ _ b hO k3 e2 k4
          exact hm (hsub m (by rw [this]; exact k1))
        · obtain ⟨_, u, h3, _⟩ := R.own_at ⟨m, s, hO, e2⟩
          rw [z] at h3
          cases h3
end
end WA

/-! WA25: x.f read, x.f.append(e), x.f[k] = e, x.f = e. -/
namespace WA
open PySem PySem.Spec PyProof.Rows L2
theorem lookup_zip {f : Str} {v : V} : ∀ {fs : List Str} {vs : List V} {c : Nat}, fs.Nodup → fs[c]? = some f → vs[c]? = some v → (fs.zip vs).lookup f = some v
  | [], _, _, _, h, _ => by simp at h
  | g :: fs, [], _, _, _, h => by simp at h
  | g :: fs, w :: vs, 0, _, h1, h2 => by
    simp at h1 h2
    subst h1 h2
    simp
  | g :: fs, w :: vs, c + 1, hn, h1, h2 => by
    rw [List.nodup_cons] at hn
    have h1 : fs[c]? = some f := by simpa using h1
    have h2 : vs[c]? = some v := by simpa using h2
    have ne : f ≠ g := fun z => hn.1 (z ▸ List.mem_of_getElem? h1)
    have := lookup_zip hn.2 h1 h2
    show (match f == g with | true => some w | false => (fs.zip vs).lookup f) = some v
    rw [beq_eq_false_iff_ne.mpr ne]
    exact this
theorem lookup_zip_none {f : Str} : ∀ {fs : List Str} {vs : List V}, f ∉ fs → (fs.zip vs).lookup f = none
  | [], _, _ => rfl
  | g :: fs, [], _ => rfl
  | g :: fs, w :: vs, h => by
    have ne : f ≠ g := fun z => h (by rw [z]; exact List.mem_cons_self)
    show (match f == g with | true => some w | false => (fs.zip vs).lookup f) = none
    rw [beq_eq_false_iff_ne.mpr ne]
    exact lookup_zip_none fun z => h (List.mem_cons_of_mem _ z)
theorem put_zip {f : Str} {y : V} : ∀ {fs : List Str} {vs : List V} {c : Nat}, fs.Nodup → fs[c]? = some f → fs.length = vs.length → L2.putF f y (fs.zip vs) = fs.zip (vs.set c y)
  | [], _, _, _, h, _ => by simp at h
  | g :: fs, [], _, _, _, h => by cases h
  | g :: fs, w :: vs, 0, _, h1, _ => by
    simp at h1
    subst h1
    show (if g = g then (g, y) :: (fs.zip vs) else _) = (g, y) :: (fs.zip vs)
    rw [if_pos rfl]
  | g :: fs, w :: vs, c + 1, hn, h1, hl => by
    rw [List.nodup_cons] at hn
    have h1 : fs[c]? = some f := by simpa using h1
    have ne : ¬ g = f := fun z => hn.1 (z ▸ List.mem_of_getElem? h1)
    show (if g = f then (g, y) :: (fs.zip vs) else (g, w) :: L2.putF f y (fs.zip vs)) = (g, w) :: (fs.zip (vs.set c y))
    rw [if_neg ne, put_zip hn.2 h1 (by simpa using hl)]
theorem put_zip_new {f : Str} {y : V} : ∀ {fs : List Str} {vs : List V}, f ∉ fs → fs.length = vs.length → L2.putF f y (fs.zip vs) = (fs ++ [f]).zip (vs ++ [y])
  | [], [], _, _ => rfl
  | [], _ :: _, _, h => by cases h
  | g :: fs, [], _, h => by cases h
  | g :: fs, w :: vs, hn, hl => by
    have ne : ¬ g = f := fun z => hn (by rw [z]; exact List.mem_cons_self)
    show (if g = f then (g, y) :: (fs.zip vs) else (g, w) :: L2.putF f y (fs.zip vs)) = (g, w) :: ((fs ++ [f]).zip (vs ++ [y]))
    rw [if_neg ne, put_zip_new (fun z => hn (List.mem_cons_of_mem _ z)) (by simpa using hl)]
/-! ### weaker readings -/
section
variable {X : Cx} {e : Expr} {st : Stmt} {new : Fs} {F : List Nat}
theorem JT.imp {t t' : VT} (h : JT X e t) (hi : ∀ ρ Q, t' ρ Q → t ρ Q) : JT X e t' := fun σ S H ρ Q hR ht => h σ S H ρ Q hR (hi ρ Q ht)
theorem JE.imp {t t' : VE} (h : JE X e t) (hi : ∀ ρ Q, t' ρ Q → t ρ Q) : JE X e t' := fun σ S H ρ Q hR ht => h σ S H ρ Q hR (hi ρ Q ht)
theorem JS.imp {t t' : VS} (h : JS X new F st t) (hi : ∀ ρ Qn Qr, t' ρ Qn Qr → t ρ Qn Qr) : JS X new F st t' := fun σ S H ρ Qn Qr hR ht => h σ S H ρ Qn Qr hR (hi ρ Qn Qr ht)
end
/-! ### ways to fields -/
def pFd (C : Addr) (fs : List Str) (is : List Nat) (i m : Nat) : PSl := fun ρ => match ρ[i]? with
  | some (.st (.ins C' fs') is') => if C' = C ∧ fs' = fs ∧ is' = is then some m else none
  | _ => none
theorem pFd_at {C : Addr} {fs : List Str} {is : List Nat} {i m : Nat} {ρ : R} (h : ρ[i]? = some (.st (.ins C fs) is)) : pFd C fs is i m ρ = some m := by
  unfold pFd
  rw [h]
  exact if_pos ⟨rfl, rfl, rfl⟩
theorem pFd_of {C : Addr} {fs : List Str} {is : List Nat} {i m k : Nat} {ρ : R} (h : pFd C fs is i m ρ = some k) : ρ[i]? = some (.st (.ins C fs) is) ∧ k = m := by
  unfold pFd at h
  split at h
  · rename_i C' fs' is' e
    split at h
    · rename_i q
      cases h
      obtain ⟨rfl, rfl, rfl⟩ := q
      exact ⟨e, rfl⟩
    · cases h
  · cases h
section
variable {X : Cx} {pos p : Pos} {C : Addr} {fs : List Str} {is : List Nat} {i m c : Nat} {x f : Str}
theorem jp_fd (hn : Nm X i x) (hC : Cls X.K C) (na : NoAttr X.K C f) (hnd : decide fs.Nodup = true) (hf : fs[c]? = some f) (hm : is[c]? = some m) (hb : attributeBase (.Name x p) f X.env (eval (.Name x p) X.env) = eval (.Name x p) X.env) : JP X (.Attribute (.Name x p) f pos) (pFd C fs is i m) := by
  intro σ S H ρ k hR ht
  obtain ⟨hi, rfl⟩ := pFd_of ht
  obtain ⟨a, vs, o, e1, e2, e3, e4, e5⟩ := hR.vir.st i _ is hi
  obtain ⟨l, dx, rfl, hd⟩ := e4
  obtain ⟨w, w1, _, w2⟩ := paired_at e5 hm
  exact W.of (pe_fld hn.pe hb) ⟨_, e1, a, C, dx, _, w, rfl, e3, hC, na, lookup_zip (of_decide_eq_true hnd) hf w1, rfl, w2⟩
/-- the object at i stands with its fields in the slots is; then its field in slot m -/
def tFd (C : Addr) (fs : List Str) (is : List Nat) (i m : Nat) : VT := fun ρ Q => ρ[i]? = some (.st (.ins C fs) is) ∧ tSl m ρ Q
theorem jt_fd {e : Expr} (h : JP X e (pFd C fs is i m)) : JT X e (tFd C fs is i m) := (jt_path h).imp fun ρ Q q => by
  unfold tPath
  rw [pFd_at q.1]
  exact q.2
def tFdAt (C : Addr) (fs : List Str) (is : List Nat) (i m : Nat) (f : Nat → VE) : VE := fun ρ Q => ρ[i]? = some (.st (.ins C fs) is) ∧ f m ρ Q
theorem tFdAt_to {f : Nat → VE} {ρ : R} {Q : D → R → Prop} (q : tFdAt C fs is i m f ρ Q) : tAt (pFd C fs is i m) f ρ Q := by
  unfold tAt
  rw [pFd_at q.1]
  exact q.2
theorem je_appF {e a : Expr} {ta : VT} {apos : Pos} (h : JP X e (pFd C fs is i m)) (ha : JT X a ta) (hs : notStar a = true) (hba : attributeBase e "append" X.env (eval e X.env) = eval e X.env) (hl : (apos.endLine == pos.line) = true) : JE X (.Call (.Attribute e "append" apos) [a] [] pos) (tFdAt C fs is i m fun i => tApp i ta) :=
  (je_appP h ha hs hba hl).imp fun _ _ q => tFdAt_to q
def tSetIxF (C : Addr) (fs : List Str) (is : List Nat) (i m : Nat) (tk tv : VT) : VS := fun ρ Qn _ => tv ρ fun u ρ1 => ρ1[i]? = some (.st (.ins C fs) is) ∧ isOwn ρ1 m ∧ tk ρ1 fun w ρ2 => (match u, deref ρ2 w, ρ2[m]? with
    | .val d, some (.int k), some (.own xs) => ∃ j, ixN xs.length k = some j ∧ Qn (ρ2.set m (.own (xs.set j d)))
    | _, _, _ => False)
theorem js_setIxF {new : Fs} {F : List Nat} {pe e : Expr} {pos' : Pos} {k : Expr} {tk tv : VT} (hp : JP X pe (pFd C fs is i m)) (hk : JT X k tk) (hv : JT X e tv) (hs : swapsWithSole [.Subscript pe k pos'] e pos.line X.env = pure false) (hw : swappedStores [.Subscript pe k pos'] e X.env = pure none)
    (h1 : (assignEach [.Subscript pe k pos'] X.env).map (·.2) = [assign (.Subscript pe k pos') X.env])
    (ha : ∀ v, assign (.Subscript pe k pos') X.env v = (do
      let ov ← holding [v] (eval pe X.env)
      let iv ← holding [v, ov] (eval k X.env)
      standAt pos'
      holding [v, ov, iv] (setItem ov iv v)
      release [v, ov, iv] [])) : JS X new F (.Assign [.Subscript pe k pos'] e pos) (tSetIxF C fs is i m tk tv) := by
  intro σ S H ρ Qn Qr hR ht
  refine WS.of (ps_asg peW (pg_sub peW peW set_list ha) hs hw h1) ((hv σ S H ρ _ hR ht).mono fun v H1 q => ?_)
  obtain ⟨S1, ρ1, u, R1, E1, d1, hi, ⟨zs, hz⟩, q1⟩ := q
  refine (hp σ S1 H1 ρ1 m R1 (pFd_at hi)).mono fun o H2 q => ?_
  obtain ⟨rfl, ho⟩ := q
  refine (hk σ S1 H2 ρ1 _ R1 q1).mono fun y H3 q => ?_
  obtain ⟨S2, ρ2, w, R2, E2, d2, q2⟩ := q
  split at q2
  · rename_i _ _ _ d kk xs ek ex
    obtain ⟨c, vs, c1, c2, c3, c4⟩ := R2.own m xs ex
    obtain ⟨j, ej, q2⟩ := q2
    rw [ho] at c1
    cases c1
    have d1 : Rp S1 v d := d1
    exact ⟨c, vs, kk, j, rfl, d2.int ek, c3, by rw [rps_len c4]; exact ej, S2, _, R2.put ex ho (rps_set j c4 (d1.mono E2.same)), ((E1.trans E2).trans (Ext.put R2 ex ho)).xs, q2⟩
  · exact q2.elim
end
/-! ### x.f = e -/
section
variable {K : PySem.W.Frag} {B : Nat} {S H S1 H1 : Hp} {σ : L2.St} {ρ ρ1 : R} {F : List Nat}
/-- what may come into a field's slot -/
inductive NewSl (K : PySem.W.Frag) (S H : Hp) (σ : L2.St) (ρ : R) (y : V) : Sl → Prop where
  | v {d : D} (h : Rp S y d) : NewSl K S H σ ρ y (.v d)
  | own {c : Addr} {ws : List V} {xs : List D} (hy : y = .ref c) (hs : S c = none) (hh : H c = some (.lst ws)) (hd : RpAll S ws xs) (hn : ¬ OwnAt σ ρ c)
      (ro : ∀ (j : Nat) (k : Bool) (xs : List D), ρ[j]? = some (.ro k xs) → ∃ b, σ[j]? = some (some (.ref b)) ∧ (b ≠ c ∨ (k = false ∧ ∃ ws, KL K b ws ∧ RpAll S ws xs))) : NewSl K S H σ ρ y (.own xs)
theorem fld_core {C a dx : Addr} {fs fs' : List Str} {us0 : List (Str × V)} {vs' : List V} {is is' : List Nat} {i m : Nat} {y : V} {sl : Sl} (R : Rel K B S H σ ρ) (hi : ρ[i]? = some (.st (.ins C fs) is)) (ha : σ[i]? = some (some (.ref a))) (hH : H a = some (.ins C dx us0)) (hdict : H dx = some (.own a)) (hiB : i < B) (hmB : B ≤ m) (hml : m < ρ.length) (hle : noLean (ρ.set i .no) [m] = true)
    (hl : fs'.length = vs'.length) (hp : Paired (fun (v : V) (k : Nat) => B ≤ k ∧ (σ.set m (some y))[k]? = some (some v)) vs' is') (hsl : NewSl K S H σ ρ y sl) :
    Rel K B S (upd H a (.ins C dx (fs'.zip vs'))) (σ.set m (some y)) ((ρ.set m sl).set i (.st (.ins C fs') is')) := by
  have hil : i < ρ.length := (List.getElem?_eq_some_iff.mp hi).1
  have him : i ≠ m := by omega
  obtain ⟨a', _, o, e1, e2, e3, _, _⟩ := R.vir.st i _ is hi
  rw [ha] at e1
  cases e1
  obtain ⟨dS, dO⟩ := R.vir.dx i C fs is a dx _ hi ha hH
  have dxa : dx ≠ a := fun z => by rw [z, hH] at hdict; cases hdict
  have Ra := R.updSt (o := .ins C dx (fs'.zip vs')) hi ha
  have Rb := Ra.setn (i := m) (v := some y) fun jj s _ q => noLean_at hle q (by simp)
  have e0 : ((ρ.set i .no).set m .no)[m]? = some .no := List.getElem?_set_self (by rw [List.length_set]; exact hml)
  have es : (σ.set m (some y))[m]? = some (some y) := List.getElem?_set_self (by rw [R.len]; exact hml)
  have onk : ∀ {s : Sl} {b : Addr}, s.owns = true → OwnAt (σ.set m (some y)) (((ρ.set i .no).set m s)) b → (∃ k t, k ≠ i ∧ Ow ρ k t ∧ σ[k]? = some (some (.ref b))) ∨ y = .ref b := fun {s b} _ ⟨k, t, hk, e⟩ => by
    rcases get_set hk.1 with ⟨rfl, q, _⟩ | ⟨n1, q1⟩
    · rw [es] at e
      cases e
      exact .inr rfl
    · rw [List.getElem?_set_ne fun z => n1 z.symm] at e
      rcases get_set q1 with ⟨rfl, q, _⟩ | ⟨n2, q2⟩
      · have := hk.2
        rw [q] at this; cases this
      · exact .inl ⟨k, t, n2, ⟨q2, hk.2⟩, e⟩
  have onk0 : ∀ {s : Sl} {b : Addr}, s.owns = false → OwnAt (σ.set m (some y)) (((ρ.set i .no).set m s)) b → (∃ k t, k ≠ i ∧ Ow ρ k t ∧ σ[k]? = some (some (.ref b))) := fun {s b} hs ⟨k, t, hk, e⟩ => by
    rcases get_set hk.1 with ⟨rfl, q, _⟩ | ⟨n1, q1⟩
    · have := hk.2
      rw [q, hs] at this; cases this
    · rw [List.getElem?_set_ne fun z => n1 z.symm] at e
      rcases get_set q1 with ⟨rfl, q, _⟩ | ⟨n2, q2⟩
      · have := hk.2
        rw [q] at this; cases this
      · exact ⟨k, t, n2, ⟨q2, hk.2⟩, e⟩
  have aown : OwnAt σ ρ a := ⟨i, _, ⟨hi, rfl⟩, ha⟩
  have fin : ∀ (Rc : Rel K B S (upd H a (.ins C dx (fs'.zip vs'))) (σ.set m (some y)) ((ρ.set i .no).set m sl)), (∀ b, OwnAt (σ.set m (some y)) ((ρ.set i .no).set m sl) b → b ≠ a ∧ b ≠ dx) → (∀ k xs, sl ≠ .ro k xs) →
      Rel K B S (upd H a (.ins C dx (fs'.zip vs'))) (σ.set m (some y)) ((ρ.set m sl).set i (.st (.ins C fs') is')) := fun Rc hb hro => by
    have Rd := Rc.tello (i := i) (c := a) (s := .st (.ins C fs') is') (by rw [List.getElem?_set_ne fun z => him z.symm]; exact List.getElem?_set_self hil) (by rw [List.getElem?_set_ne fun z => him z.symm]; exact ha) rfl (fun z => (hb a z).1 rfl) e2 ⟨_, upd_same, rfl⟩
      (fun jj kk xs q => by
        rcases get_set q with ⟨rfl, q, _⟩ | ⟨n1, q⟩
        · exact absurd q.symm (hro kk xs)
        · rcases get_set q with ⟨rfl, q, _⟩ | ⟨n2, q⟩
          · cases q
          · obtain ⟨b, ws, b1, b2, b3⟩ := R.ro jj kk xs q
            refine ⟨b, by rw [List.getElem?_set_ne fun z => n1 z.symm]; exact b1, ?_⟩
            rcases b2 with ⟨rfl, g⟩ | ⟨_, nn⟩
            · exact .inr ⟨rfl, ws, g, b3⟩
            · exact .inl fun z => nn (z ▸ aown))
      (fun xs z => by cases z)
      (fun kk js z => by
        cases z
        exact ⟨vs', _, upd_same, ⟨hl, dx, rfl, by rw [upd_ne dxa]; exact hdict⟩, hp⟩)
      (fun C' fs'' js d us z e => by
        rw [upd_same] at e
        cases e
        exact ⟨dS, fun z => (hb dx z).2 rfl⟩)
    have ee : (((ρ.set i .no).set m sl).set i (.st (.ins C fs') is')) = (ρ.set m sl).set i (.st (.ins C fs') is') := by
      rw [List.set_comm _ _ him, List.set_set]
    rw [ee] at Rd
    exact Rd
  cases hsl with
  | v h =>
    have Rc := Rb.tellv e0 es h
    rw [List.set_set] at Rc
    refine fin Rc (fun b z => ?_) (fun _ _ z => by cases z)
    obtain ⟨k, t, n, q, e⟩ := onk0 rfl z
    exact ⟨fun z => n (R.sep k i _ _ b q ⟨hi, rfl⟩ e (by rw [z]; exact ha)), fun z => dO ⟨k, t, q, by rw [← z]; exact e⟩⟩
  | own hy hs hh hd hn ro =>
    rename_i c ws xs
    subst hy
    have hca : c ≠ a := fun z => by rw [z, hH] at hh; cases hh
    have Rc := Rb.tello (i := m) (c := c) (s := .own xs) e0 es rfl (fun z => by
        obtain ⟨k, t, n, q, e⟩ := onk0 rfl z
        exact hn ⟨k, t, q, e⟩) hs ⟨_, by rw [upd_ne hca]; exact hh, rfl⟩
      (fun jj kk ys q => by
        rcases get_set q with ⟨rfl, q, _⟩ | ⟨n1, q⟩
        · cases q
        · rcases get_set q with ⟨rfl, q, _⟩ | ⟨n2, q⟩
          · cases q
          · rw [List.getElem?_set_ne fun z => n1 z.symm]
            exact ro jj kk ys q)
      (fun ys z => by cases z; exact ⟨ws, by rw [upd_ne hca]; exact hh, hd⟩) (fun _ _ z => by cases z) (fun _ _ _ _ _ z => by cases z)
    rw [List.set_set] at Rc
    refine fin Rc (fun b z => ?_) (fun _ _ z => by cases z)
    rcases onk rfl z with ⟨k, t, n, q, e⟩ | z
    · exact ⟨fun z => n (R.sep k i _ _ b q ⟨hi, rfl⟩ e (by rw [z]; exact ha)), fun z => dO ⟨k, t, q, by rw [← z]; exact e⟩⟩
    · cases z
      exact ⟨hca, fun z => by rw [z, hdict] at hh; cases hh⟩
theorem fld_xs {i m : Nat} {k k' : SK} {is is' : List Nat} {a : Addr} {o : HO} {y : V} {sl : Sl} (E : Ext σ S H ρ S1 H1 ρ1) (hi : ρ1[i]? = some (.st k is)) (ha : σ[i]? = some (some (.ref a))) (him : i ≠ m) (hml : m < σ.length) (hm : m ∉ F) (hsl : sl.owns = true → ∃ c, y = .ref c ∧ H c = none) :
    XS F σ S H ρ (σ.set m (some y)) S1 (upd H1 a o) ((ρ1.set m sl).set i (.st k' is')) := by
  have aown : OwnAt σ ρ a := E.at.mpr ⟨i, _, ⟨hi, rfl⟩, ha⟩
  refine ⟨E.same, fun b h => ?_, fun b h h' _ => E.stay b h h', fun b u h h' n => ?_, fun b z => ?_, fun j hj => List.getElem?_set_ne fun z => hm (by rw [z]; exact hj), fun j hj h => ?_⟩
  · by_cases z : b = a
    · rw [z, upd_same]; simp
    · rw [upd_ne z]; exact E.there b h
  · rw [upd_ne (fun (z : b = a) => n (by rw [z]; exact aown))]
    exact E.keep b u h h' n
  · obtain ⟨j, s, hj, e⟩ := z
    rcases get_set hj.1 with ⟨rfl, q, _⟩ | ⟨n1, q1⟩
    · rw [List.getElem?_set_ne fun z => him z.symm, ha] at e
      cases e
      exact .inl aown
    · rcases get_set q1 with ⟨rfl, q, _⟩ | ⟨n2, q2⟩
      · obtain ⟨c, rfl, hc⟩ := hsl (by rw [← q]; exact hj.2)
        rw [List.getElem?_set_self hml] at e
        cases e
        exact .inr hc
      · rw [List.getElem?_set_ne fun z => n2 z.symm] at e
        exact .inl (E.at.mpr ⟨j, s, ⟨q2, hj.2⟩, e⟩)
  · obtain ⟨xs, q⟩ := (E.kind j).mp h
    refine ⟨xs, ?_⟩
    have nij : i ≠ j := fun z => by
      rw [z, q] at hi
      cases hi
    rw [List.getElem?_set_ne nij, List.getElem?_set_ne fun z => hm (by rw [z]; exact hj)]
    exact q
end
/-- a slot may take a field's new content -/
def fdOk (F : List Nat) (ρ : R) (i m : Nat) : Bool := noLean (ρ.set i .no) [m] && decide (m < ρ.length) && !F.contains m
theorem fdOk_of {F : List Nat} {ρ : R} {i m : Nat} (h : fdOk F ρ i m = true) : noLean (ρ.set i .no) [m] = true ∧ m < ρ.length ∧ m ∉ F := by
  rw [fdOk, Bool.and_eq_true, Bool.and_eq_true] at h
  refine ⟨h.1.1, of_decide_eq_true h.1.2, fun z => ?_⟩
  have := h.2
  rw [List.contains_iff_mem.mpr z] at this
  cases this
section
variable {X : Cx} {new : Fs} {F : List Nat} {pos p pos' : Pos} {C : Addr} {fs fs' : List Str} {is is' : List Nat} {i m c : Nat} {x f : Str} {e : Expr}
/-- an object's field: given anew, or a new one behind the others -/
inductive FdAt (fs : List Str) (is : List Nat) (f : Str) (m : Nat) : List Str → List Nat → Prop where
  | old {c : Nat} (h1 : fs[c]? = some f) (h2 : is[c]? = some m) : FdAt fs is f m fs is
  | new (h1 : f ∉ fs) (h2 : m ∉ is) : FdAt fs is f m (fs ++ [f]) (is ++ [m])
theorem paired_app {α β : Type} {P : α → β → Prop} {x : α} {y : β} (h : P x y) : ∀ {xs : List α} {ys : List β}, Paired P xs ys → Paired P (xs ++ [x]) (ys ++ [y])
  | _, _, .nil => .cons h .nil
  | _, _, .cons r t => .cons r (paired_app h t)
theorem FdAt.vals {K : PySem.W.Frag} {B : Nat} {S H : Hp} {σ : L2.St} {ρ : R} {vs : List V} {y : V} (h : FdAt fs is f m fs' is') (hnd : fs.Nodup) (hin : is.Nodup) (hmB : B ≤ m) (hml : m < σ.length) (hl : fs.length = vs.length) (hp : Paired (fun (v : V) (k : Nat) => B ≤ k ∧ σ[k]? = some (some v)) vs is) :
    ∃ vs', L2.putF f y (fs.zip vs) = fs'.zip vs' ∧ fs'.length = vs'.length ∧ Paired (fun (v : V) (k : Nat) => B ≤ k ∧ (σ.set m (some y))[k]? = some (some v)) vs' is' := by
  cases h with
  | old h1 h2 => exact ⟨_, put_zip hnd h1 hl, by rw [List.length_set]; exact hl, paired_set hp hin h2 ⟨hmB, List.getElem?_set_self hml⟩ fun w k n q => ⟨q.1, by rw [List.getElem?_set_ne fun z => n z.symm]; exact q.2⟩⟩
  | new h1 h2 =>
    refine ⟨vs ++ [y], put_zip_new h1 hl, by simp [hl], paired_app ⟨hmB, List.getElem?_set_self hml⟩ ?_⟩
    have go : ∀ {us : List V} {js : List Nat}, (∀ k ∈ js, k ≠ m) → Paired (fun (v : V) (k : Nat) => B ≤ k ∧ σ[k]? = some (some v)) us js → Paired (fun (v : V) (k : Nat) => B ≤ k ∧ (σ.set m (some y))[k]? = some (some v)) us js := by
      intro us js hk q
      induction q with
      | nil => exact .nil
      | cons r tl ih => exact .cons ⟨r.1, by rw [List.getElem?_set_ne fun z => hk _ List.mem_cons_self z.symm]; exact r.2⟩ (ih fun k hk' => hk k (List.mem_cons_of_mem _ hk'))
    exact go (fun k hk z => h2 (z ▸ hk)) hp
def tStoF (C : Addr) (fs fs' : List Str) (is is' : List Nat) (i m : Nat) (F : List Nat) (t : VT) : VS := fun ρ Qn _ => t ρ fun u ρ1 => ρ1[i]? = some (.st (.ins C fs) is) ∧ fdOk F ρ1 i m = true ∧ match u with
  | .val d => Qn ((ρ1.set m (.v d)).set i (.st (.ins C fs') is'))
  | _ => False
def tStoFO (C : Addr) (fs fs' : List Str) (is is' : List Nat) (i m : Nat) (F : List Nat) (t : VE) : VS := fun ρ Qn _ => t ρ fun u ρ1 => ρ1[i]? = some (.st (.ins C fs) is) ∧ fdOk F ρ1 i m = true ∧ match u with
  | .list xs => Qn ((ρ1.set m (.own xs)).set i (.st (.ins C fs') is'))
  | _ => False
theorem js_stoF {t : VT} (hn : Nm X i x) (hib : decide (i < bd X) = true) (hmb : decide (bd X ≤ m) = true) (hmv : invis X m = true) (hC : Cls X.K C) (na : NoAttr X.K C f) (hnd : decide fs.Nodup = true) (hin : decide is.Nodup = true) (hfl : decide (fs.length < 1000) = true) (hf : FdAt fs is f m fs' is') (h : JT X e t) (hs : swapsWith e (some (.Attribute (.Name x p) f pos')) pos.line X.env = pure false) :
    JS X new F (.Assign [.Attribute (.Name x p) f pos'] e pos) (tStoF C fs fs' is is' i m F t) := by
  intro σ S H ρ Qn Qr hR ht
  have hib := of_decide_eq_true hib
  have hmb := of_decide_eq_true hmb
  refine WS.vir (WS.of (ps_fld hn.pe peW hs) ((h σ S H ρ _ hR ht).mono fun v H1 q => ?_))
  obtain ⟨S1, ρ1, u, R1, E1, d1, hi, hok, q1⟩ := q
  split at q1
  · rename_i d
    obtain ⟨k1, k2, k3⟩ := fdOk_of hok
    obtain ⟨a, vs, o, e1, e2, e3, e4, e5⟩ := R1.vir.st i _ is hi
    obtain ⟨l, dx, rfl, hd⟩ := e4
    have hml : m < σ.length := by rw [R1.len]; exact k2
    obtain ⟨vs', g1, g2, g3⟩ := hf.vals (K := X.K) (S := S1) (H := H1) (ρ := ρ1) (y := v) (of_decide_eq_true hnd) (of_decide_eq_true hin) hmb hml l e5
    refine ⟨_, e1, a, C, dx, _, rfl, e3, hC, na, ?_, σ.set m (some v), VirEq.refl.set hmv, S1, _, ?_, fld_xs E1 hi e1 (by omega) hml k3 (fun z => by cases z), q1⟩
    · rw [List.length_zip, ← l, Nat.min_self]
      exact of_decide_eq_true hfl
    · rw [g1]
      exact fld_core R1 hi e1 e3 hd hib hmb k2 k1 g2 g3 (.v d1)
  · exact q1.elim
theorem js_stoFO {t : VE} (hn : Nm X i x) (hib : decide (i < bd X) = true) (hmb : decide (bd X ≤ m) = true) (hmv : invis X m = true) (hC : Cls X.K C) (na : NoAttr X.K C f) (hnd : decide fs.Nodup = true) (hin : decide is.Nodup = true) (hfl : decide (fs.length < 1000) = true) (hf : FdAt fs is f m fs' is') (h : JN X e t) (hs : swapsWith e (some (.Attribute (.Name x p) f pos')) pos.line X.env = pure false) :
    JS X new F (.Assign [.Attribute (.Name x p) f pos'] e pos) (tStoFO C fs fs' is is' i m F t) := by
  intro σ S H ρ Qn Qr hR ht
  have hib := of_decide_eq_true hib
  have hmb := of_decide_eq_true hmb
  refine WS.vir (WS.of (ps_fld hn.pe peW hs) ((h σ S H ρ _ hR ht).mono fun v H1 q => ?_))
  obtain ⟨S1, ρ1, b, ws, xs, R1, E1, rfl, hb0, hbs, hbl, hd1, hi, hok, q1⟩ := q
  obtain ⟨k1, k2, k3⟩ := fdOk_of hok
  obtain ⟨a, vs, o, e1, e2, e3, e4, e5⟩ := R1.vir.st i _ is hi
  obtain ⟨l, dx, rfl, hd⟩ := e4
  have hml : m < σ.length := by rw [R1.len]; exact k2
  obtain ⟨vs', g1, g2, g3⟩ := hf.vals (K := X.K) (S := S1) (H := H1) (ρ := ρ1) (y := .ref b) (of_decide_eq_true hnd) (of_decide_eq_true hin) hmb hml l e5
  refine ⟨_, e1, a, C, dx, _, rfl, e3, hC, na, ?_, σ.set m (some (.ref b)), VirEq.refl.set hmv, S1, _, ?_, fld_xs E1 hi e1 (by omega) hml k3 (fun _ => ⟨b, rfl, hb0⟩), q1⟩
  · rw [List.length_zip, ← l, Nat.min_self]
    exact of_decide_eq_true hfl
  · rw [g1]
    exact fld_core R1 hi e1 e3 hd hib hmb k2 k1 g2 g3 (.own rfl hbs hbl hd1 (fun z => own_new hR hb0 (E1.at.mpr z)) ((RoOld.of hR E1).at hb0))
end
end WA

/-! WA26: methods and new objects. A method's promise is an FSpec whose first argument is the list of the object's fields; its other arguments are values. -/
namespace WA
open PySem PySem.Spec PyProof.Rows L2
def spOb (K : PySem.W.Frag) (C : Addr) (fs0 : List Str) (c0 : Fs) (fs1 : List Str) (c1 : Fs) (kp : Bool) (f : FSpec) : Sp := fun vs H Q _ => ∃ a dx us ws S xs ys bs, vs = V.ref a :: ws ∧ Same S H ∧ H a = some (.ins C dx (fs0.zip us)) ∧ fs0.length = us.length ∧ H dx = some (.own a) ∧ OwnF S H c0 us ys bs ∧
  (a :: dx :: bs).Nodup ∧ (∀ b ∈ a :: dx :: bs, S b = none) ∧ RpAll S ws xs ∧ f.pre (.list ys :: xs) ∧ ∀ r zs, f.post (.list ys :: xs) r [zs] → ∀ u S' H' dx' us' bs', CExtO S H (a :: bs) S' H' → H' a = some (.ins C dx' (fs1.zip us')) → fs1.length = us'.length → H' dx' = some (.own a) → OwnF S' H' c1 us' zs bs' →
  (a :: dx' :: bs').Nodup → (∀ b ∈ a :: dx' :: bs', S' b = none) → (∀ b ∈ bs', b ∈ bs ∨ H b = none) → (kp = true → us' = us) → Rp S' u r → Q u H'
/-- slots at a method's entry -/
def iniO (C : Addr) (fs : List Str) (c : Fs) (is : List Nat) (n : Nat) (ys xs : List D) : R := putF (.pts (.ins C fs) c .nil) (0 :: is) [.list ys] (.no :: (xs.map Sl.v ++ List.replicate (n - (xs.length + 1)) .no))
def outO (C : Addr) (fs : List Str) (c : Fs) (is : List Nat) (zs : List D) (ρ : R) : Prop := ρ[0]? = some (.st (.ins C fs) is) ∧ rdF c ρ is = some zs
def PlainO (C : Addr) (fs0 : List Str) (c0 : Fs) (is0 : List Nat) (fs1 : List Str) (c1 : Fs) (is1 : List Nat) (f : FSpec) (n : Nat) (t : VS) : Prop := ∀ xs ys, f.pre (.list ys :: xs) →
  t (iniO C fs0 c0 is0 n ys xs) (fun ρ' => ∃ zs, f.post (.list ys :: xs) .none [zs] ∧ outO C fs1 c1 is1 zs ρ') (fun x ρ' => ∃ zs, f.post (.list ys :: xs) x [zs] ∧ outO C fs1 c1 is1 zs ρ')
section
variable {K : PySem.W.Frag} {B : Nat} {S H : Hp}
theorem rel_vals {n : Nat} (hS : Same S H) : ∀ {ws : List V} {xs : List D}, RpAll S ws xs → Rel K B S H (ws.map some ++ List.replicate n none) (xs.map Sl.v ++ List.replicate n .no) := fun {ws xs} h => by
  have get : ∀ {i : Nat} {s : Sl}, (xs.map Sl.v ++ List.replicate n .no)[i]? = some s → s = .no ∨ ∃ x, s = .v x ∧ xs[i]? = some x := fun {i s} q => by
    by_cases hi : i < xs.length
    · rw [List.getElem?_append_left (by rw [List.length_map]; exact hi), List.getElem?_map] at q
      cases e : xs[i]? with
      | none => rw [e] at q; cases q
      | some x =>
        rw [e] at q
        cases q
        exact .inr ⟨x, rfl, rfl⟩
    · rw [List.getElem?_append_right (by rw [List.length_map]; omega)] at q
      rcases List.getElem?_eq_some_iff.mp q with ⟨h1, h2⟩
      rw [List.getElem_replicate] at h2
      exact .inl h2.symm
  refine ⟨by simp [rps_len h], hS, fun i x q => ?_, fun i x q => ?_, fun i k x q => ?_, fun i j s t a h1 => ?_, ⟨fun i k is q => ?_, fun i j q => ?_, fun i C fs is a d us q => ?_⟩⟩
  · rcases get q with z | ⟨y, z, e⟩
    · cases z
    · cases z
      obtain ⟨w, e1, e2⟩ := rps_get h e
      exact ⟨w, get_app_V e1, e2⟩
  · rcases get q with z | ⟨y, z, e⟩ <;> cases z
  · rcases get q with z | ⟨y, z, e⟩ <;> cases z
  · have := h1.2
    rcases get h1.1 with z | ⟨y, z, e⟩ <;> (rw [z] at this; cases this)
  · rcases get q with z | ⟨y, z, e⟩ <;> cases z
  · rcases get q with z | ⟨y, z, e⟩ <;> cases z
  · rcases get q with z | ⟨y, z, e⟩ <;> cases z
theorem rel_vals1 {n : Nat} {v : V} (hS : Same S H) {ws : List V} {xs : List D} (h : RpAll S ws xs) : Rel K B S H (some v :: (ws.map some ++ List.replicate n none)) (.no :: (xs.map Sl.v ++ List.replicate n .no)) := by
  have R := rel_vals (K := K) (B := B) (n := n) hS h
  have get : ∀ {i : Nat} {s : Sl}, (Sl.no :: (xs.map Sl.v ++ List.replicate n .no))[i]? = some s → s = .no ∨ ∃ j, i = j + 1 ∧ (xs.map Sl.v ++ List.replicate n .no)[j]? = some s := fun {i s} q => by
    cases i with
    | zero => exact .inl (by simpa using q.symm)
    | succ j => exact .inr ⟨j, rfl, by simpa using q⟩
  have no : ∀ {i : Nat} {s : Sl}, (xs.map Sl.v ++ List.replicate n .no)[i]? = some s → s = .no ∨ ∃ x, s = .v x := fun {i s} q => by
    rcases List.mem_append.mp (List.mem_of_getElem? q) with z | z
    · obtain ⟨x, _, e⟩ := List.mem_map.mp z
      exact .inr ⟨x, e.symm⟩
    · exact .inl (List.mem_replicate.mp z).2
  have none_ : ∀ {i : Nat} {s : Sl}, (Sl.no :: (xs.map Sl.v ++ List.replicate n .no))[i]? = some s → s = .no ∨ ∃ x, s = .v x := fun {i s} q => by
    rcases get q with z | ⟨j, _, z⟩
    · exact .inl z
    · exact no z
  refine ⟨by simp [rps_len h], hS, fun i x q => ?_, fun i x q => ?_, fun i k x q => ?_, fun i j s t a h1 => ?_, ⟨fun i k is q => ?_, fun i j q => ?_, fun i C fs is a d us q => ?_⟩⟩
  · rcases get q with z | ⟨j, rfl, z⟩
    · cases z
    · obtain ⟨w, e1, e2⟩ := R.val j x z
      exact ⟨w, by simpa using e1, e2⟩
  · rcases none_ q with z | ⟨y, z⟩ <;> cases z
  · rcases none_ q with z | ⟨y, z⟩ <;> cases z
  · have := h1.2
    rcases none_ h1.1 with z | ⟨y, z⟩ <;> (rw [z] at this; cases this)
  · rcases none_ q with z | ⟨y, z⟩ <;> cases z
  · rcases none_ q with z | ⟨y, z⟩ <;> cases z
  · rcases none_ q with z | ⟨y, z⟩ <;> cases z
theorem own_vals1 {n : Nat} {v : V} {σ : L2.St} {xs : List D} {b : Addr} : ¬ OwnAt σ (.no :: (xs.map Sl.v ++ List.replicate n .no)) b := fun ⟨i, s, h, _⟩ => by
  have := h.2
  rcases List.mem_cons.mp (List.mem_of_getElem? h.1) with z | z
  · rw [z] at this; cases this
  · rcases List.mem_append.mp z with z | z
    · obtain ⟨x, _, e⟩ := List.mem_map.mp z
      rw [← e] at this; cases this
    · rw [(List.mem_replicate.mp z).2] at this; cases this
theorem noLean_vals1 {n : Nat} {xs : List D} {is : List Nat} : noLean (.no :: (xs.map Sl.v ++ List.replicate n .no)) is = true := by
  refine List.all_eq_true.mpr fun s hs => ?_
  rcases List.mem_cons.mp hs with z | z
  · rw [z]; rfl
  · rcases List.mem_append.mp z with z | z
    · obtain ⟨x, _, e⟩ := List.mem_map.mp z
      rw [← e]; rfl
    · rw [(List.mem_replicate.mp z).2]; rfl
theorem paired_fn {α β : Type} {P Q : α → β → Prop} (h : ∀ x x' y, P x y → Q x' y → x = x') : ∀ {xs xs' : List α} {ys : List β}, Paired P xs ys → Paired Q xs' ys → xs = xs'
  | _, _, _, .nil, .nil => rfl
  | _, _, _, .cons r t, .cons r' t' => by rw [h _ _ _ r r', paired_fn h t t']
theorem zip_inj {fs : List Str} : ∀ {us vs : List V}, fs.length = us.length → fs.length = vs.length → fs.zip us = fs.zip vs → us = vs := by
  induction fs with
  | nil =>
    intro us vs h1 h2 _
    cases us with
    | nil => cases vs with
      | nil => rfl
      | cons _ _ => cases h2
    | cons _ _ => cases h1
  | cons f fs ih =>
    intro us vs h1 h2 h
    cases us with
    | nil => cases h1
    | cons u us => cases vs with
      | nil => cases h2
      | cons v vs =>
        have h : (f, u) :: fs.zip us = (f, v) :: fs.zip vs := h
        injection h with e1 e2
        injection e1 with _ e1
        rw [e1, ih (by simpa using h1) (by simpa using h2) e2]
end
/-! ### the def of a method -/
section
variable {P : Program} {w : World} {K : PySem.W.Frag} {mg : Str → Option Value} {base : Heap}
theorem WSs.vir0 {X : Cx} {sts : List Stmt} {D : Ends} {σ σ' : L2.St} {H : Hp} (v : VirEq X σ σ') (h : WSs X sts D σ' H) : WSs X sts D σ H := fun pins s I => h pins s (inv_vir I v)
theorem fn_coreO {X : Cx} {C : Addr} {fs0 fs1 : List Str} {c0 c1 : Fs} {is0 is1 F : List Nat} {kp : Bool} {f : FSpec} {t : VS} {k : Nat} {sts : List Stmt} {vs : List V} {H : Hp} {Q : VK} {E : XK} (body : JSs X false F sts t) (plain : PlainO C fs0 c0 is0 fs1 c1 is1 f X.N.length t)
    (hk : ∀ xs ys, f.pre (.list ys :: xs) → xs.length = k) (hkN : decide (k < X.N.length) = true) (hF0 : F.contains 0 = true) (hkp : kp = true → (is1.all fun m => F.contains m) = true ∧ is1 = is0) (hnd1 : decide is1.Nodup = true) (hnd : decide (0 :: is0).Nodup = true) (hlt : ((0 :: is0).all fun m => decide (m < X.N.length)) = true) (hvi : (is0.all fun m => invis X m) = true) (hsz : decide (c0.size ≤ is0.length) = true) (hok : okF (bd X) (.pts (.ins C fs0) c0 .nil) (0 :: is0) = true) (hrt : c0.roots is0 = is0)
    (h : spOb X.K C fs0 c0 fs1 c1 kp f vs H Q E) : WSs X sts { nx := fun _ H' => Q .non H', rt := Q } (start X.N vs) H := by
  obtain ⟨a, dx, us, ws, S, xs, ys, bs, rfl, hS, hob, hlen, hdict, hown, hndA, hnew, hws, hpre, q⟩ := h
  have hk := hk xs ys hpre
  have hkN := of_decide_eq_true hkN
  have hF0 : 0 ∈ F := List.contains_iff_mem.mp hF0
  have hwl : ws.length = xs.length := rps_len hws
  have est : L2.start X.N (V.ref a :: ws) = some (.ref a) :: (ws.map some ++ List.replicate (X.N.length - (xs.length + 1)) none) := by
    rw [L2.start, List.length_cons, hwl]
    rfl
  have R0 := rel_vals1 (K := X.K) (B := bd X) (n := X.N.length - (xs.length + 1)) (v := .ref a) hS hws
  rw [← est] at R0
  have eas : a :: ([dx] ++ (bs ++ [])) = a :: dx :: bs := by simp
  have hFo : OwnF S H (.pts (.ins C fs0) c0 .nil) [.ref a] [.list ys] (a :: ([dx] ++ (bs ++ []))) := ⟨a, us, ys, _, bs, [], [], [], rfl, rfl, rfl, hob, ⟨hlen, dx, rfl, hdict⟩, hown, rfl, rfl, rfl⟩
  have hll : (Sl.no :: (xs.map Sl.v ++ List.replicate (X.N.length - (xs.length + 1)) .no)).length = X.N.length := by
    simp
    omega
  obtain ⟨σ0, p⟩ := forest_ok (H0 := fun b => if b ∈ a :: dx :: bs then none else H b) _ R0 (fun j k' zs z => by
      rcases List.mem_cons.mp (List.mem_of_getElem? z) with z | z
      · cases z
      · rcases List.mem_append.mp z with z | z
        · obtain ⟨x, _, e⟩ := List.mem_map.mp z
          cases e
        · have := (List.mem_replicate.mp z).2
          cases this) hFo (by rw [eas]; exact hndA) (fun b hb => by
      rw [eas] at hb
      exact ⟨if_pos hb, hnew b hb, own_vals1 (v := .non)⟩) (of_decide_eq_true hnd) noLean_vals1 (fun m hm => by rw [hll]; exact of_decide_eq_true (List.all_eq_true.mp hlt m hm)) (by
      show c0.size + 0 + 1 ≤ is0.length + 1
      have := of_decide_eq_true hsz
      omega) hok
  have hsl : Sl.st (.ins C fs0) (c0.roots is0) = Sl.st (.ins C fs0) is0 := by rw [hrt]
  have hst0 : (iniO C fs0 c0 is0 X.N.length ys xs)[0]? = some (.st (.ins C fs0) is0) := by
    rw [← hsl]
    show ((putF c0 is0 ys (.no :: (xs.map Sl.v ++ List.replicate (X.N.length - (xs.length + 1)) .no))).set 0 (.st (.ins C fs0) (c0.roots is0)))[0]? = _
    refine List.getElem?_set_self ?_
    have hpl := p.len
    have hpl : ((putF c0 is0 ys (.no :: (xs.map Sl.v ++ List.replicate (X.N.length - (xs.length + 1)) .no))).set 0 (.st (.ins C fs0) (c0.roots is0))).length = _ := hpl
    rw [List.length_set] at hpl
    rw [hpl, hll]
    omega
  have p0 : Rel X.K (bd X) S H σ0 (iniO C fs0 c0 is0 X.N.length ys xs) := p.rel
  have at0 : σ0[0]? = some (some (.ref a)) := by
    cases p.at_ with
    | cons r _ => exact r
  have hv : VirEq X (start X.N (V.ref a :: ws)) σ0 := by
    refine ⟨by rw [p0.len, ← R0.len.symm]; exact p.len, fun i x hx hvis => ?_⟩
    by_cases hi : i ∈ (0 :: is0).take (Fs.pts (.ins C fs0) c0 .nil).size
    · rcases List.mem_cons.mp (List.mem_of_mem_take hi) with z | z
      · rw [z, at0, est]
        rfl
      · have hi := List.all_eq_true.mp hvi i z
        unfold invis at hi
        rw [hx] at hi
        have hi : X.env.scope.names.lookup x = none := Option.isNone_iff_eq_none.mp hi
        rcases hvis with q | q | q <;> (rw [hi] at q; cases q)
    · exact (p.out i hi).1
  have dxn : ¬ OwnAt σ0 (iniO C fs0 c0 is0 X.N.length ys xs) dx := (p0.vir.dx 0 C fs0 is0 a dx _ hst0 at0 hob).2
  have ow0 : ∀ {b : Addr}, OwnAt σ0 (iniO C fs0 c0 is0 X.N.length ys xs) b → b ∈ a :: bs := fun {b} z => by
    rcases p.own b z with z' | z'
    · exact absurd z' (own_vals1 (v := .non))
    · rw [eas] at z'
      rcases List.mem_cons.mp z' with z' | z'
      · rw [z']; exact List.mem_cons_self
      · rcases List.mem_cons.mp z' with z' | z'
        · rw [z'] at z
          exact absurd z dxn
        · exact List.mem_cons_of_mem _ z'
  have hst00 := p0.vir.st 0 _ is0 hst0
  have fin : ∀ {zs : List D} {σ' : L2.St} {S' H' : Hp} {ρ' : R} {u : V} {r : D}, f.post (.list ys :: xs) r [zs] → Rel X.K (bd X) S' H' σ' ρ' → XS F σ0 S H (iniO C fs0 c0 is0 X.N.length ys xs) σ' S' H' ρ' → outO C fs1 c1 is1 zs ρ' → Rp S' u r → Q u H' := fun {zs σ' S' H' ρ' u r} hpost R' E' ho hu => by
    obtain ⟨ho1, ho2⟩ := ho
    obtain ⟨a', dx', us', bs', O⟩ := get_ob R' ho1 ho2 (of_decide_eq_true hnd1)
    have ea : a' = a := by
      have := O.at_
      rw [E'.fix 0 hF0, at0] at this
      cases this
      rfl
    subst ea
    refine q r zs hpost u S' H' dx' us' bs' ⟨R'.sub, E'.same, E'.there, fun b hb hs hn => E'.stay b hb hs fun z => hn (ow0 z), fun b o hb hs hn => E'.keep b o hb hs fun z => hn (ow0 z)⟩ O.obj O.len O.dict O.own O.nd O.new (fun b hb => ?_) (fun hq => ?_) hu
    · obtain ⟨m, _, ⟨xs', h1⟩, h2⟩ := O.its b hb
      rcases E'.own b ⟨m, _, ow h1, h2⟩ with z | z
      · rcases List.mem_cons.mp (ow0 z) with z | z
        · have := O.nd
          rw [List.nodup_cons] at this
          exact absurd (List.mem_cons_of_mem _ (z ▸ hb)) this.1
        · exact .inl z
      · exact .inr z
    · obtain ⟨hall, rfl⟩ := hkp hq
      obtain ⟨a2, us2, o2, f1, f2, f3, f4, f5⟩ := hst00
      rw [at0] at f1
      cases f1
      obtain ⟨l2, d2, e2, _⟩ := f4
      rw [e2, hob] at f3
      have ez : fs0.zip us = fs0.zip us2 := by
        injection f3 with f3
        injection f3
      have go : ∀ {us1 us2 : List V} {js : List Nat}, (∀ m ∈ js, m ∈ F) → Paired (fun (v : V) (m : Nat) => bd X ≤ m ∧ σ'[m]? = some (some v)) us1 js → Paired (fun (v : V) (m : Nat) => bd X ≤ m ∧ σ0[m]? = some (some v)) us2 js → us1 = us2 := by
        intro us1 us2 js
        induction js generalizing us1 us2 with
        | nil =>
          intro _ h1 h2
          cases h1
          cases h2
          rfl
        | cons j js ih =>
          intro hm h1 h2
          cases h1 with
          | cons r1 t1 =>
            cases h2 with
            | cons r2 t2 =>
              have := r1.2
              rw [E'.fix j (hm j List.mem_cons_self), r2.2] at this
              cases this
              rw [ih (fun m hm' => hm m (List.mem_cons_of_mem _ hm')) t1 t2]
      have := go (fun m hm => List.contains_iff_mem.mp (List.all_eq_true.mp hall m hm)) O.pair f5
      rw [this]
      exact zip_inj l2 hlen ez.symm
  refine WSs.vir0 hv ((body σ0 S H _ _ _ p0 (plain xs ys hpre)).mono (fun σ' H' z => ?_) (fun v H' z => ?_) (fun _ _ q => q.elim) (fun _ _ q => q.elim))
  · obtain ⟨S', ρ', R', E', zs, hpost, ho⟩ := z
    exact fin hpost R' E' ho .non
  · obtain ⟨σ', S', ρ', x', R', E', rr, zs, hpost, ho⟩ := z
    obtain ⟨as, ⟨v', x2, _, _, e1, e2, hv', _⟩, _, _⟩ := rr
    cases e1
    cases e2
    exact fin hpost R' E' ho hv'
theorem fn_okO {x qual : Str} {st : Stmt} {g : Addr} {fd : FuncData} {N ps : List Str} {k n : Nat} {f : FSpec} {t : VS} {C : Addr} {fs0 fs1 : List Str} {c0 c1 : Fs} {is0 is1 F : List Nat} {kp : Bool} (Fn : FunD K x qual (defArgs st) (defBody st) (defScope st) [] [] g fd) (Sc : FnScope N ps (defScope st))
    (body : ∀ (cdv : Value) (A : Around) (outer : List Env) (s : Shared) (H : Hp) (E : XK), Room k (A.deeper (envOfC qual (defScope st) s.heap.objs.size g cdv)) → JSs (cxOf CX0 P w K mg base N qual (defScope st) g cdv A outer s H E).nox false F (defBody st) t)
    (plain : PlainO C fs0 c0 is0 fs1 c1 is1 f N.length t) (hk : ∀ xs ys, f.pre (.list ys :: xs) → xs.length = n) (hps : n + 1 = ps.length) (hkN : decide (n < N.length) = true) (hF0 : F.contains 0 = true) (hkp : kp = true → (is1.all fun m => F.contains m) = true ∧ is1 = is0) (hnd1 : decide is1.Nodup = true) (hnd : decide (0 :: is0).Nodup = true) (hlt : ((0 :: is0).all fun m => decide (m < N.length)) = true)
    (hvi : (is0.all fun m => match N[m]? with | some x => ((defScope st).names.lookup x).isNone | none => true) = true) (hsz : decide (c0.size ≤ is0.length) = true) (hok : okF (N.findIdx virt) (.pts (.ins C fs0) c0 .nil) (0 :: is0) = true) (hrt : c0.roots is0 = is0) : FnOk P w K mg base CX0 (k + 1) g fd ps (spOb K C fs0 c0 fs1 c1 kp f) := by
  refine Fn.ok Sc (fun vs H Q E h => ?_) (fun cdv A outer s H vs Q E hr h => ?_)
  · obtain ⟨a, dx, us, ws, S, xs, ys, bs, rfl, hS, hob, hlen, hdict, hown, hndA, hnew, hws, hpre, q⟩ := h
    rw [List.length_cons, rps_len hws, hk xs ys hpre, hps]
  · exact ⟨_, PSs.nox pssW, fn_coreO (X := (cxOf CX0 P w K mg base N qual (defScope st) g cdv A outer s H E).nox) (body cdv A outer s H E hr) plain hk hkN hF0 hkp hnd1 hnd hlt hvi hsz hok hrt h⟩
end
end WA

/-! WA27: x.m(e, ..), x = C(e, ..). -/
namespace WA
open PySem PySem.Spec PyProof.Rows L2
def valsD : List AV → Option (List D)
  | [] => some []
  | .val x :: as => (valsD as).map (x :: ·)
  | _ => none
theorem vals_rp {K : PySem.W.Frag} {S : Hp} {σ : L2.St} : ∀ {vs : List V} {as : List AV} {xs : List D}, ARs K S σ vs as → valsD as = some xs → RpAll S vs xs
  | _, _, _, .nil, h => by
    cases h
    exact .nil
  | _, _, _, .cons (b := .val x) (l₂ := as) r t, h => by
    cases q : valsD as with
    | none => rw [valsD, q] at h; cases h
    | some ys =>
      rw [valsD, q] at h
      cases h
      exact .cons r (vals_rp t q)
  | _, _, _, .cons (b := .slot i) r t, h => by cases h
/-- a method that is known to keep its promise -/
structure KnownM (P : Program) (w : World) (K : PySem.W.Frag) (mg : Str → Option Value) (base : Heap) (lvl : Nat) (C : Addr) (fs : List Str) (c : Fs) (kp : Bool) (f : FSpec) : Prop where
  ok : ∃ (g : Addr) (fd : FuncData) (ps : List Str), FnOk P w K mg base CX0 lvl g fd ps (spOb K C fs c fs c kp f) ∧ Meth K C f.name g ∧ Binds K fd ps []
structure KnownI (P : Program) (w : World) (K : PySem.W.Frag) (mg : Str → Option Value) (base : Heap) (lvl : Nat) (C : Addr) (nm : Str) (fs : List Str) (c : Fs) (f : FSpec) : Prop where
  ok : ∃ (g : Addr) (fd : FuncData) (ps : List Str), FnOk P w K mg base CX0 lvl g fd ps (spOb K C [] .nil fs c false f) ∧ Mk K C g ∧ Binds K fd ps []
  at_ : mg nm = some (.ref C)
  nd : (nm == ("__debug__" : Str)) = false
section
variable {X : Cx} {C : Addr} {fs : List Str} {c : Fs} {i : Nat} {is : List Nat} {f : FSpec} {kp : Bool} {lvl : Nat} {t : VA} {e : Expr} {es : List Expr} {p pos apos : Pos} {x : Str}
def tMethQ (C : Addr) (fs : List Str) (c : Fs) (is : List Nat) (i : Nat) (f : FSpec) (t : VA) (ρ : R) (Q : D → R → Prop) : Prop := ρ[i]? = some (.st (.ins C fs) is) ∧ t ρ fun as ρ1 => ∃ xs ys, valsD as = some xs ∧ ρ1[i]? = some (.st (.ins C fs) is) ∧ rdF c ρ1 is = some ys ∧ xOk ρ1 (i :: is) = true ∧
  f.pre (.list ys :: xs) ∧ ∀ r zs, f.post (.list ys :: xs) r [zs] → Q r (putF (.pts (.ins C fs) c .nil) (i :: is) [.list zs] (clr (i :: is) ρ1))
/-- what a call of a method leaves -/
structure MDone (X : Cx) (kp : Bool) (C : Addr) (fs : List Str) (c : Fs) (is : List Nat) (i : Nat) (σ : L2.St) (S H : Hp) (ρ : R) (v : V) (H' : Hp) (r : D) (S' : Hp) (ρ1 : R) (σ' : L2.St) (zs : List D) : Prop where
  rel : Rel X.K (bd X) S' H' σ' (putF (.pts (.ins C fs) c .nil) (i :: is) [.list zs] (clr (i :: is) ρ1))
  xs : ∀ F : List Nat, (is.all fun m => !F.contains m) = true → XS F σ S H ρ σ' S' H' (putF (.pts (.ins C fs) c .nil) (i :: is) [.list zs] (clr (i :: is) ρ1))
  ext : kp = true → σ' = σ ∧ Ext σ S H ρ S' H' (putF (.pts (.ins C fs) c .nil) (i :: is) [.list zs] (clr (i :: is) ρ1))
  rp : Rp S' v r
  vir : (is.all fun m => invis X m) = true → VirEq X σ σ'
/-- flat forests: values and lists -/
def Fs.flat : Fs → Bool
  | .nil => true
  | .val t => t.flat
  | .lst t => t.flat
  | .pts _ _ _ => false
theorem flat_bs {S H S' H' : Hp} : ∀ (c : Fs) {us : List V} {ys zs : List D} {bs bs' : List Addr}, c.flat = true → OwnF S H c us ys bs → OwnF S' H' c us zs bs' → bs = bs'
  | .nil, _, _, _, _, _, _, ⟨_, _, h⟩, ⟨_, _, h'⟩ => by rw [h, h']
  | .val t, _, _, _, _, _, hf, ⟨v, x, vs, xs, e1, e2, hv, ht⟩, ⟨v', x', vs', xs', e1', e2', hv', ht'⟩ => by
    rw [e1] at e1'
    cases e1'
    exact flat_bs t hf ht ht'
  | .lst t, _, _, _, _, _, hf, ⟨a, ws, ds, vs, xs, as, e1, e2, e3, h1, h2, ht⟩, ⟨a', ws', ds', vs', xs', as', e1', e2', e3', h1', h2', ht'⟩ => by
    rw [e1] at e1'
    cases e1'
    rw [e3, e3', flat_bs t hf ht ht']
  | .pts _ _ _, _, _, _, _, _, hf, _, _ => by cases hf
theorem flat_roots : ∀ (c : Fs) {is : List Nat}, c.flat = true → c.size = is.length → c.roots is = is
  | .nil, [], _, _ => rfl
  | .nil, _ :: _, _, h => by cases h
  | .val t, [], _, h => by cases h
  | .val t, n :: ns, hf, h => by
    show n :: t.roots ns = n :: ns
    rw [flat_roots t hf (by simpa [Fs.size] using h)]
  | .lst t, [], _, h => by cases h
  | .lst t, n :: ns, hf, h => by
    show n :: t.roots ns = n :: ns
    rw [flat_roots t hf (by simpa [Fs.size] using h)]
  | .pts _ _ _, _, hf, _ => by cases hf
theorem rd_len : ∀ (c : Fs) {ρ : R} {is : List Nat} {ys : List D}, rdF c ρ is = some ys → c.size = is.length ∧ c.flat = true
  | .nil, _, [], _, _ => ⟨rfl, rfl⟩
  | .nil, _, _ :: _, _, h => by cases h
  | .val t, _, [], _, h => by cases h
  | .lst t, _, [], _, h => by cases h
  | .pts _ _ _, _, is, _, h => by cases is <;> cases h
  | .val t, ρ, m :: ms, ys, h => by
    unfold rdF at h
    split at h
    · cases q : rdF t ρ ms with
      | none => rw [q] at h; cases h
      | some zs =>
        obtain ⟨h1, h2⟩ := rd_len t q
        exact ⟨by simp [Fs.size, h1], h2⟩
    · cases h
  | .lst t, ρ, m :: ms, ys, h => by
    unfold rdF at h
    split at h
    · cases q : rdF t ρ ms with
      | none => rw [q] at h; cases h
      | some zs =>
        obtain ⟨h1, h2⟩ := rd_len t q
        exact ⟨by simp [Fs.size, h1], h2⟩
    · cases h
mutual
theorem rp_fun {S : Hp} : ∀ (x : D) {y : D} {v : V}, Rp S v x → Rp S v y → x = y
  | .none, _, _, h, h' => by cases h; cases h'; rfl
  | .bool b, _, _, h, h' => by cases h; cases h'; rfl
  | .int i, _, _, h, h' => by cases h; cases h'; rfl
  | .str s, _, _, h, h' => by cases h; cases h'; rfl
  | .list ds, _, _, h, h' => by
    cases h with
    | lst hs ha =>
      cases h' with
      | lst hs' ha' =>
        rw [hs] at hs'
        cases hs'
        rw [rps_fun ds ha ha']
      | tup hs' ha' => rw [hs] at hs'; cases hs'
  | .tuple ds, _, _, h, h' => by
    cases h with
    | tup hs ha =>
      cases h' with
      | lst hs' ha' => rw [hs] at hs'; cases hs'
      | tup hs' ha' =>
        rw [hs] at hs'
        cases hs'
        rw [rps_fun ds ha ha']
  | .dict _, _, _, h, _ => by cases h
theorem rps_fun {S : Hp} : ∀ (xs : List D) {ys : List D} {vs : List V}, RpAll S vs xs → RpAll S vs ys → xs = ys
  | [], _, _, h, h' => by cases h; cases h'; rfl
  | d :: ds, _, _, h, h' => by
    cases h with
    | cons r t =>
      cases h' with
      | cons r' t' => rw [rp_fun d r r', rps_fun ds t t']
end
theorem putF_out : ∀ (c : Fs) {is : List Nat} {ws : List D} {ρ3 : R} {j : Nat}, c.flat = true → j ∉ is → (putF c is ws ρ3)[j]? = ρ3[j]?
  | .nil, is, ws, _, _, _, _ => by cases is <;> cases ws <;> rfl
  | .val t, [], _, _, _, _, _ => rfl
  | .val t, _ :: _, [], _, _, _, _ => rfl
  | .val t, m :: ms, x :: xs, ρ3, j, hf, hj => by
    show (putF t ms xs (ρ3.set m (.v x)))[j]? = _
    rw [putF_out t hf fun z => hj (List.mem_cons_of_mem _ z), List.getElem?_set_ne fun z => hj (by rw [z]; exact List.mem_cons_self)]
  | .lst t, [], _, _, _, _, _ => rfl
  | .lst t, _ :: _, [], _, _, _, _ => rfl
  | .lst t, m :: ms, x :: xs, ρ3, j, hf, hj => by
    show (putF t ms xs (ρ3.set m (.own (itemsD x))))[j]? = _
    rw [putF_out t hf fun z => hj (List.mem_cons_of_mem _ z), List.getElem?_set_ne fun z => hj (by rw [z]; exact List.mem_cons_self)]
  | .pts _ _ _, _, _, _, _, hf, _ => by cases hf
theorem putF_keep {S H S' H' : Hp} (hs : Same S S') : ∀ (c : Fs) {is : List Nat} {ws ys : List D} {us : List V} {bs bs' : List Addr} {ρ2 ρ3 : R}, c.flat = true → rdF c ρ2 is = some ys → OwnF S H c us ys bs → OwnF S' H' c us ws bs' → is.Nodup → (∀ m ∈ is, m < ρ3.length) → ∀ j ∈ is,
    ((∃ xs, ρ2[j]? = some (.own xs)) ∧ ∃ xs, (putF c is ws ρ3)[j]? = some (.own xs)) ∨ ∃ x, ρ2[j]? = some (.v x) ∧ (putF c is ws ρ3)[j]? = some (.v x)
  | .nil, [], _, _, _, _, _, _, _, _, _, _, _, _, _, j, h => by cases h
  | .nil, _ :: _, _, _, _, _, _, _, _, _, h, _, _, _, _, _, _ => by cases h
  | .pts _ _ _, _, _, _, _, _, _, _, _, hf, _, _, _, _, _, _, _ => by cases hf
  | .val t, [], _, _, _, _, _, _, _, _, h, _, _, _, _, _, _ => by cases h
  | .lst t, [], _, _, _, _, _, _, _, _, h, _, _, _, _, _, _ => by cases h
  | .val t, m :: ms, _, _, _, _, _, ρ2, ρ3, hf, h1, h2, h3, hn, hl, j, hj => by
    rw [List.nodup_cons] at hn
    obtain ⟨v, x, vs, xs, e1, e2, hv, ht⟩ := h2
    subst e1 e2
    obtain ⟨v', x', vs', xs', e1, e2, hv', ht'⟩ := h3
    cases e1
    subst e2
    have ex := rp_fun x (hv.mono hs) hv'
    subst ex
    unfold rdF at h1
    split at h1
    · rename_i y ey
      cases q : rdF t ρ2 ms with
      | none => rw [q] at h1; cases h1
      | some zs =>
        rw [q] at h1
        cases h1
        rcases List.mem_cons.mp hj with z | z
        · subst z
          refine .inr ⟨_, ey, ?_⟩
          show (putF t ms xs' (ρ3.set j (.v _)))[j]? = _
          rw [putF_out t hf hn.1, List.getElem?_set_self (hl j List.mem_cons_self)]
        · exact putF_keep hs t (ρ3 := ρ3.set m (.v _)) hf q ht ht' hn.2 (fun k hk => by rw [List.length_set]; exact hl k (List.mem_cons_of_mem _ hk)) j z
    · cases h1
  | .lst t, m :: ms, _, _, _, _, _, ρ2, ρ3, hf, h1, h2, h3, hn, hl, j, hj => by
    rw [List.nodup_cons] at hn
    obtain ⟨a, ws, ds, vs, xs, as, e1, e2, e3, hv, hv2, ht⟩ := h2
    subst e1 e2
    obtain ⟨a', ws', ds', vs', xs', as', e1, e2, e3', hv', hv2', ht'⟩ := h3
    cases e1
    subst e2
    unfold rdF at h1
    split at h1
    · rename_i y ey
      cases q : rdF t ρ2 ms with
      | none => rw [q] at h1; cases h1
      | some zs =>
        rw [q] at h1
        cases h1
        rcases List.mem_cons.mp hj with z | z
        · subst z
          refine .inl ⟨⟨_, ey⟩, ds', ?_⟩
          show (putF t ms xs' (ρ3.set j (.own ds')))[j]? = _
          rw [putF_out t hf hn.1, List.getElem?_set_self (hl j List.mem_cons_self)]
        · exact putF_keep hs t (ρ3 := ρ3.set m (.own ds')) hf q ht ht' hn.2 (fun k hk => by rw [List.length_set]; exact hl k (List.mem_cons_of_mem _ hk)) j z
    · cases h1
/-- behind the arguments: the callee's promise from ours -/
theorem meth_core {σ : L2.St} {S H S1 H1 : Hp} {ρ ρ1 : R} {vs : List V} {xs ys : List D} {Q' : VK} {E : XK} {Q : D → R → Prop} {a0 : Addr} (hiB : i < bd X) (R1 : Rel X.K (bd X) S1 H1 σ ρ1) (E1 : Ext σ S H ρ S1 H1 ρ1) (ha0 : σ[i]? = some (some (.ref a0))) (hvs : RpAll S1 vs xs) (hi : ρ1[i]? = some (.st (.ins C fs) is)) (hrd : rdF c ρ1 is = some ys) (hx : xOk ρ1 (i :: is) = true) (hnd : is.Nodup)
    (hpre : f.pre (.list ys :: xs)) (q : ∀ r zs, f.post (.list ys :: xs) r [zs] → Q r (putF (.pts (.ins C fs) c .nil) (i :: is) [.list zs] (clr (i :: is) ρ1)))
    (hq : ∀ v H' r S' σ' zs, MDone X kp C fs c is i σ S H ρ v H' r S' ρ1 σ' zs → Q r (putF (.pts (.ins C fs) c .nil) (i :: is) [.list zs] (clr (i :: is) ρ1)) → Q' v H') : spOb X.K C fs c fs c kp f (.ref a0 :: vs) H1 Q' E := by
  obtain ⟨a, dx, us, bs, O⟩ := get_ob R1 hi hrd hnd
  have ea : a = a0 := by
    have := O.at_
    rw [ha0] at this
    cases this
    rfl
  subst ea
  obtain ⟨hsz, hfl⟩ := rd_len c hrd
  have hnd' : (i :: is).Nodup := List.nodup_cons.mpr ⟨fun hm => by
    obtain ⟨v, _, hb, _⟩ := paired_mem O.pair i hm
    omega, hnd⟩
  have hx2 := hx
  rw [xOk, Bool.and_eq_true] at hx2
  have hrt := flat_roots c hfl hsz
  have hokc : ∀ (c : Fs) (B : Nat) (ns : List Nat), c.flat = true → okF B c ns = true := by
    intro c
    induction c with
    | nil => intro B ns _; cases ns <;> rfl
    | val t ih =>
      intro B ns h
      cases ns with
      | nil => rfl
      | cons n ns => exact ih B ns h
    | lst t ih =>
      intro B ns h
      cases ns with
      | nil => rfl
      | cons n ns => exact ih B ns h
    | pts _ _ _ => intro _ _ h; cases h
  have hok : okF (bd X) (.pts (.ins C fs) c .nil) (i :: is) = true := by
    show ((c.roots is).all fun m => decide (bd X ≤ m)) && okF (bd X) c is && okF (bd X) .nil (is.drop c.size) = true
    rw [hokc c _ _ hfl, hrt, Bool.and_true]
    have : (is.all fun m => decide (bd X ≤ m)) = true := List.all_eq_true.mpr fun m hm => by
      obtain ⟨v, _, hb, _⟩ := paired_mem O.pair m hm
      exact decide_eq_true hb
    rw [this]
    cases is.drop c.size <;> rfl
  refine ⟨a, dx, us, vs, S1, xs, ys, bs, rfl, R1.sub, O.obj, O.len, O.dict, O.own, O.nd, O.new, hvs, hpre, fun r zs hpost u S' H' dx' us' bs' CE g1 g2 g3 g4 g5 g6 g7 g8 hu => ?_⟩
  obtain ⟨σ', pt⟩ := ob_put (ns := i :: is) R1 hi O CE (fun m hm => hm) g1 g2 g3 g4 g5 g6 g7 hnd' rfl hx2.1 (fun m hm => of_decide_eq_true (List.all_eq_true.mp hx2.2 m hm)) (by simp [hsz]) hok
  refine hq u H' r S' σ' zs ?_ (q r zs hpost)
  have hlen : σ'.length = σ.length := by rw [pt.rel.len, pt.len, clr_len, ← R1.len]
  have hat : σ'[i]? = some (some (.ref a)) := by
    cases pt.at_ with
    | cons r _ => exact r
  have out : ∀ m, m ∉ i :: is → σ'[m]? = σ[m]? ∧ (putF (.pts (.ins C fs) c .nil) (i :: is) [.list zs] (clr (i :: is) ρ1))[m]? = ρ1[m]? := fun m hm => by
    obtain ⟨q1, q2⟩ := pt.out m fun z => hm (List.mem_of_mem_take z)
    exact ⟨q1, by rw [q2, clr_out hm]⟩
  have hil : i < ρ1.length := (List.getElem?_eq_some_iff.mp hi).1
  have hst : (putF (.pts (.ins C fs) c .nil) (i :: is) [.list zs] (clr (i :: is) ρ1))[i]? = some (.st (.ins C fs) is) := by
    show ((putF c is zs (clr (i :: is) ρ1)).set i (.st (.ins C fs) (c.roots is)))[i]? = _
    rw [hrt]
    refine List.getElem?_set_self ?_
    have hpl := pt.len
    have hpl : ((putF c is zs (clr (i :: is) ρ1)).set i (.st (.ins C fs) (c.roots is))).length = _ := hpl
    rw [List.length_set, clr_len] at hpl
    rw [hpl]
    exact hil
  have aown : OwnAt σ ρ1 a := ⟨i, _, ⟨hi, rfl⟩, O.at_⟩
  have own1 : ∀ b ∈ a :: bs, OwnAt σ ρ1 b := fun b hb => by
    obtain ⟨m, _, s, h2, e2⟩ := O.ow hi b hb
    exact ⟨m, s, h2, e2⟩
  have dxn := (pt.rel.vir.dx i C fs is a dx' _ hst hat g1).2
  have hownb : ∀ b, OwnAt σ' (putF (.pts (.ins C fs) c .nil) (i :: is) [.list zs] (clr (i :: is) ρ1)) b → OwnAt σ ρ1 b ∨ H1 b = none := fun b z => by
    rcases pt.own b z with z' | z'
    · exact .inl ((clr_ok (ns := i :: is) R1).2.1 b z')
    · have z' : b ∈ a :: ([dx'] ++ (bs' ++ [])) := z'
      rw [show a :: ([dx'] ++ (bs' ++ [])) = a :: dx' :: bs' by simp] at z'
      rcases List.mem_cons.mp z' with z' | z'
      · exact .inl (z' ▸ aown)
      · rcases List.mem_cons.mp z' with z' | z'
        · exact absurd (z' ▸ z) dxn
        · rcases g7 b z' with z' | z'
          · exact .inl (own1 b (List.mem_cons_of_mem _ z'))
          · exact .inr z'
  have nin : ∀ {b : Addr}, ¬ OwnAt σ ρ1 b → b ∉ a :: bs := fun {b} n hm => n (own1 b hm)
  have X1 : ∀ F : List Nat, (is.all fun m => !F.contains m) = true → XS F σ S1 H1 ρ1 σ' S' H' (putF (.pts (.ins C fs) c .nil) (i :: is) [.list zs] (clr (i :: is) ρ1)) := fun F hF => by
    have hFm : ∀ j ∈ F, j ∉ is := fun j hj z => by
      have := List.all_eq_true.mp hF j z
      rw [List.contains_iff_mem.mpr hj] at this
      cases this
    refine ⟨CE.same, CE.there, fun b h h' n => CE.stay b h h' (nin n), fun b o h h' n => CE.keep b o h h' (nin n), hownb, fun j hj => ?_, fun j hj h => ?_⟩
    · by_cases z : j = i
      · rw [z, hat, O.at_]
      · exact (out j fun hm => by
          rcases List.mem_cons.mp hm with h | h
          · exact z h
          · exact hFm j hj h).1
    · obtain ⟨ws, h⟩ := h
      have z : j ≠ i := fun z => by
        rw [z, hi] at h
        cases h
      rw [(out j fun hm => by
          rcases List.mem_cons.mp hm with h | h
          · exact z h
          · exact hFm j hj h).2]
      exact ⟨ws, h⟩
  refine ⟨pt.rel, fun F hF => E1.xs.trans (X1 F hF), fun hk => ?_, hu, fun hvi => ⟨hlen, fun j y hj hvis => ?_⟩⟩
  · have eus := g8 hk
    subst eus
    have ebs : bs = bs' := flat_bs c hfl O.own g4
    subst ebs
    have hss : σ' = σ := by
      refine List.ext_getElem? fun m => ?_
      by_cases hm : m ∈ i :: is
      · rcases List.mem_cons.mp hm with z | z
        · rw [z, hat, O.at_]
        · obtain ⟨a2, us2, o2, f1, f2, f3, f4, f5⟩ := pt.rel.vir.st i _ is hst
          rw [hat] at f1
          cases f1
          obtain ⟨l2, d2, e2, _⟩ := f4
          rw [e2, g1] at f3
          have ez : fs.zip us' = fs.zip us2 := by
            injection f3 with f3
            injection f3
          have := zip_inj g2 l2 ez
          subst this
          obtain ⟨v, hv1, _, hv2⟩ := paired_mem O.pair m z
          have go : ∀ {us1 : List V} {js : List Nat}, m ∈ js → Paired (fun (v : V) (m : Nat) => bd X ≤ m ∧ σ[m]? = some (some v)) us1 js → Paired (fun (v : V) (m : Nat) => bd X ≤ m ∧ σ'[m]? = some (some v)) us1 js → σ'[m]? = σ[m]? := by
            intro us1 js
            induction js generalizing us1 with
            | nil => intro h; cases h
            | cons j js ih =>
              intro hm h1 h2
              cases h1 with
              | cons r1 t1 =>
                cases h2 with
                | cons r2 t2 =>
                  rcases List.mem_cons.mp hm with z | z
                  · rw [z, r1.2, r2.2]
                  · exact ih z t1 t2
          exact go z O.pair f5
      · exact (out m hm).1
    have kept := putF_keep CE.same c (ρ2 := ρ1) (ρ3 := clr (i :: is) ρ1) hfl hrd O.own g4 hnd (fun m hm => by rw [clr_len]; exact of_decide_eq_true (List.all_eq_true.mp hx2.2 m (List.mem_cons_of_mem _ hm)))
    refine ⟨hss, E1.trans ⟨CE.same, CE.there, fun b h h' => ?_, fun b o h h' n => CE.keep b o h h' (nin n), fun j => ?_, fun j n => ?_⟩⟩
    · by_cases hb : b ∈ a :: bs
      · refine g6 b ?_
        rcases List.mem_cons.mp hb with z | z
        · rw [z]; exact List.mem_cons_self
        · exact List.mem_cons_of_mem _ (List.mem_cons_of_mem _ z)
      · exact CE.stay b h h' hb
    · by_cases hj : j = i
      · subst hj
        rw [hi, hst]
      · by_cases hj2 : j ∈ is
        · have e : (putF (.pts (.ins C fs) c .nil) (i :: is) [.list zs] (clr (i :: is) ρ1))[j]? = (putF c is zs (clr (i :: is) ρ1))[j]? := by
            show ((putF c is zs (clr (i :: is) ρ1)).set i (.st (.ins C fs) (c.roots is)))[j]? = _
            rw [List.getElem?_set_ne fun z => hj z.symm]
          rw [e]
          rcases kept j hj2 with ⟨h1, h2⟩ | ⟨x, h1, h2⟩
          · exact ⟨fun _ => h2, fun _ => h1⟩
          · rw [h1, h2]
        · rw [(out j fun hm => by
            rcases List.mem_cons.mp hm with h | h
            · exact hj h
            · exact hj2 h).2]
    · by_cases hj : j = i
      · subst hj
        rw [hi, hst]
      · by_cases hj2 : j ∈ is
        · have e : (putF (.pts (.ins C fs) c .nil) (i :: is) [.list zs] (clr (i :: is) ρ1))[j]? = (putF c is zs (clr (i :: is) ρ1))[j]? := by
            show ((putF c is zs (clr (i :: is) ρ1)).set i (.st (.ins C fs) (c.roots is)))[j]? = _
            rw [List.getElem?_set_ne fun z => hj z.symm]
          rw [e]
          rcases kept j hj2 with ⟨⟨xs, h1⟩, _⟩ | ⟨x, h1, h2⟩
          · exact absurd h1 (n xs)
          · rw [h1, h2]
        · rw [(out j fun hm => by
            rcases List.mem_cons.mp hm with h | h
            · exact hj h
            · exact hj2 h).2]
  · by_cases hm : j ∈ i :: is
    · rcases List.mem_cons.mp hm with z | z
      · rw [z, hat, O.at_]
      · have hi := List.all_eq_true.mp hvi j z
        unfold invis at hi
        rw [hj] at hi
        have hi : X.env.scope.names.lookup y = none := Option.isNone_iff_eq_none.mp hi
        rcases hvis with q | q | q <;> (rw [hi] at q; cases q)
    · exact (out j hm).1
/-! ### in an expression: the fields are not given anew -/
def tMeth (C : Addr) (fs : List Str) (c : Fs) (is : List Nat) (i : Nat) (f : FSpec) (t : VA) : VE := fun ρ Q => tMethQ C fs c is i f t ρ Q
theorem je_meth {pl : Sem Bool} (hr : Room lvl X.A) (k : KnownM X.prog X.w X.K X.mg X.base lvl C fs c true f) (hC : Cls X.K C) (hn : Nm X i x) (hib : decide (i < bd X) = true) (hin : decide is.Nodup = true) (hmf : decide (f.name ∉ fs) = true) (h : JA X (e :: es) t) (hs : (e :: es).all notStar = true)
    (ht0 : eval (.Call (.Attribute (.Name x p) f.name apos) (e :: es) [] pos) X.env = (do
      let ov ← eval (.Name x p) X.env
      standAt apos.atName
      let (f, first) ← holding [ov] (getMethod ov f.name pl)
      callWith pos f first (backTo pos (starEach (e :: es) X.env)) (backToKw pos (keywordEach [] X.env)))) : JE X (.Call (.Attribute (.Name x p) f.name apos) (e :: es) [] pos) (tMeth C fs c is i f t) := by
  intro σ S H ρ Q hR ht
  obtain ⟨hi0, ht⟩ := ht
  obtain ⟨g, fd, ps, F, hm, hb⟩ := k.ok
  rw [List.all_cons, Bool.and_eq_true] at hs
  obtain ⟨a, us, o, e1, e2, e3, e4, e5⟩ := hR.vir.st i _ is hi0
  obtain ⟨l, dx, rfl, hd⟩ := e4
  refine W.of (pe_meth (pl := pl) hn.pe hC hm F hr hb .nil pass0 paW (star_cons hs.1) (star_none hs.2) ht0) ⟨_, e1, a, dx, _, rfl, e3, lookup_zip_none (of_decide_eq_true hmf), (h σ S H ρ _ hR ht).mono fun vs H1 q => ?_⟩
  obtain ⟨S1, ρ1, as, R1, E1, d1, xs, ys, hv, hi, hrd, hx, hpre, q⟩ := q
  rw [List.append_nil]
  refine meth_core (kp := true) (of_decide_eq_true hib) R1 E1 e1 (vals_rp d1 hv) hi hrd hx (of_decide_eq_true hin) hpre q fun v H' r S' σ' zs M q => ?_
  obtain ⟨es, ext⟩ := M.ext rfl
  have R' := M.rel
  rw [es] at R'
  exact ⟨S', _, r, R', ext, M.rp, q⟩
theorem je_meth0 {pl : Sem Bool} (hr : Room lvl X.A) (k : KnownM X.prog X.w X.K X.mg X.base lvl C fs c true f) (hC : Cls X.K C) (hn : Nm X i x) (hib : decide (i < bd X) = true) (hin : decide is.Nodup = true) (hmf : decide (f.name ∉ fs) = true)
    (ht0 : eval (.Call (.Attribute (.Name x p) f.name apos) [] [] pos) X.env = (do
      let ov ← eval (.Name x p) X.env
      standAt apos.atName
      let (f, first) ← holding [ov] (getMethod ov f.name pl)
      callWith pos f first (backTo pos (starEach [] X.env)) (backToKw pos (keywordEach [] X.env)))) : JE X (.Call (.Attribute (.Name x p) f.name apos) [] [] pos) (tMeth C fs c is i f tANil) := by
  intro σ S H ρ Q hR ht
  obtain ⟨hi0, xs, ys, hv, hi, hrd, hx, hpre, q⟩ := ht
  obtain ⟨g, fd, ps, F, hm, hb⟩ := k.ok
  obtain ⟨a, us, o, e1, e2, e3, e4, e5⟩ := hR.vir.st i _ is hi0
  obtain ⟨l, dx, rfl, hd⟩ := e4
  refine W.of (pe_meth0 (E := fun _ _ _ => False) (pl := pl) hn.pe hC hm F hr hb .nil pass0 ht0) ⟨_, e1, a, dx, _, rfl, e3, lookup_zip_none (of_decide_eq_true hmf), ?_⟩
  cases hv
  show spOb X.K C fs c fs c true f [V.ref a] H _ (fun _ _ _ => False)
  refine meth_core (kp := true) (of_decide_eq_true hib) hR .refl e1 .nil hi hrd hx (of_decide_eq_true hin) hpre q fun v H' r S' σ' zs M q => ?_
  obtain ⟨es, ext⟩ := M.ext rfl
  have R' := M.rel
  rw [es] at R'
  exact ⟨S', _, r, R', ext, M.rp, q⟩
/-! ### as a statement -/
def tMethS (C : Addr) (fs : List Str) (c : Fs) (is : List Nat) (i : Nat) (f : FSpec) (t : VA) : VS := fun ρ Qn _ => tMethQ C fs c is i f t ρ fun _ ρ1 => Qn ρ1
variable {new : Fs} {F : List Nat} {spos : Pos}
theorem js_meth {pl : Sem Bool} (hr : Room lvl X.A) (k : KnownM X.prog X.w X.K X.mg X.base lvl C fs c kp f) (hC : Cls X.K C) (hn : Nm X i x) (hib : decide (i < bd X) = true) (hin : decide is.Nodup = true) (hiF : (is.all fun m => !F.contains m) = true) (hiv : (is.all fun m => invis X m) = true) (hmf : decide (f.name ∉ fs) = true) (h : JA X (e :: es) t) (hs : (e :: es).all notStar = true)
    (ht0 : eval (.Call (.Attribute (.Name x p) f.name apos) (e :: es) [] pos) X.env = (do
      let ov ← eval (.Name x p) X.env
      standAt apos.atName
      let (f, first) ← holding [ov] (getMethod ov f.name pl)
      callWith pos f first (backTo pos (starEach (e :: es) X.env)) (backToKw pos (keywordEach [] X.env)))) (hsw : swapsWith (.Call (.Attribute (.Name x p) f.name apos) (e :: es) [] pos) none spos.line X.env = pure false) :
    JS X new F (.Expr (.Call (.Attribute (.Name x p) f.name apos) (e :: es) [] pos) spos) (tMethS C fs c is i f t) := by
  intro σ S H ρ Qn Qr hR ht
  obtain ⟨hi0, ht⟩ := ht
  obtain ⟨g, fd, ps, Fk, hm, hb⟩ := k.ok
  rw [List.all_cons, Bool.and_eq_true] at hs
  obtain ⟨a, us, o, e1, e2, e3, e4, e5⟩ := hR.vir.st i _ is hi0
  obtain ⟨l, dx, rfl, hd⟩ := e4
  refine WS.vir (WS.of (ps_expr (pe_meth (pl := pl) hn.pe hC hm Fk hr hb .nil pass0 paW (star_cons hs.1) (star_none hs.2) ht0) hsw) ⟨_, e1, a, dx, _, rfl, e3, lookup_zip_none (of_decide_eq_true hmf), (h σ S H ρ _ hR ht).mono fun vs H1 q => ?_⟩)
  obtain ⟨S1, ρ1, as, R1, E1, d1, xs, ys, hv, hi, hrd, hx, hpre, q⟩ := q
  rw [List.append_nil]
  refine meth_core (kp := kp) (of_decide_eq_true hib) R1 E1 e1 (vals_rp d1 hv) hi hrd hx (of_decide_eq_true hin) hpre q fun v H' r S' σ' zs M q => ?_
  exact ⟨σ', M.vir hiv, S', _, M.rel, M.xs F hiF, q⟩
theorem js_meth0 {pl : Sem Bool} (hr : Room lvl X.A) (k : KnownM X.prog X.w X.K X.mg X.base lvl C fs c kp f) (hC : Cls X.K C) (hn : Nm X i x) (hib : decide (i < bd X) = true) (hin : decide is.Nodup = true) (hiF : (is.all fun m => !F.contains m) = true) (hiv : (is.all fun m => invis X m) = true) (hmf : decide (f.name ∉ fs) = true)
    (ht0 : eval (.Call (.Attribute (.Name x p) f.name apos) [] [] pos) X.env = (do
      let ov ← eval (.Name x p) X.env
      standAt apos.atName
      let (f, first) ← holding [ov] (getMethod ov f.name pl)
      callWith pos f first (backTo pos (starEach [] X.env)) (backToKw pos (keywordEach [] X.env)))) (hsw : swapsWith (.Call (.Attribute (.Name x p) f.name apos) [] [] pos) none spos.line X.env = pure false) :
    JS X new F (.Expr (.Call (.Attribute (.Name x p) f.name apos) [] [] pos) spos) (tMethS C fs c is i f tANil) := by
  intro σ S H ρ Qn Qr hR ht
  obtain ⟨hi0, xs, ys, hv, hi, hrd, hx, hpre, q⟩ := ht
  obtain ⟨g, fd, ps, Fk, hm, hb⟩ := k.ok
  obtain ⟨a, us, o, e1, e2, e3, e4, e5⟩ := hR.vir.st i _ is hi0
  obtain ⟨l, dx, rfl, hd⟩ := e4
  refine WS.vir (WS.of (ps_expr (pe_meth0 (E := fun _ _ _ => False) (pl := pl) hn.pe hC hm Fk hr hb .nil pass0 ht0) hsw) ⟨_, e1, a, dx, _, rfl, e3, lookup_zip_none (of_decide_eq_true hmf), ?_⟩)
  cases hv
  show spOb X.K C fs c fs c kp f [V.ref a] H _ (fun _ _ _ => False)
  refine meth_core (kp := kp) (of_decide_eq_true hib) hR .refl e1 .nil hi hrd hx (of_decide_eq_true hin) hpre q fun v H' r S' σ' zs M q => ?_
  exact ⟨σ', M.vir hiv, S', _, M.rel, M.xs F hiF, q⟩
/-! ### new objects -/
def tMakeS (C : Addr) (fs : List Str) (c : Fs) (is : List Nat) (i : Nat) (f : FSpec) (t : VA) : VS := fun ρ Qn _ => t ρ fun as ρ1 => ∃ xs, valsD as = some xs ∧ f.pre (.list [] :: xs) ∧ xOk ρ1 (i :: is) = true ∧ ∀ r zs, f.post (.list [] :: xs) r [zs] → r = .none ∧ Qn (putF (.pts (.ins C fs) c .nil) (i :: is) [.list zs] (clr (i :: is) ρ1))
theorem js_make {nm : Str} {pos' : Pos} (nd : X.N.Nodup) (hn : Sn X i x) (hv : (is.all fun m => invis X m) = true) (hok : okF (bd X) (.pts (.ins C fs) c .nil) (i :: is) = true) (hrt : c.roots is = is) (hsz : decide (c.size ≤ is.length) = true) (hnd : decide (i :: is).Nodup = true) (hF : ((i :: is).all fun m => !F.contains m) = true)
    (hr : Room (lvl + 1) X.A) (k : KnownI X.prog X.w X.K X.mg X.base lvl C nm fs c f) (hg : Gl X nm) (h : JA X (e :: es) t) (hs : (e :: es).all notStar = true) (hsw : swapsWith (.Call (.Name nm p) (e :: es) [] pos) (some (.Name x pos')) spos.line X.env = pure false) :
    JS X new F (.Assign [.Name x pos'] (.Call (.Name nm p) (e :: es) [] pos) spos) (tMakeS C fs c is i f t) := by
  intro σ S H ρ Qn Qr hR ht
  obtain ⟨g, fd, ps, Fk, M, hb⟩ := k.ok
  rw [List.all_cons, Bool.and_eq_true] at hs
  refine WS.vir (WS.of (ps_set nd hn.n hn.l (pe_make M Fk hr hg k.at_ hb .nil pass0 paW k.nd (star_cons hs.1) (star_none hs.2)) hsw hn.f) ((h σ S H ρ _ hR ht).mono fun vs H1 q => ?_))
  obtain ⟨S1, ρ1, as, R1, E1, d1, xs, hvs, hpre, hx, q⟩ := q
  intro a dx ha hdx hne
  rw [List.append_nil]
  have aS : S1 a = none := R1.sub.free ha
  have dS : S1 dx = none := R1.sub.free hdx
  have old : ∀ {b : Addr}, H1 b ≠ none → b ≠ a ∧ b ≠ dx := fun {b} h => ⟨fun z => h (by rw [z]; exact ha), fun z => h (by rw [z]; exact hdx)⟩
  have get : ∀ {b : Addr}, H1 b ≠ none → upd (upd H1 dx (.own a)) a (.ins C dx []) b = H1 b := fun {b} h => by
    rw [upd_ne (old h).1, upd_ne (old h).2]
  refine ⟨a, dx, [], vs, S1, xs, [], [], rfl, fun b o z => ?_, upd_same, rfl, by rw [upd_ne hne, upd_same], ⟨rfl, rfl, rfl⟩, ?_, fun b hb => ?_, vals_rp d1 hvs, hpre, fun r zs hpost u S' H' dx' us' bs' CE g1 g2 g3 g4 g5 g6 g7 g8 hu => ?_⟩
  · rw [get (by rw [R1.sub _ _ z]; simp)]
    exact R1.sub _ _ z
  · simp only [List.nodup_cons, List.mem_cons, List.not_mem_nil, or_false, not_false_eq_true, List.nodup_nil, and_true]
    exact fun z => hne z.symm
  · simp only [List.mem_cons, List.not_mem_nil, or_false] at hb
    rcases hb with z | z
    · rw [z]; exact aS
    · rw [z]; exact dS
  obtain ⟨er, q⟩ := q r zs hpost
  subst er
  refine ⟨by cases hu; rfl, ?_⟩
  have keep : ∀ b o, H1 b = some o → H' b = some o := fun b o h => by
    have hb : H1 b ≠ none := by rw [h]; simp
    have h2 : upd (upd H1 dx (.own a)) a (.ins C dx []) b = some o := by rw [get hb]; exact h
    cases hs : S1 b with
    | none => exact CE.keep b o h2 hs (by simpa using (old hb).1)
    | some o2 =>
      have e := R1.sub _ _ hs
      rw [h] at e
      cases e
      exact CE.sub _ _ (CE.same _ _ hs)
  have stay : ∀ b, H1 b ≠ none → S1 b = none → S' b = none := fun b hb hs => CE.stay b (by rw [get hb]; exact hb) hs (by simpa using (old hb).1)
  have R' := R1.grow CE.same keep CE.sub stay
  have E' : Ext σ S1 H1 ρ1 S' H' ρ1 := .grow CE.same keep stay
  have bn : ∀ b ∈ bs', H1 b = none := fun b hb => by
    rcases g7 b hb with z | z
    · cases z
    · cases q : H1 b with
      | none => rfl
      | some o => rw [get (by rw [q]; simp), q] at z; cases z
  have nown : ∀ b ∈ a :: dx' :: bs', ¬ OwnAt σ ρ1 b := fun b hb z => by
    rcases List.mem_cons.mp hb with e | hb
    · obtain ⟨_, u, h1, _⟩ := R1.own_at z
      rw [e, ha] at h1
      cases h1
    · rcases List.mem_cons.mp hb with e | hb
      · obtain ⟨_, u, h1, h2⟩ := R'.own_at z
        rw [e, g3] at h1
        cases h1
        cases h2
      · obtain ⟨_, u, h1, _⟩ := R1.own_at z
        rw [bn b hb] at h1
        cases h1
  rw [xOk, Bool.and_eq_true] at hx
  obtain ⟨c1, c2, c3⟩ := clr_ok (ns := i :: is) R'
  have eas : a :: ([dx'] ++ (bs' ++ [])) = a :: dx' :: bs' := by simp
  have hFo : OwnF S' H' (.pts (.ins C fs) c .nil) [.ref a] [.list zs] (a :: ([dx'] ++ (bs' ++ []))) := ⟨a, us', zs, _, bs', [], [], [], rfl, rfl, rfl, g1, ⟨g2, dx', rfl, g3⟩, g4, rfl, rfl, rfl⟩
  have hnd := of_decide_eq_true hnd
  obtain ⟨σ', pt⟩ := forest_ok (H0 := fun b => if b ∈ a :: dx' :: bs' then none else H' b) _ c1 (c3 (fun j kk ys q => by
      obtain ⟨b, ws, b1, b2, b3⟩ := R1.ro j kk ys q
      refine ⟨b, b1, ?_⟩
      rcases b2 with ⟨rfl, g⟩ | ⟨⟨o, ho, g⟩, n⟩
      · exact .inr ⟨rfl, ws, g, b3.mono CE.same⟩
      · refine .inl ?_
        have hk := keep b o g
        have hb0 : H1 b ≠ none := by rw [g]; simp
        have hnb : b ∉ a :: dx' :: bs' := fun hm => by
          rcases List.mem_cons.mp hm with e | hm
          · exact (old hb0).1 e
          · rcases List.mem_cons.mp hm with e | hm
            · rw [e, g3] at hk
              cases hk
              rcases ho with z | ⟨_, _, z⟩ <;> cases z
            · exact hb0 (bn b hm)
        show (if b ∈ a :: dx' :: bs' then none else H' b) ≠ none
        rw [if_neg hnb, hk]
        simp)) hFo (by rw [eas]; exact g5) (fun b hb => by
      rw [eas] at hb
      exact ⟨if_pos hb, g6 b hb, fun z => nown b hb (c2 b z)⟩) hnd hx.1 (fun m hm => by rw [clr_len]; exact of_decide_eq_true (List.all_eq_true.mp hx.2 m hm)) (by
      show c.size + 0 + 1 ≤ is.length + 1
      have := of_decide_eq_true hsz
      omega) hok
  have hlen : σ'.length = σ.length := by rw [pt.rel.len, pt.len, clr_len, ← R1.len]
  have hat : σ'[i]? = some (some (.ref a)) := by
    cases pt.at_ with
    | cons r _ => exact r
  have out : ∀ m, m ∉ i :: is → σ'[m]? = σ[m]? ∧ (putF (.pts (.ins C fs) c .nil) (i :: is) [.list zs] (clr (i :: is) ρ1))[m]? = ρ1[m]? := fun m hm => by
    obtain ⟨q1, q2⟩ := pt.out m fun z => hm (List.mem_of_mem_take z)
    exact ⟨q1, by rw [q2, clr_out hm]⟩
  have hil : i < ρ1.length := of_decide_eq_true (List.all_eq_true.mp hx.2 i List.mem_cons_self)
  have hst : (putF (.pts (.ins C fs) c .nil) (i :: is) [.list zs] (clr (i :: is) ρ1))[i]? = some (.st (.ins C fs) is) := by
    show ((putF c is zs (clr (i :: is) ρ1)).set i (.st (.ins C fs) (c.roots is)))[i]? = _
    rw [hrt]
    refine List.getElem?_set_self ?_
    have hpl := pt.len
    have hpl : ((putF c is zs (clr (i :: is) ρ1)).set i (.st (.ins C fs) (c.roots is))).length = _ := hpl
    rw [List.length_set, clr_len] at hpl
    rw [hpl]
    exact hil
  have dxn := (pt.rel.vir.dx i C fs is a dx' _ hst hat g1).2
  have hFm : ∀ j ∈ F, j ∉ i :: is := fun j hj z => by
    have := List.all_eq_true.mp hF j z
    rw [List.contains_iff_mem.mpr hj] at this
    cases this
  refine ⟨σ', ⟨by rw [List.length_set]; exact hlen, fun j y hj hvis => ?_⟩, S', _, pt.rel, E1.xs.trans ?_, q⟩
  · by_cases z : j = i
    · rw [z, hat, List.getElem?_set_self (by rw [R1.len]; exact hil)]
    · have hj' : j ∉ i :: is := fun hm => by
        rcases List.mem_cons.mp hm with hm | hm
        · exact z hm
        · have hi := List.all_eq_true.mp hv j hm
          unfold invis at hi
          rw [hj] at hi
          have hi : X.env.scope.names.lookup y = none := Option.isNone_iff_eq_none.mp hi
          rcases hvis with q | q | q <;> (rw [hi] at q; cases q)
      rw [(out j hj').1, List.getElem?_set_ne fun q => z q.symm]
  · refine ⟨CE.same, E'.there, fun b h h' _ => stay b h h', fun b o h h' _ => keep b o h, fun b z => ?_, fun j hj => (out j (hFm j hj)).1, fun j hj h => ?_⟩
    · rcases pt.own b z with z' | z'
      · exact .inl (c2 b z')
      · have z' : b ∈ a :: ([dx'] ++ (bs' ++ [])) := z'
        rw [eas] at z'
        rcases List.mem_cons.mp z' with e | z'
        · exact .inr (by rw [e]; exact ha)
        · rcases List.mem_cons.mp z' with e | z'
          · exact absurd (e ▸ z) dxn
          · exact .inr (bn b z')
    · rw [(out j (hFm j hj)).2]
      exact h
end
end WA

/-! WA28: text.split(text); statements that are never reached. -/
namespace WA
open PySem PySem.Spec PyProof.Rows L2
section
variable {X : Cx} {pos p : Pos} {a b e : Expr} {ta tb : VT} {new : Fs} {F : List Nat} {st : Stmt}
def tNever : VS := fun _ _ _ => False
theorem js_never : JS X new F st tNever := fun _ _ _ _ _ _ _ ht => ht.elim
def tSplit (ta tb : VT) : VE := fun ρ Q => ta ρ fun u ρ1 => ∃ x, u = .val (.str x) ∧ tb ρ1 fun w ρ2 => match w with
  | .val (.str y) => (y.length == 0) = false ∧ x.length + 2 ≤ sizeLine ∧ Q (.list ((Txt.split x y).map PyData.str)) ρ2
  | _ => False
theorem jn_split {apos : Pos} (ha : JT X a ta) (hb : JT X b tb) (hs : notStar b = true) (hba : attributeBase a "split" X.env (eval a X.env) = eval a X.env) (hl : (apos.endLine == pos.line) = true) : JN X (.Call (.Attribute a "split" apos) [b] [] pos) (tSplit ta tb) := by
  intro σ S H ρ Q hR ht
  refine W.of (pe_m1 F.slot_str_split F.type_str_split mt_split peW peW (star_cons hs) hba hl) ((ha σ S H ρ _ hR ht).mono fun v H1 q => ?_)
  obtain ⟨S1, ρ1, u, R1, E1, d1, z0, rfl, q1⟩ := q
  have ev : v = .str z0 := by cases d1; rfl
  refine ⟨⟨z0, ev⟩, (hb σ S1 H1 ρ1 _ R1 q1).mono fun w H2 q => ?_⟩
  obtain ⟨S2, ρ2, t, R2, E2, d2, q2⟩ := q
  split at q2
  · rename_i y
    have ew : w = .str y := by cases d2; rfl
    obtain ⟨h1, h2, q2⟩ := q2
    refine ⟨z0, y, ev, by rw [ew], h1, h2, fun n hn => ?_⟩
    exact ⟨S2, ρ2, n, _, _, R2.new0 hn, (E1.trans E2).trans (.new0 R2 hn), rfl, E_none (E1.trans E2) hn, R2.sub.free hn, upd_same, rps_of_strs _, q2⟩
  · exact q2.elim
end
end WA

/-! WP1: words as lists of signs; all_words. -/
namespace WA
open PySem PySem.Spec PyProof.Rows L2
/-- a word, by its signs -/
def wd (l : List Nat) : Str := ⟨(l.map (· + 48)).toArray⟩
def sw (l : List Nat) : D := .str (wd l)
theorem wd_nil : wd [] = ("" : Str) := by decide
theorem wd_len (l : List Nat) : (wd l).length = l.length := by simp [wd, Str.length]
theorem wd_cps (l : List Nat) : (wd l).cps.toList = l.map (· + 48) := by simp [wd]
theorem wd_app (a b : List Nat) : wd a ++ wd b = wd (a ++ b) := by
  show (⟨(wd a).cps ++ (wd b).cps⟩ : Str) = wd (a ++ b)
  unfold wd
  simp
theorem wd_inj {a b : List Nat} (h : wd a = wd b) : a = b := by
  have e : (wd a).cps.toList = (wd b).cps.toList := by rw [h]
  rw [wd_cps, wd_cps] at e
  exact (List.map_inj_right (fun x y h => by omega)).mp e
theorem sw_inj {a b : List Nat} (h : sw a = sw b) : a = b := by
  unfold sw at h
  exact wd_inj (PyData.str.inj h)
theorem sign_str {d : Nat} (h : d < 10) : ((toString (d : Int) : String) : Str) = wd [d] := by
  have : d = 0 ∨ d = 1 ∨ d = 2 ∨ d = 3 ∨ d = 4 ∨ d = 5 ∨ d = 6 ∨ d = 7 ∨ d = 8 ∨ d = 9 := by omega
  rcases this with rfl | rfl | rfl | rfl | rfl | rfl | rfl | rfl | rfl | rfl <;> decide +kernel
/-- all words of a length -/
def allL (q : Nat) : Nat → List (List Nat)
  | 0 => [[]]
  | n + 1 => (allL q n).flatMap fun w => (List.range q).map fun s => w ++ [s]
theorem allL_len (q : Nat) : ∀ n, (allL q n).length = q ^ n
  | 0 => rfl
  | n + 1 => by
    unfold allL
    rw [List.length_flatMap]
    simp only [List.length_map, List.length_range]
    rw [List.map_const', List.sum_replicate_nat, allL_len q n, Nat.pow_succ]
theorem allL_wlen (q : Nat) : ∀ n, ∀ w ∈ allL q n, w.length = n
  | 0, w, h => by
    have : w = [] := by simpa [allL] using h
    rw [this]; rfl
  | n + 1, w, h => by
    unfold allL at h
    obtain ⟨v, hv, h⟩ := List.mem_flatMap.mp h
    obtain ⟨s, _, rfl⟩ := List.mem_map.mp h
    rw [List.length_append, allL_wlen q n v hv]
    rfl
def szOk (q n : Nat) : Prop := (q = 2 ∧ n ≤ 8) ∨ (q = 3 ∧ n ≤ 5)
theorem pow_le {q n : Nat} (h : szOk q n) : q ^ n ≤ 256 := by
  rcases h with ⟨rfl, h⟩ | ⟨rfl, h⟩
  · exact Nat.le_trans (Nat.pow_le_pow_right (by decide) h) (by decide)
  · exact Nat.le_trans (Nat.pow_le_pow_right (by decide) h) (by decide)
theorem szOk.q3 {q n : Nat} (h : szOk q n) : q ≤ 3 := by rcases h with ⟨rfl, _⟩ | ⟨rfl, _⟩ <;> decide
theorem szOk.q2 {q n : Nat} (h : szOk q n) : 2 ≤ q := by rcases h with ⟨rfl, _⟩ | ⟨rfl, _⟩ <;> decide
theorem szOk.n8 {q n : Nat} (h : szOk q n) : n ≤ 8 := by rcases h with ⟨rfl, h⟩ | ⟨rfl, h⟩ <;> omega
theorem szOk.le {q n m : Nat} (h : szOk q n) (hm : m ≤ n) : szOk q m := by
  rcases h with ⟨rfl, h⟩ | ⟨rfl, h⟩
  · exact .inl ⟨rfl, by omega⟩
  · exact .inr ⟨rfl, by omega⟩
theorem sl1000 : 1000 ≤ sizeLine := by decide
def f_all_words : FSpec := ⟨"all_words", [.val, .val], true, fun xs => ∃ q n : Nat, xs = [.int q, .int n] ∧ szOk q n, fun xs r yss => ∀ q n : Nat, xs = [.int q, .int n] → r = .list ((allL q n).map sw) ∧ yss = []⟩
/-! all_words: 0 q, 1 n, 2 found, 3 place, 4 more, 5 word, 6 sign -/
def t_all_words : VS := (tSCons (tAsgO 2 (tLstD (tACons (vT (tcon (.str ""))) tANil)))
    (tSCons (tFor [] (.one 3) (tRng1 (tvar 1)) (tSCons (tAsgO 4 (tLstD tANil))
    (tSCons (tFor [2] (.one 5) (tIt (tvar 2)) (tSCons (tExp (vT (tXtd 4 (vT (tLcV (.one 6) (tRng1 (tvar 0)) tYesV (vT (tBin .add (tvar 5) (vT (tBlt .str (tACons (tvar 6) tANil))))))))))
    tSNil))
    (tSCons (tMv true [] 2 4)
    tSNil))))
    (tSCons (tRetO [] 2)
    tSNil)))

theorem sign_log {d : Nat} (h : d < 10) : ((d : Nat) : Int).natAbs.log2 < 1920 := by
  rw [Int.natAbs_natCast]
  have : d.log2 ≤ d := Nat.log2_le_self d
  omega
theorem wd_fit {a b : List Nat} (h : a.length + b.length ≤ 1000) : (wd a).length + (wd b).length ≤ sizeLine := by
  rw [wd_len, wd_len]
  have := sl1000
  omega
theorem len_le {α : Type} {l : List α} {n : Nat} (h : l.length = n) (h2 : n ≤ 1000) : l.length ≤ sizeLine := by
  have := sl1000
  omega
theorem pre_len {q k : Nat} {p r : List (List Nat)} {w : List Nat} (he : allL q k = p ++ w :: r) : (p.flatMap fun w => (List.range q).map fun s => w ++ [s]).length + q ≤ q ^ (k + 1) := by
  have h := allL_len q (k + 1)
  unfold allL at h
  rw [he, List.flatMap_append, List.flatMap_cons, List.length_append, List.length_append, List.length_map, List.length_range] at h
  omega
theorem plain_all_words : Plain f_all_words 7 t_all_words := by
  rintro xs ρ ⟨q, n, rfl, hs⟩ hi
  cases hi
  have hq := hs.q3
  have hn := hs.n8
  refine ⟨by decide, by omega, by omega, rfl, ?_⟩
  refine for_rng0 (fun k ρ => ∃ s3 s4 s5, ρ = [.v (.int q), .v (.int n), .own ((allL q k).map sw), s3, s4, s5, .no]) ⟨.no, .no, .no, rfl⟩ (fun _ _ _ => guard_nil) (fun k ρ K hk hI hK => ?_) (fun ρ hI => ?_)
  · obtain ⟨s3, s4, s5, rfl⟩ := hI
    have hpow := pow_le (hs.le (m := k + 1) hk)
    refine ⟨_, rfl, by decide, rfl, ?_⟩
    refine for_all (fun w => [sw w]) (allL q k) (fun p ρ => ∃ s5, ρ = [.v (.int q), .v (.int n), .own ((allL q k).map sw), .v (.int (k : Nat)), .own ((p.flatMap fun w => (List.range q).map fun s => w ++ [s]).map sw), s5, .no]) (by simp) ⟨s5, rfl⟩ (fun p ρ h => ?_) (fun p w r ρ K' he hI hK' => ?_) (fun ρ hI => ?_)
    · obtain ⟨s5, rfl⟩ := h
      exact guard_one rfl
    · obtain ⟨s5, rfl⟩ := hI
      have hw : w ∈ allL q k := by rw [he]; simp
      have hwl := allL_wlen q k w hw
      refine ⟨_, rfl, ⟨_, rfl⟩, by omega, by omega, rfl, rfl, ?_⟩
      refine lc_map (fun i : Nat => [PyData.int (i : Nat)]) (fun s => sw (w ++ [s])) (List.range q) (rng0 q) guard_nil (fun a ha => ?_) (len_le List.length_range (by omega)) ?_
      · have ha := List.mem_range.mp ha
        refine ⟨_, rfl, rfl, fun K2 k2 => ⟨sign_log (by omega), ?_, ?_⟩⟩
        · rw [sign_str (by omega)]
          exact wd_fit (by simp only [List.length_singleton]; omega)
        · show K2 (.val (.str (wd w ++ ((toString (a : Int) : String) : Str)))) _
          rw [sign_str (by omega), wd_app]
          exact k2
      · refine ⟨rfl, ?_, hK' _ ⟨.v (sw w), ?_⟩⟩
        · have := pre_len he
          have := sl1000
          simp only [List.length_map, List.length_range]
          omega
        · rw [List.flatMap_append]
          simp [List.set, backR, wipeR, Tg.ix, sw]
    · obtain ⟨s5, rfl⟩ := hI
      exact ⟨rfl, hK _ ⟨_, .no, s5, rfl⟩⟩
  · obtain ⟨s3, s4, s5, rfl⟩ := hI
    refine ⟨rfl, [], fun q' n' e => ?_, .nil⟩
    cases e
    exact ⟨rfl, rfl⟩
/-! ### comparing -/
def okD : D → Bool
  | .none => true
  | .bool _ => true
  | .int _ => true
  | .str x => PyData.strOk x
  | _ => false
theorem okD_lay : ∀ {x : D}, okD x = true → PyData.canLay0 x = true ∧ PyData.depth x = 0
  | .none, _ => ⟨rfl, rfl⟩
  | .bool _, _ => ⟨rfl, rfl⟩
  | .int _, _ => ⟨rfl, rfl⟩
  | .str x, h => ⟨h, rfl⟩
theorem flat_lay : ∀ {xs : List D}, (∀ x ∈ xs, okD x = true) → PyData.canLayAll0 xs = true ∧ PyData.depthAll xs = 0
  | [], _ => ⟨rfl, rfl⟩
  | x :: xs, h => by
    obtain ⟨a, b⟩ := okD_lay (h x List.mem_cons_self)
    obtain ⟨c, d⟩ := flat_lay (xs := xs) fun y hy => h y (List.mem_cons_of_mem _ hy)
    refine ⟨?_, ?_⟩
    · show (PyData.canLay0 x && PyData.canLayAll0 xs) = true
      rw [a, c]
      rfl
    · show max (PyData.depth x) (PyData.depthAll xs) = 0
      rw [b, d]
      rfl
theorem shaped_list {xs : List D} (h : ∀ x ∈ xs, okD x = true) : SeqAt.shaped (.list xs) = true := by
  obtain ⟨a, b⟩ := flat_lay h
  show (PyData.canLayAll0 xs && decide (PyData.depthAll xs + 1 ≤ 64)) = true
  rw [a, b]
  rfl
theorem shaped_tup {xs : List D} (h : ∀ x ∈ xs, okD x = true) : SeqAt.shaped (.tuple xs) = true := by
  obtain ⟨a, b⟩ := flat_lay h
  show (PyData.canLayAll0 xs && decide (PyData.depthAll xs + 1 ≤ 64)) = true
  rw [a, b]
  rfl
theorem eqOk_list {xs ys : List D} (h : ∀ x ∈ xs, okD x = true) (h' : ∀ x ∈ ys, okD x = true) : eqOk (.list xs) (.list ys) = true := by
  show (false || (SeqAt.shaped (.list xs) && SeqAt.shaped (.list ys))) = true
  rw [shaped_list h, shaped_list h']
  rfl
theorem okD_ints {ns : List Int} : ∀ x ∈ ns.map PyData.int, okD x = true := fun x hx => by
  obtain ⟨i, _, rfl⟩ := List.mem_map.mp hx
  rfl
/-- signs below q -/
def Sg (q : Nat) (w : List Nat) : Prop := ∀ s ∈ w, s < q
theorem strOk_wd {q : Nat} {w : List Nat} (hq : q ≤ 10) (h : Sg q w) : PyData.strOk (wd w) = true := by
  unfold PyData.strOk
  rw [Array.all_eq_true_iff_forall_mem]
  intro x hx
  have hx : x ∈ (wd w).cps.toList := by simpa using hx
  rw [wd_cps] at hx
  obtain ⟨s, hs, rfl⟩ := List.mem_map.mp hx
  have := h s hs
  rw [decide_eq_true_eq]
  omega
theorem okD_sws {q : Nat} {ls : List (List Nat)} (hq : q ≤ 10) (h : ∀ w ∈ ls, Sg q w) : ∀ x ∈ ls.map sw, okD x = true := fun x hx => by
  obtain ⟨w, hw, rfl⟩ := List.mem_map.mp hx
  exact strOk_wd hq (h w hw)
theorem eqvAll_map {α : Type} [DecidableEq α] {f : α → D} (hf : ∀ a b, PyData.eqv (f a) (f b) = decide (a = b)) : ∀ xs ys : List α, PyData.eqvAll (xs.map f) (ys.map f) = decide (xs = ys)
  | [], [] => rfl
  | [], _ :: _ => rfl
  | _ :: _, [] => rfl
  | x :: xs, y :: ys => by
    show (PyData.eqv (f x) (f y) && PyData.eqvAll (xs.map f) (ys.map f)) = _
    rw [hf, eqvAll_map hf xs ys]
    by_cases e : x = y
    · subst e
      by_cases e2 : xs = ys
      · subst e2; simp
      · simp [e2]
    · simp [e]
theorem eqv_int (a b : Int) : PyData.eqv (.int a) (.int b) = decide (a = b) := by
  show (a == b) = _
  by_cases e : a = b
  · subst e; simp
  · simp [e]
theorem eqv_str (a b : Str) : PyData.eqv (.str a) (.str b) = decide (a = b) := by
  show (a == b) = _
  by_cases e : a = b
  · subst e; simp
  · simp [e]
theorem eqv_sw (a b : List Nat) : PyData.eqv (sw a) (sw b) = decide (a = b) := by
  unfold sw
  rw [eqv_str]
  by_cases e : a = b
  · subst e; simp
  · have : ¬ wd a = wd b := fun z => e (wd_inj z)
    simp [e, this]
theorem eqv_sws (a b : List (List Nat)) : PyData.eqv (.list (a.map sw)) (.list (b.map sw)) = decide (a = b) := eqvAll_map eqv_sw a b
theorem eqv_ints (a b : List Int) : PyData.eqv (.list (a.map .int)) (.list (b.map .int)) = decide (a = b) := eqvAll_map eqv_int a b
theorem allL_sg (q : Nat) : ∀ n, ∀ w ∈ allL q n, Sg q w
  | 0, w, h => by
    have : w = [] := by simpa [allL] using h
    rw [this]
    exact fun _ z => absurd z (by simp)
  | n + 1, w, h => by
    unfold allL at h
    obtain ⟨v, hv, h⟩ := List.mem_flatMap.mp h
    obtain ⟨s, hs, rfl⟩ := List.mem_map.mp h
    intro z hz
    rcases List.mem_append.mp hz with q' | q'
    · exact allL_sg q n v hv z q'
    · rw [List.mem_singleton.mp q']
      exact List.mem_range.mp hs
end WA

/-! WL1: what the laws draw. -/
namespace WA
open PySem PySem.Spec PyProof.Rows L2
theorem cut_to {α : Type} (xs : List α) (k : Nat) : cutD xs none (some (k : Int)) = xs.take k := by
  unfold cutD
  rw [HT.sIx_none, HT.sIx_nat]
  simp only [List.drop_zero, Nat.sub_zero]
  rw [List.take_eq_take_iff]
  omega
theorem map_at {cs : List Int} {k : Int} (h0 : 0 ≤ k) (h : k < cs.length) : ∃ c, atI (cs.map PyData.int) k = some (.int c) ∧ cs[k.toNat]? = some c := by
  obtain ⟨j, rfl⟩ := Int.eq_ofNat_of_zero_le h0
  have hj : j < cs.length := by simpa using h
  refine ⟨cs[j], atI_nat ?_, by simp [hj]⟩
  rw [List.getElem?_map, List.getElem?_eq_getElem hj]
  rfl
theorem map_at0 (c : Int) (cs : List Int) : atI ((c :: cs).map PyData.int) 0 = some (.int c) := atI_nat (j := 0) rfl
/-- numbers that are drawn -/
def Drawn (ds : List Int) : Prop := ∀ d ∈ ds, 0 ≤ d ∧ d < 2147483587
def f__law_draws : FSpec := ⟨"_law_draws", [.ro, .val, .val], true, fun xs => ∃ (ns : List Int) (t m : Nat), xs = [.list (ns.map PyData.int), .int t, .int m] ∧ ns.length ≤ 63 ∧ t ≤ 10000 ∧ m ≤ 10000,
  fun xs r yss => ∀ m : Nat, xs[2]? = some (.int m) → ∃ ds : List Int, r = .list (ds.map PyData.int) ∧ ds.length = m ∧ Drawn ds ∧ yss = []⟩
/-! _law_draws: 0 _law_script, 1 _law_turn, 2 _law_many, 3 _law_cells, 4 _law_found, 5 _law_left, 6 _law_k, 7 _law_at, 8 _law_place, 9 _law_number, 10 _law_cell -/
def t__law_draws : VS := (tSCons (tAsgV 3 (vT (tCat (vT (tSlL (tvar 0) tONo (tOSo (vT (tcon (.int 63)))))) (vT (tLstD (tACons (tvar 1) tANil))))))
    (tSCons (tAsgO 4 (tLstD tANil))
    (tSCons (tIf (cOf (vT (tCmp .eq (vT (tBin .mod (vT (tBin .fdiv (vT (tIx (tvar 3) (vT (tcon (.int 0))))) (vT (tcon (.int 50000))))) (vT (tcon (.int 2))))) (vT (tcon (.int 1)))))) (tSCons (tAsgO 5 (tLcV (.one 10) (tIt (tvar 3)) tYesV (vT (tBin .fdiv (tvar 10) (vT (tcon (.int 100000)))))))
    (tSCons (tFor [] (.one 6) (tRng1 (vT (tBin .add (tvar 1) (tvar 2)))) (tSCons (tAsgV 7 (vT (tBin .mod (tvar 6) (vT (tBlt .len (tACons (tvar 5) tANil))))))
    (tSCons (tIf (cOf (vT (tCmp .ge (tvar 6) (tvar 1)))) (tSCons (tExp (vT (tApp 4 (vT (tBin .mod (vT (tIx (tvar 5) (tvar 7))) (vT (tcon (.int 2147483587))))))))
    tSNil) tSNil)
    (tSCons (tSetIx 5 (tvar 7) (vT (tBin .fdiv (vT (tIx (tvar 5) (tvar 7))) (vT (tcon (.int 2147483587))))))
    tSNil))))
    (tSCons (tRetO [] 4)
    tSNil))) tSNil)
    (tSCons (tFor [] (.one 6) (tRng1 (tvar 2)) (tSCons (tAsgV 8 (vT (tBin .add (vT (tBin .mul (vT (tBin .mul (vT (tBin .add (tvar 6) (tvar 1))) (vT (tBin .add (tvar 6) (tvar 1))))) (vT (tcon (.int 7919))))) (vT (tcon (.int 104729))))))
    (tSCons (tAsgV 9 (vT (tBin .mod (vT (tBin .mul (vT (tBin .add (vT (tBin .mod (vT (tIx (tvar 3) (vT (tBin .mod (tvar 6) (vT (tBlt .len (tACons (tvar 3) tANil))))))) (vT (tcon (.int 2147483647))))) (tvar 8))) (vT (tcon (.int 48271))))) (vT (tcon (.int 2147483647))))))
    (tSCons (tAsgV 9 (vT (tBin .mod (vT (tBin .add (vT (tBin .mul (tvar 9) (tvar 9))) (vT (tBin .mul (vT (tcon (.int 69621))) (tvar 6))))) (vT (tcon (.int 2147483629))))))
    (tSCons (tExp (vT (tApp 4 (vT (tBin .mod (vT (tBin .mul (tvar 9) (tvar 9))) (vT (tcon (.int 2147483587))))))))
    tSNil)))))
    (tSCons (tRetO [] 4)
    tSNil)))))
theorem sz_le {n : Nat} (h : n ≤ 1000000) : n ≤ sizeLine := Nat.le_trans h (by decide)
theorem sz_lt {n : Nat} (h : n ≤ 1000000) : n < sizeLine := Nat.lt_of_le_of_lt h (by decide)
theorem cutS63 {ns : List Int} (h : ns.length ≤ 63) : cutD (ns.map PyData.int) none (some 63) = ns.map PyData.int := by
  rw [show (63 : Int) = ((63 : Nat) : Int) from rfl, cut_to, List.take_of_length_le (by simpa using h)]
theorem div_ok {i j : Int} (h : 0 < j ∧ j < 2 ^ 64) : CDivW i j := wide_div h.1 (b := 64) (by omega) (by decide) (by decide)
theorem mul_r {i j : Int} (h : -(2 ^ 64) < j ∧ j < 2 ^ 64) : MulOk i j := .inl (.inr h)
theorem mul_l {i j : Int} (h : -(2 ^ 64) < i ∧ i < 2 ^ 64) : MulOk i j := .inl (.inl h)
theorem mod64 (i : Int) {j : Int} (h : 0 < j) (h2 : j < 2 ^ 64) : -(2 ^ 64) < i % j ∧ i % j < 2 ^ 64 := by
  have h0 := Int.emod_nonneg i (show j ≠ 0 by omega)
  have h1 := Int.emod_lt_of_pos i h
  omega
theorem snoc_ints {fs : List Int} {x : Int} : fs.map PyData.int ++ [PyData.int x] = (fs ++ [x]).map PyData.int := by simp
theorem Drawn.snoc {fs : List Int} (h : Drawn fs) (x : Int) : Drawn (fs ++ [x % 2147483587]) := fun d hd => by
  rcases List.mem_append.mp hd with q | q
  · exact h d q
  · rw [List.mem_singleton.mp q]
    exact ⟨Int.emod_nonneg _ (by decide), Int.emod_lt_of_pos _ (by decide)⟩
theorem set_ints {cs : List Int} {j : Nat} {x : Int} : (cs.map PyData.int).set j (.int x) = (cs.set j x).map PyData.int := List.map_set.symm
theorem ixN_at {n : Nat} {k : Int} (h0 : 0 ≤ k) (h : k < n) : ixN n k = some k.toNat := by
  unfold ixN
  rw [if_pos h0, if_pos h]
theorem plain__law_draws : Plain f__law_draws 11 t__law_draws := by
  rintro xs ρ ⟨ns, t, m, rfl, hl, ht, hm⟩ hi
  cases hi
  refine ⟨sz_le (by simp), rfl, rfl, ?_, ?_⟩
  · rw [cutS63 hl]
    exact sz_le (by simp; omega)
  rw [cutS63 hl, show ns.map PyData.int ++ [PyData.int t] = (ns ++ [(t : Int)]).map PyData.int by simp]
  refine ⟨sz_le (by simp), ?_⟩
  generalize hcs : ns ++ [(t : Int)] = cs
  have hcl : cs.length = ns.length + 1 := by rw [← hcs]; simp
  obtain ⟨c0, hc0, _⟩ := map_at (cs := cs) (k := 0) (by decide) (by omega)
  show tSCons _ _ [.ro false (ns.map PyData.int), .v (.int t), .v (.int m), .v (.list (cs.map PyData.int)), .own [], .no, .no, .no, .no, .no, .no] _ _
  have fin : ∀ ds : List Int, ds.length = m → Drawn ds → ∃ yss, f__law_draws.post [PyData.list (List.map PyData.int ns), PyData.int t, PyData.int m] (.list (ds.map PyData.int)) yss ∧ outs ([] : R) (ownFrom f__law_draws.modes 0) yss := fun ds h1 h2 => by
    refine ⟨[], fun m' e => ?_, .nil⟩
    have e : some (PyData.int m) = some (PyData.int m') := e
    cases e
    exact ⟨ds, rfl, h1, h2, rfl⟩
  refine ⟨_, hc0, div_ok ⟨by decide, by decide⟩, by decide, rfl, fun hb => ?_, fun hb => ?_⟩
  · refine ⟨rfl, rfl, ?_⟩
    refine lc_map (fun c : Int => [PyData.int c]) (fun c => PyData.int (c / 100000)) cs (by simp) guard_nil (fun a ha => ⟨_, rfl, rfl, fun K k => ⟨div_ok ⟨by decide, by decide⟩, k⟩⟩) (sz_le (by omega)) ?_
    refine ⟨by omega, by omega, rfl, ?_⟩
    rw [show ((t : Int) + (m : Int)) = ((t + m : Nat) : Int) by simp]
    refine for_rng0 (fun k ρ => ∃ (ls fs : List Int) (s6 s7 : Sl), ls.length = cs.length ∧ fs.length = k - t ∧ Drawn fs ∧ ρ = [.ro false (ns.map PyData.int), .v (.int t), .v (.int m), .v (.list (cs.map PyData.int)), .own (fs.map PyData.int), .own (ls.map PyData.int), s6, s7, .no, .no, .no]) ⟨cs.map fun c => c / 100000, [], .no, .no, by simp, by simp, fun _ h => absurd h (by simp), ?_⟩ (fun _ _ _ => guard_nil) (fun k ρ K hk hI hK => ?_) (fun ρ hI => ?_)
    · simp [List.set, backR, wipeR, Tg.ix]
    · obtain ⟨ls, fs, s6, s7, h1, h2, h3, rfl⟩ := hI
      have hcl' : (0 : Int) < ((ls.map PyData.int).length : Int) := by rw [List.length_map]; omega
      have hm0 : 0 ≤ (k : Int) % ((ls.map PyData.int).length : Int) := Int.emod_nonneg _ (by omega)
      have hm1 : (k : Int) % ((ls.map PyData.int).length : Int) < (ls.length : Int) := by
        have := Int.emod_lt_of_pos (k : Int) hcl'
        rw [List.length_map] at this ⊢
        exact this
      obtain ⟨c, hc, _⟩ := map_at (cs := ls) hm0 hm1
      have hix : ixN (ls.map PyData.int).length ((k : Int) % ((ls.map PyData.int).length : Int)) = some ((k : Int) % ((ls.map PyData.int).length : Int)).toNat := ixN_at hm0 (Int.emod_lt_of_pos _ hcl')
      refine ⟨_, rfl, hcl', fun hb => ?_, fun hb => ?_⟩
      · have hb : t ≤ k := by simpa using hb
        refine ⟨⟨_, rfl⟩, _, hc, by decide, sz_lt (by simp; omega), _, hc, div_ok ⟨by decide, by decide⟩, ⟨_, rfl⟩, _, hix, ?_⟩
        refine hK _ ⟨ls.set ((k : Int) % ((ls.map PyData.int).length : Int)).toNat (c / 2147483587), fs ++ [c % 2147483587], .v (.int (k : Nat)), .v (.int ((k : Int) % ((ls.map PyData.int).length : Int))), by simp [h1], by simp [h2]; omega, fun d hd => ?_, ?_⟩
        · rcases List.mem_append.mp hd with q | q
          · exact h3 d q
          · have e : d = c % 2147483587 := by simpa using q
            rw [e]
            exact ⟨Int.emod_nonneg _ (by decide), Int.emod_lt_of_pos _ (by decide)⟩
        · rw [← set_ints, List.map_append]
          rfl
      · have hb : k < t := by simpa using hb
        refine ⟨_, hc, div_ok ⟨by decide, by decide⟩, ⟨_, rfl⟩, _, hix, ?_⟩
        refine hK _ ⟨ls.set ((k : Int) % ((ls.map PyData.int).length : Int)).toNat (c / 2147483587), fs, .v (.int (k : Nat)), .v (.int ((k : Int) % ((ls.map PyData.int).length : Int))), by simp [h1], by omega, h3, ?_⟩
        rw [← set_ints]
        rfl
    · obtain ⟨ls, fs, s6, s7, h1, h2, h3, rfl⟩ := hI
      refine ⟨rfl, ?_⟩
      obtain ⟨yss, a, b⟩ := fin fs (by omega) h3
      cases b
      exact ⟨[], a, .nil⟩
  · refine ⟨by omega, by omega, rfl, ?_⟩
    refine for_rng0 (fun k ρ => ∃ (fs : List Int) (s6 s8 s9 : Sl), fs.length = k ∧ Drawn fs ∧ ρ = [.ro false (ns.map PyData.int), .v (.int t), .v (.int m), .v (.list (cs.map PyData.int)), .own (fs.map PyData.int), .no, s6, .no, s8, s9, .no]) ⟨[], .no, .no, .no, by simp, fun _ h => absurd h (by simp), rfl⟩ (fun _ _ _ => guard_nil) (fun k ρ K hk hI hK => ?_) (fun ρ hI => ?_)
    · obtain ⟨fs, s6, s8, s9, h2, h3, rfl⟩ := hI
      have hcl' : (0 : Int) < ((cs.map PyData.int).length : Int) := by rw [List.length_map]; omega
      have hm0 : 0 ≤ (k : Int) % ((cs.map PyData.int).length : Int) := Int.emod_nonneg _ (by omega)
      have hm1 : (k : Int) % ((cs.map PyData.int).length : Int) < (cs.length : Int) := by
        have := Int.emod_lt_of_pos (k : Int) hcl'
        rw [List.length_map] at this ⊢
        exact this
      obtain ⟨c, hc, _⟩ := map_at (cs := cs) hm0 hm1
      refine ⟨_, rfl, mul_l ⟨by omega, by omega⟩, mul_r ⟨by decide, by decide⟩, hcl', _, hc, by decide, mul_r ⟨by decide, by decide⟩, by decide, mul_l (mod64 _ (by decide) (by decide)), mul_l ⟨by decide, by decide⟩, by decide, ⟨_, rfl⟩, mul_l (mod64 _ (by decide) (by decide)), by decide, sz_lt (by simp; omega), ?_⟩
      show K [_, _, _, _, .own (fs.map PyData.int ++ [PyData.int (_ % 2147483587)]), _, _, _, _, _, _]
      rw [snoc_ints]
      refine hK _ ⟨_, _, _, _, by simp [h2], h3.snoc _, rfl⟩
    · obtain ⟨fs, s6, s8, s9, h2, h3, rfl⟩ := hI
      refine ⟨rfl, ?_⟩
      obtain ⟨yss, a, b⟩ := fin fs h2 h3
      cases b
      exact ⟨[], a, .nil⟩
/-! ### pop, size -/
def f__law_pop : FSpec := ⟨"_law_pop", [.own], false, fun xs => ∃ ds : List Int, xs = [.list (ds.map PyData.int)] ∧ Drawn ds, fun _ r yss => ∃ (d : Nat) (ds : List Int), r = .int d ∧ d < 2147483587 ∧ Drawn ds ∧ yss = [ds.map PyData.int]⟩
/-! _law_pop: 0 _law_draws_here -/
def t__law_pop : VS := (tSCons (tIf (cOf (vT (tCmp .eq (tvar 0) (vT (tLstD tANil))))) (tSCons (tRetV (vT (tcon (.int 0))))
    tSNil) tSNil)
    (tSCons (tRetV (vT (tPop 0)))
    tSNil))
theorem plain__law_pop : Plain f__law_pop 1 t__law_pop := by
  rintro xs ρ ⟨ds, rfl, hd⟩ hi
  cases hi
  refine ⟨by decide, eqOk_list okD_ints (fun _ z => absurd z (by simp)), fun hb => ?_, fun hb => ?_⟩
  · exact ⟨_, ⟨0, ds, rfl, by decide, hd, rfl⟩, .cons rfl .nil⟩
  · have hn : ds ≠ [] := fun z => by
      rw [z] at hb
      cases hb
    obtain ⟨d, h1, h2⟩ : ∃ d, (ds.map PyData.int)[(ds.map PyData.int).length - 1]? = some (.int d) ∧ d ∈ ds := by
      refine ⟨ds.getLast hn, ?_, List.getLast_mem hn⟩
      rw [List.length_map, List.getElem?_map, ← List.getLast?_eq_getElem?, List.getLast?_eq_some_getLast hn]
      rfl
    refine ⟨_, h1, ?_⟩
    have h3 := hd d h2
    refine ⟨_, ⟨d.toNat, ds.dropLast, ?_, by omega, fun x hx => hd x (List.dropLast_subset _ hx), rfl⟩, .cons ?_ .nil⟩
    · rw [Int.toNat_of_nonneg h3.1]
    · rw [← List.map_dropLast]
      rfl
def f__law_size : FSpec := ⟨"_law_size", [.own], false, fun xs => ∃ ds : List Int, xs = [.list (ds.map PyData.int)] ∧ Drawn ds, fun _ r yss => ∃ (q n : Nat) (ds : List Int), r = .tuple [.int q, .int n] ∧ szOk q n ∧ 1 ≤ n ∧ Drawn ds ∧ yss = [ds.map PyData.int]⟩
/-! _law_size: 0 _law_draws_here, 1 _law_number, 2 _law_q -/
def t__law_size : VS := (tSCons (tAsgV 1 (vT (tCallF f__law_pop (tACons (tvar 0) tANil))))
    (tSCons (tAsgV 2 (vT (tBin .add (vT (tcon (.int 2))) (vT (tBin .mod (tvar 1) (vT (tcon (.int 2))))))))
    (tSCons (tRetV (vT (tTupD (tACons (tvar 2) (tACons (vT (tBin .add (vT (tcon (.int 1))) (vT (tBin .mod (vT (tBin .fdiv (tvar 1) (vT (tcon (.int 2))))) (vT (tIx (vT (tLstD (tACons (vT (tcon (.int 8))) (tACons (vT (tcon (.int 5))) tANil)))) (vT (tBin .sub (tvar 2) (vT (tcon (.int 2))))))))))) tANil)))))
    tSNil)))
theorem plain__law_size : Plain f__law_size 3 t__law_size := by
  rintro xs ρ ⟨ds, rfl, hd⟩ hi
  cases hi
  refine ⟨rfl, ⟨ds, rfl, hd⟩, ?_⟩
  rintro r yss ⟨d, ds', rfl, hd, hds, rfl⟩
  have hq : (d : Int) % 2 = 0 ∨ (d : Int) % 2 = 1 := by omega
  refine ⟨by decide, ?_⟩
  rcases hq with h | h
  · rw [h]
    refine ⟨div_ok ⟨by decide, by decide⟩, by decide, .int 8, rfl, by decide, sz_le (by simp), _, ⟨2, ((1 + (d : Int) / 2 % 8)).toNat, ds', ?_, .inl ⟨rfl, by omega⟩, by omega, hds, rfl⟩, .cons rfl .nil⟩
    rw [Int.toNat_of_nonneg (by omega)]
    rfl
  · rw [h]
    refine ⟨div_ok ⟨by decide, by decide⟩, by decide, .int 5, rfl, by decide, sz_le (by simp), _, ⟨3, ((1 + (d : Int) / 2 % 5)).toNat, ds', ?_, .inr ⟨rfl, by omega⟩, by omega, hds, rfl⟩, .cons rfl .nil⟩
    rw [Int.toNat_of_nonneg (by omega)]
    rfl
end WA

/-! WP2: distance, weight. -/
namespace WA
open PySem PySem.Spec PyProof.Rows L2
/-- at how many places two words differ -/
def ham : List Nat → List Nat → Nat
  | a :: as, b :: bs => (if a = b then 0 else 1) + ham as bs
  | _, _ => 0
def wt (w : List Nat) : Nat := (w.filter fun s => decide (s ≠ 0)).length
theorem ham_comm : ∀ a b : List Nat, ham a b = ham b a
  | [], [] => rfl
  | [], _ :: _ => rfl
  | _ :: _, [] => rfl
  | a :: as, b :: bs => by
    show (if a = b then 0 else 1) + ham as bs = (if b = a then 0 else 1) + ham bs as
    rw [ham_comm as bs]
    by_cases e : a = b
    · rw [if_pos e, if_pos e.symm]
    · rw [if_neg e, if_neg fun z => e z.symm]
theorem ham_le : ∀ a b : List Nat, ham a b ≤ a.length
  | [], _ => Nat.zero_le _
  | _ :: _, [] => Nat.zero_le _
  | a :: as, b :: bs => by
    show (if a = b then 0 else 1) + ham as bs ≤ as.length + 1
    have := ham_le as bs
    split <;> omega
theorem ham_self : ∀ a : List Nat, ham a a = 0
  | [] => rfl
  | a :: as => by
    show (if a = a then 0 else 1) + ham as as = 0
    rw [ham_self as, if_pos rfl]
theorem ham_zero : ∀ a : List Nat, ham a (List.replicate a.length 0) = wt a
  | [] => rfl
  | a :: as => by
    show (if a = 0 then 0 else 1) + ham as (List.replicate as.length 0) = _
    rw [ham_zero as]
    unfold wt
    by_cases e : a = 0
    · rw [if_pos e, List.filter_cons_of_neg (by simp [e])]
      omega
    · rw [if_neg e, List.filter_cons_of_pos (by simp [e])]
      simp only [List.length_cons]
      omega
theorem ham_count : ∀ a b : List Nat, a.length = b.length → ((List.range a.length).filter fun k => decide (a[k]? ≠ b[k]?)).length = ham a b
  | [], _, _ => rfl
  | a :: as, b :: bs, h => by
    have h' : as.length = bs.length := by simpa using h
    rw [List.length_cons, List.range_succ_eq_map, List.filter_cons, List.filter_map]
    have e : ((fun k => decide ((a :: as)[k]? ≠ (b :: bs)[k]?)) ∘ Nat.succ) = fun k => decide (as[k]? ≠ bs[k]?) := by
      funext k
      simp
    rw [e]
    have ih := ham_count as bs h'
    by_cases q : a = b
    · subst q
      simp only [List.getElem?_cons_zero, ne_eq, not_true_eq_false, decide_false, Bool.false_eq_true, if_false, List.length_map]
      rw [ih]
      show _ = (if a = a then 0 else 1) + ham as bs
      rw [if_pos rfl]
      omega
    · have : decide ((a :: as)[0]? ≠ (b :: bs)[0]?) = true := by simp [q]
      rw [if_pos this]
      simp only [List.length_cons, List.length_map]
      rw [ih]
      show _ = (if a = b then 0 else 1) + ham as bs
      rw [if_neg q]
      omega
/-! ### signs of a word -/
theorem at_wd {w : List Nat} {k : Nat} (h : k < w.length) : atI (wd w).cps.toList (k : Int) = some (w[k] + 48) := by
  refine atI_nat ?_
  rw [wd_cps, List.getElem?_map, List.getElem?_eq_getElem h]
  rfl
theorem its_wd (w : List Nat) : ((wd w).cps.toList.map fun c => [PyData.str ⟨#[c]⟩]) = w.map fun s => [sw [s]] := by
  rw [wd_cps, List.map_map]
  rfl
theorem wd_small {w : List Nat} (h : w.length ≤ 1000) : (wd w).length ≤ sizeLine := by
  rw [wd_len]
  exact Nat.le_trans h sl1000
/-- distance of two words -/
def farS (nm : Str) : FSpec := ⟨nm, [.val, .val], false, fun xs => ∃ a b : List Nat, xs = [sw a, sw b] ∧ a.length = b.length ∧ a.length ≤ 1000, fun xs r yss => ∀ a b : List Nat, xs = [sw a, sw b] → r = .int (ham a b) ∧ yss = []⟩
def f_distance : FSpec := farS "distance"
/-! distance: 0 one, 1 other, 2 k -/
def t_distance : VS := (tSCons (tRetV (vT (tBlt .len (tACons (vT (tLcV (.one 2) (tRng1 (vT (tBlt .len (tACons (tvar 0) tANil)))) (cOf (vT (tCmp .ne (vT (tIx (tvar 0) (tvar 2))) (vT (tIx (tvar 1) (tvar 2)))))) (tvar 2))) tANil))))
    tSNil)
theorem plain_far (nm : Str) : Plain (farS nm) 3 t_distance := by
  rintro xs ρ ⟨a, b, rfl, hl, hs⟩ hi
  cases hi
  refine ⟨wd_small hs, by rw [wd_len]; omega, by rw [wd_len]; omega, rfl, rfl, ?_⟩
  rw [wd_len]
  refine lc_go (fun i : Nat => [PyData.int (i : Nat)]) (fun k => decide (a[k]? ≠ b[k]?)) (fun i => .int (i : Nat)) guard_nil (List.range a.length) (rng0 _) (fun k hk => ?_) (by have := sl1000; simp; omega) ?_
  · have hk := List.mem_range.mp hk
    refine ⟨_, rfl, rfl, fun K k2 => ?_, fun _ K k2 => k2⟩
    refine ⟨_, at_wd hk, wd_small hs, _, at_wd (w := b) (by omega), wd_small (by omega), rfl, ?_⟩
    have e : (!PyData.eqv (sw [a[k]]) (sw [b[k]])) = decide (a[k]? ≠ b[k]?) := by
      rw [eqv_sw, List.getElem?_eq_getElem hk, List.getElem?_eq_getElem (by omega : k < b.length)]
      by_cases z : a[k] = b[k]
      · simp [z]
      · simp [z]
    rw [← e] at k2
    exact k2
  · refine ⟨[], fun a' b' e => ?_, .nil⟩
    obtain ⟨e1, e2⟩ : sw a = sw a' ∧ sw b = sw b' := by simpa using e
    cases sw_inj e1
    cases sw_inj e2
    refine ⟨?_, rfl⟩
    show PyData.int _ = _
    rw [List.nil_append, List.length_map, ham_count a b hl]
theorem plain_distance : Plain f_distance 3 t_distance := plain_far _
def f_weight : FSpec := ⟨"weight", [.val], false, fun xs => ∃ a : List Nat, xs = [sw a] ∧ a.length ≤ 1000, fun xs r yss => ∀ a : List Nat, xs = [sw a] → r = .int (wt a) ∧ yss = []⟩
/-! weight: 0 word, 1 sign -/
def t_weight : VS := (tSCons (tRetV (vT (tBlt .len (tACons (vT (tLcV (.one 1) (tItS (tvar 0)) (cOf (vT (tCmp .ne (tvar 1) (vT (tcon (.str "0")))))) (tvar 1))) tANil))))
    tSNil)
theorem plain_weight : Plain f_weight 2 t_weight := by
  rintro xs ρ ⟨a, rfl, hs⟩ hi
  cases hi
  refine ⟨rfl, rfl, ?_⟩
  refine lc_go (fun s => [sw [s]]) (fun s => decide (s ≠ 0)) (fun s => sw [s]) guard_nil a (its_wd a) (fun s hs => ?_) (by have := sl1000; simp; omega) ?_
  · refine ⟨_, rfl, rfl, fun K k2 => ⟨rfl, ?_⟩, fun _ K k2 => k2⟩
    have e : (!PyData.eqv (sw [s]) (.str ("0" : Str))) = decide (s ≠ 0) := by
      rw [show (PyData.str ("0" : Str)) = sw [0] by rfl, eqv_sw]
      by_cases z : s = 0
      · simp [z]
      · simp [z]
    rw [← e] at k2
    exact k2
  · refine ⟨[], fun a' e => ?_, .nil⟩
    have e1 : sw a = sw a' := by simpa using e
    cases sw_inj e1
    refine ⟨?_, rfl⟩
    show PyData.int _ = _
    rw [List.nil_append, List.length_map]
    rfl
end WA

/-! WL2: words that the laws draw; far, whole. -/
namespace WA
open PySem PySem.Spec PyProof.Rows L2
/-- a word of so many signs -/
def Wd (q n : Nat) (w : List Nat) : Prop := w.length = n ∧ Sg q w
theorem Sg.app {q : Nat} {a b : List Nat} (h : Sg q a) (h' : Sg q b) : Sg q (a ++ b) := fun s hs => by
  rcases List.mem_append.mp hs with z | z
  · exact h s z
  · exact h' s z
theorem Sg.one {q s : Nat} (h : s < q) : Sg q [s] := fun z hz => by
  rw [List.mem_singleton.mp hz]
  exact h
theorem Sg.take {q : Nat} {a : List Nat} (h : Sg q a) (k : Nat) : Sg q (a.take k) := fun s hs => h s (List.take_subset _ _ hs)
theorem Sg.drop {q : Nat} {a : List Nat} (h : Sg q a) (k : Nat) : Sg q (a.drop k) := fun s hs => h s (List.drop_subset _ _ hs)
def f__law_word : FSpec := ⟨"_law_word", [.val, .val, .val], false, fun xs => ∃ d q n : Nat, xs = [.int d, .int q, .int n] ∧ 2 ≤ q ∧ q ≤ 3 ∧ n ≤ 100, fun xs r yss => ∀ q n : Nat, xs[1]? = some (.int q) → xs[2]? = some (.int n) → ∃ w, r = sw w ∧ Wd q n w ∧ yss = []⟩
/-! _law_word: 0 _law_number, 1 _law_q, 2 _law_n, 3 _law_word_here, 4 _law_k -/
def t__law_word : VS := (tSCons (tAsgV 3 (vT (tcon (.str ""))))
    (tSCons (tFor [] (.one 4) (tRng1 (tvar 2)) (tSCons (tAsgV 3 (vT (tBin .add (tvar 3) (vT (tBlt .str (tACons (vT (tBin .mod (tvar 0) (tvar 1))) tANil))))))
    (tSCons (tAsgV 0 (vT (tBin .fdiv (tvar 0) (tvar 1))))
    tSNil)))
    (tSCons (tRetV (tvar 3))
    tSNil)))
theorem nat_mod (a b : Nat) : ((a : Nat) : Int) % (b : Nat) = ((a % b : Nat) : Int) := rfl
theorem nat_div (a b : Nat) : ((a : Nat) : Int) / (b : Nat) = ((a / b : Nat) : Int) := rfl
theorem plain__law_word : Plain f__law_word 5 t__law_word := by
  rintro xs ρ ⟨d, q, n, rfl, hq2, hq3, hn⟩ hi
  cases hi
  refine ⟨by omega, by omega, rfl, ?_⟩
  refine for_rng0 (fun k ρ => ∃ (e : Nat) (w : List Nat) (s4 : Sl), w.length = k ∧ Sg q w ∧ ρ = [.v (.int e), .v (.int q), .v (.int n), .v (sw w), s4]) ⟨d, [], .no, rfl, fun _ h => absurd h (by simp), ?_⟩ (fun _ _ _ => guard_nil) (fun k ρ K hk hI hK => ?_) (fun ρ hI => ?_)
  · show _ = [_, _, _, Sl.v (.str (wd [])), _]
    rw [wd_nil]
    rfl
  · obtain ⟨e, w, s4, h1, h2, rfl⟩ := hI
    have hm : e % q < q := Nat.mod_lt _ (by omega)
    refine ⟨_, rfl, by omega, ?_⟩
    show _ < 1920 ∧ _ ≤ sizeLine ∧ _
    rw [nat_mod, sign_str (by omega)]
    refine ⟨sign_log (by omega), wd_fit (by simp only [List.length_singleton]; omega), div_ok ⟨by omega, by omega⟩, ?_⟩
    rw [wd_app]
    exact hK _ ⟨e / q, w ++ [e % q], _, by simp [h1], h2.app (.one hm), rfl⟩
  · obtain ⟨e, w, s4, h1, h2, rfl⟩ := hI
    refine ⟨[], fun q' n' e1 e2 => ?_, .nil⟩
    have e1 : some (PyData.int q) = some (PyData.int q') := e1
    have e2 : some (PyData.int n) = some (PyData.int n') := e2
    cases e1
    cases e2
    exact ⟨w, rfl, ⟨h1, h2⟩, rfl⟩
def f__law_far : FSpec := farS "_law_far"
/-! _law_far: 0 _law_one, 1 _law_other, 2 _law_k -/
def t__law_far : VS := (tSCons (tRetV (vT (tBlt .len (tACons (vT (tLcV (.one 2) (tRng1 (vT (tBlt .len (tACons (tvar 0) tANil)))) (cOf (vT (tCmp .ne (vT (tIx (tvar 0) (tvar 2))) (vT (tIx (tvar 1) (tvar 2)))))) (tvar 2))) tANil))))
    tSNil)
theorem plain__law_far : Plain f__law_far 3 t__law_far := plain_far _
def f__law_whole : FSpec := ⟨"_law_whole", [.val], false, fun xs => ∃ i : Int, xs = [.int i], fun _ r yss => r = .bool true ∧ yss = []⟩
/-! _law_whole: 0 _law_found -/
def t__law_whole : VS := (tSCons (tRetV (tAnd2 (vT (tIsi .int (tvar 0))) (vT (tNt (vT (tIsi .bool (tvar 0)))))))
    tSNil)
theorem plain__law_whole : Plain f__law_whole 1 t__law_whole := by
  rintro xs ρ ⟨i, rfl⟩ hi
  cases hi
  exact ⟨rfl, fun _ => ⟨rfl, [], ⟨rfl, rfl⟩, .nil⟩, fun h => by cases h⟩
/-! ### texts cut and taken so many times -/
theorem cutS_to (w : List Nat) (k : Nat) : cutS (wd w) none (some (k : Int)) = wd (w.take k) := by
  unfold cutS
  rw [HT.sIx_none, HT.sIx_nat, wd_cps, wd_len]
  simp only [List.drop_zero, Nat.sub_zero]
  unfold wd
  rw [← List.map_take]
  congr 3
  rw [List.take_eq_take_iff]
  omega
theorem cutS_from (w : List Nat) (k : Nat) : cutS (wd w) (some (k : Int)) none = wd (w.drop k) := by
  unfold cutS
  rw [HT.sIx_none, HT.sIx_nat, wd_cps, wd_len]
  unfold wd
  rw [← List.map_drop, ← List.map_take]
  congr 2
  rcases Nat.le_total k w.length with h | h
  · rw [Nat.min_eq_left h, List.take_of_length_le (by rw [List.length_drop]; exact Nat.le_refl _)]
  · rw [Nat.min_eq_right h, List.drop_eq_nil_of_le h, List.drop_length, List.take_nil]
theorem mul_ok {s : Nat} {n : Nat} (h : n ≤ 1000) : PySem.MulOk (wd [s]) (n : Int) := by
  refine ⟨?_, fun h1 _ => ?_, fun h1 _ => ?_⟩
  · rw [decide_eq_false (by omega), decide_eq_false (by omega)]
    rfl
  · rw [wd_len]
    have : (2 ^ 63 - 1 : Int) / (n : Int) ≥ 1 := by
      rw [ge_iff_le, Int.le_ediv_iff_mul_le (by omega)]
      omega
    simp only [List.length_singleton]
    omega
  · rw [wd_len]
    unfold Builtin.Str.tooLong
    have := sl1000
    simp only [List.length_singleton, Int.toNat_natCast, decide_eq_false_iff_not]
    omega
theorem mul_wd (s n : Nat) : Txt.mul (wd [s]) (n : Int) = wd (List.replicate n s) := by
  unfold Txt.mul
  by_cases h1 : (n : Int) < 1
  · rw [if_pos h1]
    have : n = 0 := by omega
    subst this
    rfl
  · rw [if_neg h1]
    by_cases h2 : n = 1
    · subst h2
      rfl
    · have : ((n : Int) == 1 || (wd [s]).length == 0) = false := by
        rw [wd_len]
        simp
        omega
      rw [this, if_neg Bool.false_ne_true, Int.toNat_natCast]
      have go : ∀ (m : Nat) (acc : Array Nat), (List.replicate m (wd [s]).cps).foldl (· ++ ·) acc = acc ++ ((List.replicate m s).map (· + 48)).toArray := by
        intro m
        induction m with
        | zero => intro acc; simp
        | succ m ih =>
          intro acc
          rw [List.replicate_succ, List.foldl_cons, ih, List.replicate_succ, List.map_cons]
          apply Array.ext'
          simp [wd]
      rw [go]
      unfold wd
      simp
end WA

/-! WP3: apart, keeps. -/
namespace WA
open PySem PySem.Spec PyProof.Rows L2
/-! ### all words, by what is in -/
theorem mem_allL {q : Nat} : ∀ {n : Nat} {w : List Nat}, w ∈ allL q n ↔ Wd q n w
  | 0, w => by
    constructor
    · intro h
      exact ⟨allL_wlen q 0 w h, allL_sg q 0 w h⟩
    · rintro ⟨h, _⟩
      have : w = [] := List.length_eq_zero_iff.mp h
      subst this
      simp [allL]
  | n + 1, w => by
    constructor
    · intro h
      exact ⟨allL_wlen q _ w h, allL_sg q _ w h⟩
    · rintro ⟨h, g⟩
      have hne : w ≠ [] := fun z => by rw [z] at h; simp at h
      have e := List.dropLast_concat_getLast hne
      unfold allL
      refine List.mem_flatMap.mpr ⟨w.dropLast, mem_allL.mpr ⟨by rw [List.length_dropLast, h]; rfl, fun s hs => g s (List.dropLast_subset _ hs)⟩, List.mem_map.mpr ⟨w.getLast hne, List.mem_range.mpr (g _ (List.getLast_mem hne)), e⟩⟩
/-! ### gaps -/
def gapsA : List (List Nat) → List (List Nat) → List Nat
  | _, [] => []
  | p, w :: r => p.map (ham w) ++ gapsA (p ++ [w]) r
/-- the distances of all pairs -/
def gapsL (ws : List (List Nat)) : List Nat := gapsA [] ws
theorem gapsA_snoc (w : List Nat) : ∀ (r p : List (List Nat)), gapsA p (r ++ [w]) = gapsA p r ++ (p ++ r).map (ham w)
  | [], p => by simp [gapsA]
  | x :: r, p => by
    show p.map (ham x) ++ gapsA (p ++ [x]) (r ++ [w]) = (p.map (ham x) ++ gapsA (p ++ [x]) r) ++ (p ++ x :: r).map (ham w)
    rw [gapsA_snoc w r (p ++ [x])]
    simp
theorem gapsL_snoc (p : List (List Nat)) (w : List Nat) : gapsL (p ++ [w]) = gapsL p ++ p.map (ham w) := by
  unfold gapsL
  rw [gapsA_snoc]
  simp
theorem mem_gapsA {x : Nat} : ∀ {r p : List (List Nat)}, x ∈ gapsA p r ↔ (∃ a b, a ∈ p ∧ b ∈ r ∧ x = ham b a) ∨ ∃ a b, [a, b].Sublist r ∧ x = ham b a
  | [], p => by simp [gapsA]
  | w :: r, p => by
    show x ∈ p.map (ham w) ++ gapsA (p ++ [w]) r ↔ _
    rw [List.mem_append, mem_gapsA]
    constructor
    · rintro (h | ⟨a, b, ha, hb, e⟩ | ⟨a, b, h, e⟩)
      · obtain ⟨a, ha, e⟩ := List.mem_map.mp h
        exact .inl ⟨a, w, ha, List.mem_cons_self, e.symm⟩
      · rcases List.mem_append.mp ha with z | z
        · exact .inl ⟨a, b, z, List.mem_cons_of_mem _ hb, e⟩
        · have : a = w := by simpa using z
          subst this
          exact .inr ⟨a, b, List.Sublist.cons_cons _ (List.singleton_sublist.mpr hb), e⟩
      · exact .inr ⟨a, b, List.Sublist.cons _ h, e⟩
    · rintro (⟨a, b, ha, hb, e⟩ | ⟨a, b, h, e⟩)
      · rcases List.mem_cons.mp hb with z | z
        · subst z
          exact .inl (List.mem_map.mpr ⟨a, ha, e.symm⟩)
        · exact .inr (.inl ⟨a, b, List.mem_append_left _ ha, z, e⟩)
      · cases h with
        | cons _ h => exact .inr (.inr ⟨a, b, h, e⟩)
        | cons_cons _ h => exact .inr (.inl ⟨_, b, by simp, List.singleton_sublist.mp h, e⟩)
theorem mem_gapsL {x : Nat} {ws : List (List Nat)} : x ∈ gapsL ws ↔ ∃ a b, [a, b].Sublist ws ∧ x = ham b a := by
  unfold gapsL
  rw [mem_gapsA]
  simp
theorem mem_gaps_rev {x : Nat} {ws : List (List Nat)} : x ∈ gapsL ws.reverse ↔ x ∈ gapsL ws := by
  rw [mem_gapsL, mem_gapsL]
  constructor
  · rintro ⟨a, b, h, e⟩
    refine ⟨b, a, ?_, by rw [ham_comm]; exact e⟩
    have := List.reverse_sublist.mpr h
    simpa using this
  · rintro ⟨a, b, h, e⟩
    refine ⟨b, a, ?_, by rw [ham_comm]; exact e⟩
    have := List.reverse_sublist.mpr h
    simpa using this
/-! ### the least -/
def minS : Option Nat → Nat → Option Nat
  | none, x => some x
  | some m, x => some (if x < m then x else m)
def minL (l : List Nat) : Option Nat := l.foldl minS none
theorem minF_spec : ∀ (l : List Nat) (m : Nat), ∃ k, l.foldl minS (some m) = some k ∧ (k = m ∨ k ∈ l) ∧ k ≤ m ∧ ∀ y ∈ l, k ≤ y
  | [], m => ⟨m, rfl, .inl rfl, Nat.le_refl _, fun _ h => absurd h (by simp)⟩
  | x :: l, m => by
    obtain ⟨k, h1, h2, h3, h4⟩ := minF_spec l (if x < m then x else m)
    refine ⟨k, h1, ?_, ?_, fun y hy => ?_⟩
    · rcases h2 with z | z
      · by_cases hx : x < m
        · rw [if_pos hx] at z
          exact .inr (by rw [z]; exact List.mem_cons_self)
        · rw [if_neg hx] at z
          exact .inl z
      · exact .inr (List.mem_cons_of_mem _ z)
    · by_cases hx : x < m
      · rw [if_pos hx] at h3; omega
      · rw [if_neg hx] at h3; exact h3
    · rcases List.mem_cons.mp hy with z | z
      · subst z
        by_cases hx : y < m
        · rw [if_pos hx] at h3; exact h3
        · rw [if_neg hx] at h3; omega
      · exact h4 y z
theorem minL_nil : minL [] = none := rfl
theorem minL_some {l : List Nat} (h : l ≠ []) : ∃ k, minL l = some k ∧ k ∈ l ∧ ∀ y ∈ l, k ≤ y := by
  cases l with
  | nil => exact absurd rfl h
  | cons x l =>
    obtain ⟨k, h1, h2, h3, h4⟩ := minF_spec l x
    refine ⟨k, h1, ?_, fun y hy => ?_⟩
    · rcases h2 with z | z
      · rw [z]; exact List.mem_cons_self
      · exact List.mem_cons_of_mem _ z
    · rcases List.mem_cons.mp hy with z | z
      · rw [z]; exact h3
      · exact h4 y z
theorem minL_eq {l : List Nat} {k : Nat} (h1 : k ∈ l) (h2 : ∀ y ∈ l, k ≤ y) : minL l = some k := by
  obtain ⟨m, e, a, b⟩ := minL_some (l := l) fun z => by rw [z] at h1; simp at h1
  have h3 := h2 m a
  have h4 := b k h1
  rw [e]
  exact congrArg some (by omega)
theorem minL_same {l l' : List Nat} (h : ∀ x, x ∈ l ↔ x ∈ l') : minL l = minL l' := by
  by_cases e : l' = []
  · subst e
    have : l = [] := List.eq_nil_iff_forall_not_mem.mpr fun x hx => by simpa using (h x).mp hx
    rw [this]
  · obtain ⟨k, e1, e2, e3⟩ := minL_some e
    rw [e1]
    exact minL_eq ((h k).mpr e2) fun y hy => e3 y ((h y).mp hy)
def encO : Option Nat → D
  | none => .none
  | some m => .int (m : Nat)
/-- words of one length -/
def Len (n : Nat) (ws : List (List Nat)) : Prop := ∀ w ∈ ws, w.length = n
theorem cut_sws (ws : List (List Nat)) (k : Nat) : cutD (ws.map sw) none (some (k : Int)) = (ws.take k).map sw := by
  rw [cut_to, List.map_take]
theorem sws_inj {a b : List (List Nat)} (h : a.map sw = b.map sw) : a = b := (List.map_inj_right fun _ _ e => sw_inj e).mp h
def f_apart : FSpec := ⟨"apart", [.ro], false, fun xs => ∃ (n : Nat) (ws : List (List Nat)), xs = [.list (ws.map sw)] ∧ Len n ws ∧ n ≤ 1000 ∧ ws.length ≤ 1000000, fun xs r yss => ∀ ws : List (List Nat), xs = [.list (ws.map sw)] → r = encO (minL (gapsL ws)) ∧ yss = []⟩
/-! apart: 0 words, 1 found, 2 k, 3 word, 4 other, 5 far -/
def t_apart : VS := (tSCons (tAsgV 1 (vT (tcon .none)))
    (tSCons (tFor [0] (.two 2 3) (tEnum (tvar 0)) (tSCons (tFor [0] (.one 4) (tIt (vT (tSlL (tvar 0) tONo (tOSo (tvar 2))))) (tSCons (tAsgV 5 (vT (tCallF f_distance (tACons (tvar 3) (tACons (tvar 4) tANil)))))
    (tSCons (tIf (cOf (tOr2 (vT (tCmp .isN (tvar 1) (vT (tcon .none)))) (vT (tCmp .lt (tvar 5) (tvar 1))))) (tSCons (tAsgV 1 (tvar 5))
    tSNil) tSNil)
    tSNil)))
    tSNil))
    (tSCons (tRetV (tvar 1))
    tSNil)))
theorem enum_sws (ws : List (List Nat)) : enumD (ws.map sw) = (List.range ws.length).map fun i => [PyData.int (i : Nat), sw (ws.getD i [])] := by
  unfold enumD
  rw [List.length_map]
  refine List.map_congr_left fun i hi => ?_
  have hi := List.mem_range.mp hi
  rw [List.getD_eq_getElem?_getD, List.getElem?_map, List.getD_eq_getElem?_getD, List.getElem?_eq_getElem hi]
  rfl
theorem take_succ_getD {ws : List (List Nat)} {k : Nat} (h : k < ws.length) : ws.take (k + 1) = ws.take k ++ [ws.getD k []] := by
  rw [List.take_succ_eq_append_getElem h, List.getD_eq_getElem?_getD, List.getElem?_eq_getElem h]
  rfl
theorem getD_mem {ws : List (List Nat)} {k : Nat} (h : k < ws.length) : ws.getD k [] ∈ ws := by
  rw [List.getD_eq_getElem?_getD, List.getElem?_eq_getElem h]
  exact List.getElem_mem h
theorem range_at {n : Nat} {p q : List Nat} {a : Nat} (h : List.range n = p ++ a :: q) : a = p.length ∧ p.length < n := by
  have hl := congrArg List.length h
  simp only [List.length_range, List.length_append, List.length_cons] at hl
  have e2 : (List.range n)[p.length]? = some a := by rw [h]; simp
  rw [List.getElem?_range (by omega)] at e2
  exact ⟨(Option.some.inj e2).symm, by omega⟩
theorem plain_apart : Plain f_apart 6 t_apart := by
  rintro xs ρ ⟨n, ws, rfl, hL, hn, hz⟩ hi
  cases hi
  refine ⟨rfl, ?_⟩
  refine for_all (fun i => [PyData.int (i : Nat), sw (ws.getD i [])]) (List.range ws.length) (fun p ρ => ∃ s2 s3 s4 s5, ρ = [.ro false (ws.map sw), .v (encO (minL (gapsL (ws.take p.length)))), s2, s3, s4, s5]) (enum_sws ws) ⟨_, _, _, _, rfl⟩ (fun p ρ h => ?_) (fun p k r ρ K he hI hK => ?_) (fun ρ hI => ?_)
  · obtain ⟨s2, s3, s4, s5, rfl⟩ := h
    exact guard_one rfl
  · obtain ⟨s2, s3, s4, s5, rfl⟩ := hI
    obtain ⟨rfl, hk⟩ := range_at he
    refine ⟨_, rfl, rfl, ?_⟩
    rw [cut_sws]
    refine for_all (fun w => [sw w]) (ws.take p.length) (fun m ρ => ∃ s4 s5, ρ = [.ro false (ws.map sw), .v (encO (minL (gapsL (ws.take p.length) ++ m.map (ham (ws.getD p.length []))))), .v (.int (p.length : Nat)), .v (sw (ws.getD p.length [])), s4, s5]) (by rw [List.map_map]; rfl) ⟨s4, s5, by simp⟩ (fun _ _ _ => guard_nil) (fun m w r' ρ K' he' hI' hK' => ?_) (fun ρ hI' => ?_)
    · obtain ⟨s4, s5, rfl⟩ := hI'
      have hw : w ∈ ws := List.take_subset p.length ws (by rw [he']; simp)
      have hx := getD_mem hk
      refine ⟨_, rfl, rfl, ⟨_, w, rfl, by rw [hL _ hx, hL _ hw], by rw [hL _ hx]; omega⟩, fun r y h => ?_⟩
      obtain ⟨rfl, rfl⟩ := h _ _ rfl
      have e : minL (gapsL (ws.take p.length) ++ (m ++ [w]).map (ham (ws.getD p.length []))) = minS (minL (gapsL (ws.take p.length) ++ m.map (ham (ws.getD p.length [])))) (ham (ws.getD p.length []) w) := by
        unfold minL
        rw [List.map_append, ← List.append_assoc, List.foldl_append]
        rfl
      rw [e] at hK'
      generalize hx' : ham (ws.getD p.length []) w = x at hK' ⊢
      cases hm : minL (gapsL (ws.take p.length) ++ m.map (ham (ws.getD p.length []))) with
      | none =>
        rw [hm] at hK'
        exact ⟨fun _ => ⟨fun _ => hK' _ ⟨_, _, rfl⟩, fun h => (by cases h)⟩, fun h => (by cases h)⟩
      | some k =>
        rw [hm] at hK'
        by_cases hlt : x < k
        · have e2 : minS (some k) x = some x := by
            show some (if x < k then x else k) = _
            rw [if_pos hlt]
          rw [e2] at hK'
          exact ⟨fun h => (by cases h), fun _ => ⟨fun h => hK' _ ⟨_, _, rfl⟩, fun h => by
            have h : decide (((x : Nat) : Int) < ((k : Nat) : Int)) = false := h
            simp only [decide_eq_false_iff_not] at h
            omega⟩⟩
        · have e2 : minS (some k) x = some k := by
            show some (if x < k then x else k) = _
            rw [if_neg hlt]
          rw [e2] at hK'
          exact ⟨fun h => (by cases h), fun _ => ⟨fun h => by
            have h : decide (((x : Nat) : Int) < ((k : Nat) : Int)) = true := h
            simp only [decide_eq_true_eq] at h
            omega, fun h => hK' _ ⟨_, _, rfl⟩⟩⟩
    · obtain ⟨s4, s5, rfl⟩ := hI'
      rw [List.length_append, List.length_singleton, take_succ_getD hk, gapsL_snoc] at hK
      exact hK _ ⟨_, _, _, _, rfl⟩
  · obtain ⟨s2, s3, s4, s5, rfl⟩ := hI
    refine ⟨[], fun ws' e => ?_, .nil⟩
    have e : ws.map sw = ws'.map sw := by simpa using e
    cases sws_inj e
    rw [List.length_range, List.take_length]
    exact ⟨rfl, rfl⟩
/-- no two nearer -/
def keepsB (ws : List (List Nat)) (d : Int) : Bool := (gapsL ws).all fun x => decide (d ≤ (x : Nat))
theorem keepsB_min (ws : List (List Nat)) (d : Int) : keepsB ws d = match minL (gapsL ws) with
    | none => true
    | some m => decide (d ≤ (m : Nat)) := by
  by_cases e : gapsL ws = []
  · unfold keepsB
    rw [e]
    rfl
  · obtain ⟨k, e1, e2, e3⟩ := minL_some e
    rw [e1]
    unfold keepsB
    by_cases h : d ≤ (k : Nat)
    · show _ = decide (d ≤ (k : Nat))
      rw [decide_eq_true h, List.all_eq_true]
      intro x hx
      have := e3 x hx
      rw [decide_eq_true_eq]
      omega
    · show _ = decide (d ≤ (k : Nat))
      rw [decide_eq_false h, List.all_eq_false]
      exact ⟨k, e2, by simpa using h⟩
def f_keeps : FSpec := ⟨"keeps", [.ro, .val], false, fun xs => ∃ (n : Nat) (ws : List (List Nat)) (d : Int), xs = [.list (ws.map sw), .int d] ∧ Len n ws ∧ n ≤ 1000 ∧ ws.length ≤ 1000000, fun xs r yss => ∀ (ws : List (List Nat)) (d : Int), xs = [.list (ws.map sw), .int d] → r = .bool (keepsB ws d) ∧ yss = []⟩
/-! keeps: 0 words, 1 d, 2 found -/
def t_keeps : VS := (tSCons (tAsgV 2 (vT (tCallF f_apart (tACons (tvar 0) tANil))))
    (tSCons (tRetV (tOr2 (vT (tCmp .isN (tvar 2) (vT (tcon .none)))) (vT (tCmp .ge (tvar 2) (tvar 1)))))
    tSNil))
theorem plain_keeps : Plain f_keeps 3 t_keeps := by
  rintro xs ρ ⟨n, ws, d, rfl, hL, hn, hz⟩ hi
  cases hi
  refine ⟨rfl, ⟨n, ws, rfl, hL, hn, hz⟩, fun r y h => ?_⟩
  obtain ⟨rfl, rfl⟩ := h ws rfl
  have fin : ∀ ρ, ∃ yss, f_keeps.post [PyData.list (ws.map sw), .int d] (.bool (keepsB ws d)) yss ∧ outs ρ (ownFrom f_keeps.modes 0) yss := fun ρ => by
    refine ⟨[], fun ws' d' e => ?_, .nil⟩
    have e1 : ws.map sw = ws'.map sw ∧ d = d' := by simpa using e
    obtain ⟨e2, rfl⟩ := e1
    cases sws_inj e2
    exact ⟨rfl, rfl⟩
  have e := keepsB_min ws d
  cases hm : minL (gapsL ws) with
  | none =>
    rw [hm] at e
    have e : keepsB ws d = true := e
    rw [e] at fin
    exact ⟨fun _ => fin _, fun h => (by cases h)⟩
  | some k =>
    rw [hm] at e
    have e : keepsB ws d = decide (d ≤ (k : Nat)) := e
    rw [e] at fin
    exact ⟨fun h => (by cases h), fun _ => fin _⟩
end WA

/-! WL3: lists that the laws draw. -/
namespace WA
open PySem PySem.Spec PyProof.Rows L2
def f__law_all : FSpec := ⟨"_law_all", [.val, .val], true, fun xs => ∃ q n : Nat, xs = [.int q, .int n] ∧ szOk q n, fun xs r yss => ∀ q n : Nat, xs = [.int q, .int n] → r = .list ((allL q n).map sw) ∧ yss = []⟩
/-! _law_all: 0 _law_q, 1 _law_n, 2 _law_found, 3 _law_k, 4 _law_more, 5 _law_word_here, 6 _law_sign -/
def t__law_all : VS := (tSCons (tAsgO 2 (tLstD (tACons (vT (tcon (.str ""))) tANil)))
    (tSCons (tFor [] (.one 3) (tRng1 (tvar 1)) (tSCons (tAsgO 4 (tLstD tANil))
    (tSCons (tFor [2] (.one 5) (tIt (tvar 2)) (tSCons (tAsgO 4 (tCat (tvar 4) (vT (tLcV (.one 6) (tRng1 (tvar 0)) tYesV (vT (tBin .add (tvar 5) (vT (tBlt .str (tACons (tvar 6) tANil)))))))))
    tSNil))
    (tSCons (tMv true [] 2 4)
    tSNil))))
    (tSCons (tRetO [] 2)
    tSNil)))
theorem plain__law_all : Plain f__law_all 7 t__law_all := by
  rintro xs ρ ⟨q, n, rfl, hs⟩ hi
  cases hi
  have hq := hs.q3
  have hn := hs.n8
  refine ⟨by decide, by omega, by omega, rfl, ?_⟩
  refine for_rng0 (fun k ρ => ∃ s3 s4 s5, ρ = [.v (.int q), .v (.int n), .own ((allL q k).map sw), s3, s4, s5, .no]) ⟨.no, .no, .no, rfl⟩ (fun _ _ _ => guard_nil) (fun k ρ K hk hI hK => ?_) (fun ρ hI => ?_)
  · obtain ⟨s3, s4, s5, rfl⟩ := hI
    have hpow := pow_le (hs.le (m := k + 1) hk)
    refine ⟨_, rfl, by decide, rfl, ?_⟩
    refine for_all (fun w => [sw w]) (allL q k) (fun p ρ => ∃ s5, ρ = [.v (.int q), .v (.int n), .own ((allL q k).map sw), .v (.int (k : Nat)), .own ((p.flatMap fun w => (List.range q).map fun s => w ++ [s]).map sw), s5, .no]) (by simp) ⟨s5, rfl⟩ (fun p ρ h => ?_) (fun p w r ρ K' he hI hK' => ?_) (fun ρ hI => ?_)
    · obtain ⟨s5, rfl⟩ := h
      exact guard_one rfl
    · obtain ⟨s5, rfl⟩ := hI
      have hw : w ∈ allL q k := by rw [he]; simp
      have hwl := allL_wlen q k w hw
      refine ⟨_, rfl, by omega, by omega, rfl, rfl, ?_⟩
      refine lc_map (fun i : Nat => [PyData.int (i : Nat)]) (fun s => sw (w ++ [s])) (List.range q) (rng0 q) guard_nil (fun a ha => ?_) (len_le List.length_range (by omega)) ?_
      · have ha := List.mem_range.mp ha
        refine ⟨_, rfl, rfl, fun K2 k2 => ⟨sign_log (by omega), ?_, ?_⟩⟩
        · rw [sign_str (by omega)]
          exact wd_fit (by simp only [List.length_singleton]; omega)
        · show K2 (.val (.str (wd w ++ ((toString (a : Int) : String) : Str)))) _
          rw [sign_str (by omega), wd_app]
          exact k2
      · refine ⟨rfl, rfl, ?_, hK' _ ⟨.v (sw w), ?_⟩⟩
        · have := pre_len he
          have := sl1000
          simp only [List.length_map, List.length_range]
          omega
        · rw [List.flatMap_append]
          simp [List.set, backR, wipeR, Tg.ix, sw]
    · obtain ⟨s5, rfl⟩ := hI
      exact ⟨rfl, hK _ ⟨_, .no, s5, rfl⟩⟩
  · obtain ⟨s3, s4, s5, rfl⟩ := hI
    refine ⟨rfl, [], fun q' n' e => ?_, .nil⟩
    cases e
    exact ⟨rfl, rfl⟩
/-- words of the length and signs -/
def Wds (q n : Nat) (ws : List (List Nat)) : Prop := ∀ w ∈ ws, Wd q n w
theorem Wds.len {q n : Nat} {ws : List (List Nat)} (h : Wds q n ws) : Len n ws := fun w hw => (h w hw).1
theorem Wds.sg {q n : Nat} {ws : List (List Nat)} (h : Wds q n ws) : ∀ w ∈ ws, Sg q w := fun w hw => (h w hw).2
theorem Wds.snoc {q n : Nat} {ws : List (List Nat)} {w : List Nat} (h : Wds q n ws) (hw : Wd q n w) : Wds q n (ws ++ [w]) := fun x hx => by
  rcases List.mem_append.mp hx with z | z
  · exact h x z
  · rw [List.mem_singleton.mp z]; exact hw
theorem Wds.rev {q n : Nat} {ws : List (List Nat)} (h : Wds q n ws) : Wds q n ws.reverse := fun x hx => h x (List.mem_reverse.mp hx)
theorem Wds.sub {q n : Nat} {ws vs : List (List Nat)} (h : Wds q n ws) (s : ∀ x ∈ vs, x ∈ ws) : Wds q n vs := fun x hx => h x (s x hx)
theorem Wds.all (q n : Nat) : Wds q n (allL q n) := fun w hw => mem_allL.mp hw
theorem snoc_sws {ws : List (List Nat)} {w : List Nat} : ws.map sw ++ [sw w] = (ws ++ [w]).map sw := by simp
theorem its_sws (ws : List (List Nat)) : ((ws.map sw).map fun x => [x]) = ws.map fun w => [sw w] := by
  rw [List.map_map]
  rfl
theorem sg_ok {q : Nat} {ws : List (List Nat)} (hq : q ≤ 3) (h : ∀ w ∈ ws, Sg q w) : ∀ x ∈ ws.map sw, okD x = true := okD_sws (q := q) (by omega) h
def f__law_list : FSpec := ⟨"_law_list", [.own, .val, .val, .val, .val], true,
  fun xs => ∃ (ds : List Int) (q n m : Nat) (far : Int), xs = [.list (ds.map PyData.int), .int q, .int n, .int m, .int far] ∧ Drawn ds ∧ 2 ≤ q ∧ q ≤ 3 ∧ n ≤ 100 ∧ m ≤ 1000,
  fun xs r yss => ∀ (q n m : Nat) (far : Int), xs[1]? = some (.int q) → xs[2]? = some (.int n) → xs[3]? = some (.int m) → xs[4]? = some (.int far) →
    ∃ (ws : List (List Nat)) (ds : List Int), r = .list (ws.map sw) ∧ Wds q n ws ∧ ws.length ≤ m ∧ keepsB ws far = true ∧ Drawn ds ∧ yss = [ds.map PyData.int]⟩
/-! _law_list: 0 _law_draws_here, 1 _law_q, 2 _law_n, 3 _law_most, 4 _law_far_here, 5 _law_found, 6 _law_k, 7 _law_word_here, 8 _law_one -/
def t__law_list : VS := (tSCons (tAsgO 5 (tLstD tANil))
    (tSCons (tFor [0] (.one 6) (tRng1 (vT (tBin .mod (vT (tCallF f__law_pop (tACons (tvar 0) tANil))) (vT (tBin .add (tvar 3) (vT (tcon (.int 1)))))))) (tSCons (tAsgV 7 (vT (tCallF f__law_word (tACons (vT (tCallF f__law_pop (tACons (tvar 0) tANil))) (tACons (tvar 1) (tACons (tvar 2) tANil))))))
    (tSCons (tIf (cOf (vT (tCmp .eq (vT (tLcV (.one 8) (tIt (tvar 5)) (cOf (vT (tCmp .lt (vT (tCallF f__law_far (tACons (tvar 8) (tACons (tvar 7) tANil)))) (tvar 4)))) (tvar 8))) (vT (tLstD tANil))))) (tSCons (tExp (vT (tApp 5 (tvar 7))))
    tSNil) tSNil)
    tSNil)))
    (tSCons (tRetO [0] 5)
    tSNil)))
theorem plain__law_list : Plain f__law_list 9 t__law_list := by
  rintro xs ρ ⟨ds, q, n, m, far, rfl, hd, hq2, hq3, hn, hm⟩ hi
  cases hi
  refine ⟨by decide, rfl, ⟨ds, rfl, hd⟩, fun r yss h => ?_⟩
  obtain ⟨c, ds1, rfl, hc, hd1, rfl⟩ := h
  refine ⟨by omega, ?_⟩
  rw [show ((c : Nat) : Int) % ((m : Nat) + 1 : Int) = ((c % (m + 1) : Nat) : Int) from rfl]
  have hcm : c % (m + 1) < m + 1 := Nat.mod_lt _ (by omega)
  generalize hcc : c % (m + 1) = cc at hcm ⊢
  refine ⟨by omega, by omega, rfl, ?_⟩
  refine for_rng0 (fun k ρ => ∃ (ds : List Int) (ws : List (List Nat)) (s6 s7 : Sl), Drawn ds ∧ Wds q n ws ∧ ws.length ≤ k ∧ keepsB ws far = true ∧ ρ = [.own (ds.map PyData.int), .v (.int q), .v (.int n), .v (.int m), .v (.int far), .own (ws.map sw), s6, s7, .no]) ⟨ds1, [], .no, .no, hd1, fun _ h => absurd h (by simp), Nat.zero_le _, rfl, rfl⟩ (fun _ _ _ => guard_nil) (fun k ρ K hk hI hK => ?_) (fun ρ hI => ?_)
  · obtain ⟨ds, ws, s6, s7, hd, hw, hl, hkp, rfl⟩ := hI
    refine ⟨_, rfl, rfl, ⟨ds, rfl, hd⟩, fun r yss h => ?_⟩
    obtain ⟨d, ds1, rfl, hdd, hd1, rfl⟩ := h
    refine ⟨rfl, ⟨d, q, n, rfl, hq2, hq3, hn⟩, fun r yss h => ?_⟩
    obtain ⟨w, rfl, hww, rfl⟩ := h q n rfl rfl
    refine ⟨rfl, rfl, ?_⟩
    refine lc_go (fun w => [sw w]) (fun o => decide (((ham o w : Nat) : Int) < far)) (fun o => sw o) (guard_one rfl) ws (its_sws ws) (fun o ho => ?_) (sz_le (by simp; omega)) ?_
    · refine ⟨_, rfl, rfl, fun K k => ⟨rfl, ⟨o, w, rfl, by rw [(hw o ho).1, hww.1], by rw [(hw o ho).1]; omega⟩, fun r yss h => ?_⟩, fun _ K k => k⟩
      obtain ⟨rfl, rfl⟩ := h o w rfl
      exact k
    · rw [List.nil_append]
      refine ⟨by decide, eqOk_list (sg_ok hq3 fun x hx => hw.sg x (List.mem_filter.mp hx).1) (fun _ z => absurd z (by simp)), fun hb => ?_, fun hb => ?_⟩
      · refine ⟨⟨_, rfl⟩, sz_lt (by simp; omega), ?_⟩
        show K [_, _, _, _, _, .own (ws.map sw ++ [sw w]), _, _, _]
        rw [snoc_sws]
        refine hK _ ⟨ds1, ws ++ [w], _, _, hd1, hw.snoc hww, by simp; omega, ?_, rfl⟩
        have hf : ws.filter (fun o => decide (((ham o w : Nat) : Int) < far)) = [] := by
          have hb : PyData.eqv (.list ((ws.filter (fun o => decide (((ham o w : Nat) : Int) < far))).map sw)) (.list (([] : List (List Nat)).map sw)) = true := hb
          rw [eqv_sws] at hb
          simpa using hb
        unfold keepsB at hkp ⊢
        rw [gapsL_snoc, List.all_append, hkp, Bool.true_and, List.all_eq_true]
        intro x hx
        obtain ⟨o, ho, rfl⟩ := List.mem_map.mp hx
        have := List.filter_eq_nil_iff.mp hf o ho
        rw [ham_comm w o]
        simp only [decide_eq_true_eq] at this ⊢
        omega
      · exact hK _ ⟨ds1, ws, _, _, hd1, hw, by omega, hkp, rfl⟩
  · obtain ⟨ds, ws, s6, s7, hd, hw, hl, hkp, rfl⟩ := hI
    refine ⟨rfl, _, fun q' n' m' far' e1 e2 e3 e4 => ?_, .cons rfl .nil⟩
    have e1 : some (PyData.int q) = some (PyData.int q') := e1
    have e2 : some (PyData.int n) = some (PyData.int n') := e2
    have e3 : some (PyData.int m) = some (PyData.int m') := e3
    have e4 : some (PyData.int far) = some (PyData.int far') := e4
    cases e1
    cases e2
    cases e3
    cases e4
    exact ⟨ws, ds, rfl, hw, by omega, hkp, hd, rfl⟩
def f__law_many : FSpec := ⟨"_law_many", [.own, .val, .val], true,
  fun xs => ∃ (ds : List Int) (q n : Nat), xs = [.list (ds.map PyData.int), .int q, .int n] ∧ Drawn ds ∧ szOk q n,
  fun xs r yss => ∀ (q n : Nat), xs[1]? = some (.int q) → xs[2]? = some (.int n) → ∃ (ws : List (List Nat)) (ds : List Int), r = .list (ws.map sw) ∧ Wds q n ws ∧ ws.length ≤ 256 ∧ 1 ≤ ws.length ∧ Drawn ds ∧ yss = [ds.map PyData.int]⟩
/-! _law_many: 0 _law_draws_here, 1 _law_q, 2 _law_n, 3 _law_every, 4 _law_start, 5 _law_step, 6 _law_found, 7 _law_k -/
def t__law_many : VS := (tSCons (tAsgV 3 (vT (tCallF f__law_all (tACons (tvar 1) (tACons (tvar 2) tANil)))))
    (tSCons (tAsgT [4, 5] (vT (tTupD (tACons (vT (tBin .mod (vT (tCallF f__law_pop (tACons (tvar 0) tANil))) (vT (tBlt .len (tACons (tvar 3) tANil))))) (tACons (vT (tBin .add (vT (tcon (.int 1))) (vT (tBin .mul (vT (tcon (.int 6))) (vT (tBin .mod (vT (tCallF f__law_pop (tACons (tvar 0) tANil))) (vT (tcon (.int 40))))))))) tANil)))))
    (tSCons (tAsgV 6 (vT (tLcV (.one 7) (tRng1 (vT (tBlt .len (tACons (tvar 3) tANil)))) tYesV (vT (tIx (tvar 3) (vT (tBin .mod (vT (tBin .add (tvar 4) (vT (tBin .mul (tvar 5) (tvar 7))))) (vT (tBlt .len (tACons (tvar 3) tANil))))))))))
    (tSCons (tRetN (tSlL (tvar 6) tONo (tOSo (vT (tBin .sub (vT (tBlt .len (tACons (tvar 3) tANil))) (vT (tBin .mod (vT (tCallF f__law_pop (tACons (tvar 0) tANil))) (vT (tIx (vT (tLstD (tACons (vT (tcon (.int 1))) (tACons (vT (tBlt .len (tACons (tvar 3) tANil))) tANil)))) (vT (tBin .mod (vT (tCallF f__law_pop (tACons (tvar 0) tANil))) (vT (tcon (.int 2))))))))))))))
    tSNil))))
theorem sws_at {ws : List (List Nat)} {k : Int} (h0 : 0 ≤ k) (h : k < ws.length) : ∃ w, atI (ws.map sw) k = some (sw w) ∧ w ∈ ws ∧ ws[k.toNat]? = some w := by
  obtain ⟨j, rfl⟩ := Int.eq_ofNat_of_zero_le h0
  have hj : j < ws.length := by simpa using h
  refine ⟨ws[j], atI_nat ?_, List.getElem_mem hj, by simp [hj]⟩
  rw [List.getElem?_map, List.getElem?_eq_getElem hj]
  rfl
theorem map_sw_of {α : Type} {f : α → D} {as : List α} {P : List Nat → Prop} (h : ∀ a ∈ as, ∃ w, f a = sw w ∧ P w) : ∃ ws : List (List Nat), as.map f = ws.map sw ∧ ws.length = as.length ∧ ∀ w ∈ ws, P w := by
  induction as with
  | nil => exact ⟨[], rfl, rfl, fun _ h => absurd h (by simp)⟩
  | cons a as ih =>
    obtain ⟨w, e, p⟩ := h a List.mem_cons_self
    obtain ⟨ws, e2, e3, e4⟩ := ih fun b hb => h b (List.mem_cons_of_mem _ hb)
    refine ⟨w :: ws, by rw [List.map_cons, e, e2]; rfl, by simp [e3], fun x hx => ?_⟩
    rcases List.mem_cons.mp hx with z | z
    · rw [z]; exact p
    · exact e4 x z
theorem plain__law_many : Plain f__law_many 8 t__law_many := by
  rintro xs ρ ⟨ds, q, n, rfl, hd, hs⟩ hi
  cases hi
  have hq2 := hs.q2
  refine ⟨rfl, ⟨q, n, rfl, hs⟩, fun r yss h => ?_⟩
  obtain ⟨rfl, rfl⟩ := h q n rfl
  refine ⟨rfl, ⟨ds, rfl, hd⟩, fun r yss h => ?_⟩
  obtain ⟨c1, ds1, rfl, hc1, hd1, rfl⟩ := h
  have hL := allL_len q n
  have hp := pow_le hs
  have hp1 : 1 ≤ q ^ n := Nat.le_trans Nat.one_le_two_pow (Nat.pow_le_pow_left hq2 n)
  have hlen : (((allL q n).map sw).length : Int) = ((q ^ n : Nat) : Int) := by rw [List.length_map, hL]
  refine ⟨by rw [hlen]; omega, rfl, ⟨ds1, rfl, hd1⟩, fun r yss h => ?_⟩
  obtain ⟨c2, ds2, rfl, hc2, hd2, rfl⟩ := h
  refine ⟨by decide, mul_l ⟨by decide, by decide⟩, sz_le (by simp), ?_⟩
  refine ⟨by rw [hlen]; omega, by rw [hlen]; omega, rfl, rfl, ?_⟩
  have hpos : (0 : Int) < (((allL q n).map sw).length : Int) := by rw [hlen]; omega
  generalize hst : ((c1 : Nat) : Int) % (((allL q n).map sw).length : Int) = st
  generalize hsp : (1 : Int) + 6 * (((c2 : Nat) : Int) % 40) = sp
  have hsp' : -(2 ^ 64) < sp ∧ sp < 2 ^ 64 := by omega
  have pick : ∀ k : Nat, ∃ w, atI ((allL q n).map sw) ((st + sp * ((k : Nat) : Int)) % (((allL q n).map sw).length : Int)) = some (sw w) ∧ w ∈ allL q n := fun k => by
    obtain ⟨w, h1, h2, _⟩ := sws_at (ws := allL q n) (k := (st + sp * ((k : Nat) : Int)) % (((allL q n).map sw).length : Int)) (Int.emod_nonneg _ (by omega)) (by
      have := Int.emod_lt_of_pos (st + sp * ((k : Nat) : Int)) hpos
      rw [List.length_map] at this ⊢
      exact this)
    exact ⟨w, h1, h2⟩
  refine lc_map (fun i : Nat => [PyData.int (i : Nat)]) (fun k => (atI ((allL q n).map sw) ((st + sp * ((k : Nat) : Int)) % (((allL q n).map sw).length : Int))).getD .none) (List.range (q ^ n)) (by rw [hlen]; exact rng0 _) guard_nil (fun k hk => ?_) (sz_le (by simp; omega)) ?_
  · obtain ⟨w, h1, h2⟩ := pick k
    refine ⟨_, rfl, rfl, fun K k2 => ⟨mul_l hsp', hpos, _, h1, ?_⟩⟩
    rw [h1] at k2
    exact k2
  obtain ⟨ws, e1, e2, e3⟩ := map_sw_of (as := List.range (q ^ n)) (f := fun k => (atI ((allL q n).map sw) ((st + sp * ((k : Nat) : Int)) % (((allL q n).map sw).length : Int))).getD .none) (P := fun w => w ∈ allL q n) (fun k hk => by
    obtain ⟨w, h1, h2⟩ := pick k
    exact ⟨w, by rw [h1]; rfl, h2⟩)
  rw [e1]
  rw [List.length_range] at e2
  refine ⟨rfl, ⟨ds2, rfl, hd2⟩, fun r yss h => ?_⟩
  obtain ⟨c3, ds3, rfl, hc3, hd3, rfl⟩ := h
  refine ⟨sz_le (by simp), rfl, ⟨ds3, rfl, hd3⟩, fun r yss h => ?_⟩
  obtain ⟨c4, ds4, rfl, hc4, hd4, rfl⟩ := h
  have two : ∃ b : Int, atI [PyData.int 1, PyData.int (((allL q n).map sw).length : Int)] (((c4 : Nat) : Int) % 2) = some (.int b) ∧ 0 < b ∧ b ≤ (q ^ n : Nat) := by
    have h2 : ((c4 : Nat) : Int) % 2 = 0 ∨ ((c4 : Nat) : Int) % 2 = 1 := by omega
    rcases h2 with h2 | h2
    · rw [h2]
      exact ⟨1, rfl, by decide, by omega⟩
    · rw [h2]
      exact ⟨_, rfl, hpos, by omega⟩
  obtain ⟨b, hb, hb0, hb1⟩ := two
  refine ⟨by decide, _, hb, hb0, ?_⟩
  have hm0 := Int.emod_nonneg ((c3 : Nat) : Int) (show b ≠ 0 by omega)
  have hm1 := Int.emod_lt_of_pos ((c3 : Nat) : Int) hb0
  obtain ⟨j, hj⟩ : ∃ j : Nat, (((allL q n).map sw).length : Int) - ((c3 : Nat) : Int) % b = (j : Nat) := Int.eq_ofNat_of_zero_le (by omega)
  show ∃ yss, f__law_many.post _ (.list (cutD (ws.map sw) none (some ((((allL q n).map sw).length : Int) - ((c3 : Nat) : Int) % b)))) yss ∧ _
  rw [hj, cut_sws]
  refine ⟨_, fun q' n' e1 e2 => ?_, .cons rfl .nil⟩
  have e1 : some (PyData.int q) = some (PyData.int q') := e1
  have e2 : some (PyData.int n) = some (PyData.int n') := e2
  cases e1
  cases e2
  refine ⟨ws.take j, ds4, rfl, fun w hw => mem_allL.mp (e3 w (List.take_subset _ _ hw)), ?_, ?_, hd4, rfl⟩
  · rw [List.length_take]
    omega
  · rw [List.length_take]
    omega
end WA

/-! WL4: sorted words, signs as numbers, what is in a list. -/
namespace WA
open PySem PySem.Spec PyProof.Rows L2
def leW (a b : List Nat) : Bool := leS (wd a) (wd b)
def srtL (l : List (List Nat)) : List (List Nat) := l.mergeSort leW
theorem srtL_perm (l : List (List Nat)) : (srtL l).Perm l := List.mergeSort_perm _ _
theorem srtL_mem {l : List (List Nat)} {w : List Nat} : w ∈ srtL l ↔ w ∈ l := (srtL_perm l).mem_iff
theorem srtL_len (l : List (List Nat)) : (srtL l).length = l.length := (srtL_perm l).length_eq
theorem sws_eq (ls : List (List Nat)) : ls.map sw = (ls.map wd).map PyData.str := by
  rw [List.map_map]
  rfl
theorem srt_sws (ls : List (List Nat)) : (srt (ls.map wd)).map PyData.str = (srtL ls).map sw := by
  rw [sws_eq]
  congr 1
  exact (List.map_mergeSort (r := leW) (s := leS) (f := wd) (l := ls) (fun a _ b _ => rfl)).symm
theorem leW_trans (a b c : List Nat) (h1 : leW a b = true) (h2 : leW b c = true) : leW a c = true := leS_trans _ _ _ h1 h2
theorem leW_total (a b : List Nat) : (leW a b || leW b a) = true := leS_total _ _
theorem leW_anti {a b : List Nat} (h1 : leW a b = true) (h2 : leW b a = true) : a = b := wd_inj (leS_anti h1 h2)
theorem srtL_pw (l : List (List Nat)) : (srtL l).Pairwise fun a b => leW a b = true := List.pairwise_mergeSort leW_trans leW_total l
theorem srtL_of {xs ys : List (List Nat)} (hp : ys.Perm xs) (hs : ys.Pairwise fun a b => leW a b = true) : ys = srtL xs :=
  List.Perm.eq_of_pairwise (le := fun a b => leW a b = true) (fun _ _ _ _ => leW_anti) hs (srtL_pw xs) (hp.trans (srtL_perm xs).symm)
theorem srtL_same {xs ys : List (List Nat)} (hp : ys.Perm xs) : srtL ys = srtL xs := srtL_of ((srtL_perm ys).trans hp) (srtL_pw ys)
theorem Wds.srt {q n : Nat} {ws : List (List Nat)} (h : Wds q n ws) : Wds q n (srtL ws) := fun w hw => h w (srtL_mem.mp hw)
theorem int_sign {s : Nat} (h : s < 10) : PySem.intText? (wd [s]) = some (s : Int) := by
  have : s = 0 ∨ s = 1 ∨ s = 2 ∨ s = 3 ∨ s = 4 ∨ s = 5 ∨ s = 6 ∨ s = 7 ∨ s = 8 ∨ s = 9 := by omega
  rcases this with rfl | rfl | rfl | rfl | rfl | rfl | rfl | rfl | rfl | rfl <;> decide +kernel
theorem all_flat (ws : List (List Nat)) : (ws.map sw).all flatD = true := by
  rw [List.all_eq_true]
  intro x hx
  obtain ⟨w, _, rfl⟩ := List.mem_map.mp hx
  rfl
theorem inD_sws (w : List Nat) (ws : List (List Nat)) : inD (sw w) (ws.map sw) = decide (w ∈ ws) := by
  unfold inD
  rw [List.any_map]
  by_cases h : w ∈ ws
  · rw [decide_eq_true h, List.any_eq_true]
    exact ⟨w, h, by show PyData.eqv (sw w) (sw w) = true; rw [eqv_sw]; simp⟩
  · rw [decide_eq_false h, List.any_eq_false]
    intro x hx
    show ¬ PyData.eqv (sw x) (sw w) = true
    rw [eqv_sw]
    simp
    rintro rfl
    exact h hx
theorem cut_from (ws : List (List Nat)) (k : Nat) : cutD (ws.map sw) (some (k : Int)) none = (ws.drop k).map sw := by
  unfold cutD
  rw [HT.sIx_none, HT.sIx_nat, List.length_map, List.map_drop, List.take_of_length_le (by rw [List.length_drop, List.length_map]; exact Nat.le_refl _)]
  rcases Nat.le_total k ws.length with h | h
  · rw [Nat.min_eq_left h]
  · rw [Nat.min_eq_right h, List.drop_eq_nil_of_le (by rw [List.length_map]; exact Nat.le_refl _), List.drop_eq_nil_of_le (by rw [List.length_map]; exact h)]
theorem eqv_sws_nil (ws : List (List Nat)) : PyData.eqv (.list (ws.map sw)) (.list []) = decide (ws = []) := eqv_sws _ []
def f__law_texts : FSpec := ⟨"_law_texts", [.rs], false, fun xs => ∃ ls : List (List Nat), xs = [.list (ls.map sw)] ∧ ls.length ≤ 100000, fun _ r yss => r = .bool true ∧ yss = []⟩
/-! _law_texts: 0 _law_found, 1 _law_one -/
def t__law_texts : VS := (tSCons (tRetV (tAnd2 (vT (tIsi .list (tvar 0))) (vT (tCmp .eq (vT (tLcV (.one 1) (tIt (tvar 0)) (cOf (vT (tNt (vT (tIsi .str (tvar 1)))))) (tvar 1))) (vT (tLstD tANil))))))
    tSNil)
theorem plain__law_texts : Plain f__law_texts 2 t__law_texts := by
  rintro xs ρ ⟨ls, rfl, hl⟩ hi
  cases hi
  refine ⟨rfl, fun _ => ?_, fun h => by cases h⟩
  refine ⟨rfl, rfl, ?_⟩
  refine lc_go (fun w => [sw w]) (fun _ => false) (fun _ => .none) (guard_one rfl) ls (by simp) (fun a ha => ⟨_, rfl, rfl, fun K k => ⟨rfl, k⟩, fun z => by cases z⟩) (sz_le (by simp; omega)) ?_
  rw [List.filter_eq_nil_iff.mpr (by simp)]
  exact ⟨by decide, rfl, [], ⟨rfl, rfl⟩, .nil⟩
/-- the sum of a word's signs -/
def sumI (w : List Nat) : Int := (w.map fun s : Nat => (s : Int)).sum
theorem snoc_pop (ws : List (List Nat)) (hne : ws ≠ []) : (ws.map sw)[(ws.map sw).length - 1]? = some (sw (ws.getLast hne)) := by
  rw [List.length_map, List.getElem?_map, ← List.getLast?_eq_getElem?, List.getLast?_eq_some_getLast hne]
  rfl
end WA

/-! WP7: plus, taken. -/
namespace WA
open PySem PySem.Spec PyProof.Rows L2
def plusW (q : Nat) (a b : List Nat) : List Nat := (a.zip b).map fun p => (p.1 + p.2) % q
def timesW (q : Nat) (w : List Nat) (t : Nat) : List Nat := w.map fun s => s * t % q
theorem asc_wd {q : Nat} {w : List Nat} (hq : q ≤ 10) (h : Sg q w) : asc (wd w) = true := by
  unfold asc
  rw [Array.all_eq_true_iff_forall_mem]
  intro x hx
  have hx : x ∈ (wd w).cps.toList := by simpa using hx
  rw [wd_cps] at hx
  obtain ⟨s, hs, rfl⟩ := List.mem_map.mp hx
  have := h s hs
  rw [decide_eq_true_eq]
  omega
theorem zipSD_wd (a b : List Nat) : zipSD (wd a) (wd b) = (a.zip b).map fun p => [sw [p.1], sw [p.2]] := by
  unfold zipSD
  rw [wd_cps, wd_cps, List.zip_map, List.map_map]
  rfl
theorem glue_wd : ∀ l : List Nat, Txt.join ("" : Str) (l.map fun s => wd [s]) = wd l := by
  intro l
  have go : ∀ (m : List Nat) (acc : Array Nat), (m.map fun s => wd [s]).foldl (fun acc p => acc ++ ("" : Str).cps ++ p.cps) acc = acc ++ (m.map (· + 48)).toArray := by
    intro m
    induction m with
    | nil => intro acc; simp
    | cons a m ih =>
      intro acc
      rw [List.map_cons, List.foldl_cons, ih, List.map_cons]
      have : ("" : Str).cps = #[] := rfl
      rw [this]
      apply Array.ext'
      simp [wd]
  cases l with
  | nil => rfl
  | cons a l =>
    show (⟨((l.map fun s => wd [s])).foldl (fun acc p => acc ++ ("" : Str).cps ++ p.cps) (wd [a]).cps⟩ : Str) = wd (a :: l)
    rw [go]
    unfold wd
    simp
/-- "".join of signs -/
theorem join_ok {l : List Nat} (h : l.length ≤ 1000) : ∃ ys : List Str, (l.map fun s => sw [s]) = ys.map PyData.str ∧ (ys.map (·.length)).sum + ys.length * ("" : Str).length ≤ 16777216 ∧ Txt.join ("" : Str) ys = wd l := by
  refine ⟨l.map fun s => wd [s], by rw [List.map_map]; rfl, ?_, glue_wd l⟩
  have e : ((l.map fun s => wd [s]).map (·.length)).sum = l.length := by
    induction l with
    | nil => rfl
    | cons a l ih =>
      rw [List.map_cons, List.map_cons, List.sum_cons, ih (by simp at h; omega), wd_len, List.length_cons]
      simp
      omega
  rw [e]
  have : ("" : Str).length = 0 := rfl
  rw [this]
  omega
theorem Sg.plus {q : Nat} (hq : 0 < q) (a b : List Nat) : Sg q (plusW q a b) := fun s hs => by
  obtain ⟨p, _, rfl⟩ := List.mem_map.mp hs
  exact Nat.mod_lt _ hq
theorem plusW_len {q : Nat} {a b : List Nat} (h : a.length = b.length) : (plusW q a b).length = a.length := by
  unfold plusW
  rw [List.length_map, List.length_zip]
  omega
theorem Sg.times {q : Nat} (hq : 0 < q) (w : List Nat) (t : Nat) : Sg q (timesW q w t) := fun s hs => by
  obtain ⟨x, _, rfl⟩ := List.mem_map.mp hs
  exact Nat.mod_lt _ hq
theorem timesW_len (q : Nat) (w : List Nat) (t : Nat) : (timesW q w t).length = w.length := List.length_map _
def f_plus : FSpec := ⟨"plus", [.val, .val, .val], false, fun xs => ∃ (q : Nat) (a b : List Nat), xs = [.int q, sw a, sw b] ∧ 2 ≤ q ∧ q ≤ 3 ∧ Sg q a ∧ Sg q b ∧ a.length = b.length ∧ a.length ≤ 1000,
  fun xs r yss => ∀ (q : Nat) (a b : List Nat), xs = [.int q, sw a, sw b] → r = sw (plusW q a b) ∧ yss = []⟩
/-! plus: 0 q, 1 one, 2 other, 3 left, 4 right -/
def t_plus : VS := (tSCons (tRetV (vT (tJoin (vT (tcon (.str ""))) (vT (tLcV (.two 3 4) (tZipS (tvar 1) (tvar 2)) tYesV (vT (tBlt .str (tACons (vT (tBin .mod (vT (tBin .add (vT (tBlt .int (tACons (tvar 3) tANil))) (vT (tBlt .int (tACons (tvar 4) tANil))))) (tvar 0))) tANil))))))))
    tSNil)
theorem plain_plus : Plain f_plus 5 t_plus := by
  rintro xs ρ ⟨q, a, b, rfl, hq2, hq3, ga, gb, hl, hz⟩ hi
  cases hi
  refine ⟨⟨_, rfl⟩, asc_wd (by omega) ga, asc_wd (by omega) gb, rfl, rfl, ?_⟩
  refine lc_map (fun p : Nat × Nat => [sw [p.1], sw [p.2]]) (fun p => sw [(p.1 + p.2) % q]) (a.zip b) (zipSD_wd a b) guard_nil (fun p hp => ?_) (sz_le (by rw [List.length_zip]; omega)) ?_
  · obtain ⟨h1, h2⟩ := List.of_mem_zip hp
    have h1 := ga _ h1
    have h2 := gb _ h2
    have hm : (p.1 + p.2) % q < q := Nat.mod_lt _ (by omega)
    refine ⟨_, rfl, rfl, fun K k => ⟨_, int_sign (by omega), by rw [wd_len]; simp, _, int_sign (by omega), by rw [wd_len]; simp, by omega, ?_⟩⟩
    show _ < 1920 ∧ K (.val (PyData.str (Str.ofString (toString ((((p.1 : Nat) : Int) + ((p.2 : Nat) : Int)) % ((q : Nat) : Int)))))) _
    rw [show (((p.1 : Nat) : Int) + ((p.2 : Nat) : Int)) % ((q : Nat) : Int) = (((p.1 + p.2) % q : Nat) : Int) from rfl, sign_str (by omega)]
    exact ⟨sign_log (by omega), k⟩
  · obtain ⟨ys, e1, e2, e3⟩ := join_ok (l := plusW q a b) (by rw [plusW_len hl]; omega)
    refine ⟨ys, by rw [← e1]; unfold plusW; rw [List.map_map]; rfl, e2, [], fun q' a' b' e => ?_, .nil⟩
    have e4 : (q : Int) = q' ∧ sw a = sw a' ∧ sw b = sw b' := by simpa using e
    have e5 : q = q' := by omega
    subst e5
    cases sw_inj e4.2.1
    cases sw_inj e4.2.2
    rw [e3]
    exact ⟨rfl, rfl⟩
def f_taken : FSpec := ⟨"taken", [.val, .val, .val], false, fun xs => ∃ (q : Nat) (w : List Nat) (t : Nat), xs = [.int q, sw w, .int t] ∧ 2 ≤ q ∧ q ≤ 3 ∧ Sg q w ∧ t ≤ 1000 ∧ w.length ≤ 1000,
  fun xs r yss => ∀ (q : Nat) (w : List Nat) (t : Nat), xs = [.int q, sw w, .int t] → r = sw (timesW q w t) ∧ yss = []⟩
/-! taken: 0 q, 1 word, 2 times, 3 sign -/
def t_taken : VS := (tSCons (tRetV (vT (tJoin (vT (tcon (.str ""))) (vT (tLcV (.one 3) (tItS (tvar 1)) tYesV (vT (tBlt .str (tACons (vT (tBin .mod (vT (tBin .mul (vT (tBlt .int (tACons (tvar 3) tANil))) (tvar 2))) (tvar 0))) tANil))))))))
    tSNil)
theorem plain_taken : Plain f_taken 4 t_taken := by
  rintro xs ρ ⟨q, w, t, rfl, hq2, hq3, gw, ht, hz⟩ hi
  cases hi
  refine ⟨⟨_, rfl⟩, rfl, rfl, ?_⟩
  refine lc_map (fun s => [sw [s]]) (fun s => sw [s * t % q]) w (its_wd w) guard_nil (fun s hs => ?_) (sz_le (by omega)) ?_
  · have h1 := gw s hs
    have hm : s * t % q < q := Nat.mod_lt _ (by omega)
    refine ⟨_, rfl, rfl, fun K k => ⟨_, int_sign (by omega), by rw [wd_len]; simp, mul_r ⟨by omega, by omega⟩, by omega, ?_⟩⟩
    show _ < 1920 ∧ K (.val (PyData.str (Str.ofString (toString ((((s : Nat) : Int) * ((t : Nat) : Int)) % ((q : Nat) : Int)))))) _
    rw [show (((s : Nat) : Int) * ((t : Nat) : Int)) % ((q : Nat) : Int) = ((s * t % q : Nat) : Int) by simp, sign_str (by omega)]
    exact ⟨sign_log (by omega), k⟩
  · obtain ⟨ys, e1, e2, e3⟩ := join_ok (l := timesW q w t) (by rw [timesW_len]; omega)
    refine ⟨ys, by rw [← e1]; unfold timesW; rw [List.map_map]; rfl, e2, [], fun q' w' t' e => ?_, .nil⟩
    have e4 : (q : Int) = q' ∧ sw w = sw w' ∧ (t : Int) = t' := by simpa using e
    have e5 : q = q' := by omega
    have e6 : t = t' := by omega
    subst e5 e6
    cases sw_inj e4.2.1
    rw [e3]
    exact ⟨rfl, rfl⟩
end WA

/-! WL5: the laws' sums, the laws' rows. -/
namespace WA
open PySem PySem.Spec PyProof.Rows L2
/-- a comprehension whose element changes slots -/
theorem lc_inv {α : Type} {tg : Tg} {gs : List (Nat × List D)} {e : VT} {Q : List D → R → Prop} (item : α → List D) (I : List D → R → Prop) (hg : ∀ acc ρ, I acc ρ → guardR gs ρ) : ∀ (as : List α) {its : List (List D)} {acc : List D} {ρ : R}, its = as.map item → I acc ρ →
    (∀ a ∈ as, ∀ acc ρ, I acc ρ → ∃ ρ1, putT ρ tg (item a) = some ρ1 ∧ ∀ K : AV → R → Prop, (∀ d ρ3, I (acc ++ [d]) (wipeR ρ3 tg.ix) → K (.val d) ρ3) → e ρ1 K) →
    acc.length + as.length ≤ sizeLine → (∀ acc' ρ, acc'.length = acc.length + as.length → I acc' ρ → Q acc' ρ) → lcLoop tg gs tYesV e its acc ρ Q
  | [], its, acc, ρ, e1, hI, _, _, hq => by
    subst e1
    exact ⟨hg _ _ hI, hq _ _ rfl hI⟩
  | a :: as, its, acc, ρ, e1, hI, h, hz, hq => by
    subst e1
    refine ⟨hg _ _ hI, ?_⟩
    obtain ⟨ρ1, e2, he⟩ := h a List.mem_cons_self acc ρ hI
    show (match putT ρ tg (item a) with
      | some ρ1 => tYesV ρ1 fun b ρ2 => if b = true then e ρ2 fun y ρ3 => (match y with
          | .val d => acc.length < sizeLine ∧ lcLoop tg gs tYesV e (as.map item) (acc ++ [d]) (wipeR ρ3 tg.ix) Q
          | _ => False) else lcLoop tg gs tYesV e (as.map item) acc (wipeR ρ2 tg.ix) Q
      | none => False)
    rw [e2]
    have hl : (a :: as).length = as.length + 1 := rfl
    show e ρ1 fun y ρ3 => (match y with
          | .val d => acc.length < sizeLine ∧ lcLoop tg gs tYesV e (as.map item) (acc ++ [d]) (wipeR ρ3 tg.ix) Q
          | _ => False)
    refine he _ fun d ρ3 hI3 => ⟨by omega, ?_⟩
    refine lc_inv item I hg as rfl hI3 (fun b hb => h b (List.mem_cons_of_mem _ hb)) (by simp only [List.length_append, List.length_singleton]; omega) fun acc' ρ hl' hI' => hq _ _ ?_ hI'
    rw [hl']
    simp only [List.length_append, List.length_singleton]
    omega
def lplW (q : Nat) (a b : List Nat) (t : Nat) : List Nat := (a.zip b).map fun p => (p.1 + t * p.2) % q
theorem zip_range {α : Type} (f : Nat → Nat → α) : ∀ (a b : List Nat), a.length = b.length → (List.range a.length).map (fun k => f (a.getD k 0) (b.getD k 0)) = (a.zip b).map fun p => f p.1 p.2
  | [], [], _ => rfl
  | x :: a, y :: b, h => by
    have ih := zip_range f a b (by simpa using h)
    rw [List.length_cons, List.range_succ_eq_map, List.map_cons, List.map_map, List.zip_cons_cons, List.map_cons, ← ih]
    rfl
theorem sign_640 {c : Nat} : (⟨#[c]⟩ : Str).length ≤ 640 := by
  show 1 ≤ 640
  decide
def f__law_plus : FSpec := ⟨"_law_plus", [.val, .val, .val, .val], false, fun xs => ∃ (q : Nat) (a b : List Nat) (t : Nat), xs = [.int q, sw a, sw b, .int t] ∧ 2 ≤ q ∧ q ≤ 3 ∧ Sg q a ∧ Sg q b ∧ a.length = b.length ∧ a.length ≤ 1000 ∧ t ≤ 1000,
  fun xs r yss => ∀ (q : Nat) (a b : List Nat) (t : Nat), xs = [.int q, sw a, sw b, .int t] → r = sw (lplW q a b t) ∧ yss = []⟩
/-! _law_plus: 0 _law_q, 1 _law_one, 2 _law_other, 3 _law_times, 4 _law_k -/
def t__law_plus : VS := (tSCons (tRetV (vT (tJoin (vT (tcon (.str ""))) (vT (tLcV (.one 4) (tRng1 (vT (tBlt .len (tACons (tvar 1) tANil)))) tYesV (vT (tBlt .str (tACons (vT (tBin .mod (vT (tBin .add (vT (tBlt .int (tACons (vT (tIx (tvar 1) (tvar 4))) tANil))) (vT (tBin .mul (tvar 3) (vT (tBlt .int (tACons (vT (tIx (tvar 2) (tvar 4))) tANil))))))) (tvar 0))) tANil))))))))
    tSNil)
theorem plain__law_plus : Plain f__law_plus 5 t__law_plus := by
  rintro xs ρ ⟨q, a, b, t, rfl, hq2, hq3, ga, gb, hl, hz, ht⟩ hi
  cases hi
  refine ⟨⟨_, rfl⟩, wd_small hz, by rw [wd_len]; omega, by rw [wd_len]; omega, rfl, rfl, ?_⟩
  rw [wd_len]
  refine lc_map (fun i : Nat => [PyData.int (i : Nat)]) (fun k => sw [(a.getD k 0 + t * b.getD k 0) % q]) (List.range a.length) (rng0 _) guard_nil (fun k hk => ?_) (sz_le (by simp; omega)) ?_
  · have hk := List.mem_range.mp hk
    have hk2 : k < b.length := by omega
    have e1 : a.getD k 0 = a[k] := by rw [List.getD_eq_getElem?_getD, List.getElem?_eq_getElem hk]; rfl
    have e2 : b.getD k 0 = b[k] := by rw [List.getD_eq_getElem?_getD, List.getElem?_eq_getElem hk2]; rfl
    have h1 := ga _ (List.getElem_mem hk)
    have h2 := gb _ (List.getElem_mem hk2)
    have hm : (a[k] + t * b[k]) % q < q := Nat.mod_lt _ (by omega)
    refine ⟨_, rfl, rfl, fun K k2 => ⟨_, at_wd hk, wd_small hz, _, int_sign (s := a[k]) (by omega), sign_640, _, at_wd hk2, wd_small (by omega), _, int_sign (s := b[k]) (by omega), sign_640, mul_l ⟨by omega, by omega⟩, by omega, ?_⟩⟩
    rw [e1, e2] at k2
    show _ < 1920 ∧ K (.val (PyData.str (Str.ofString (toString ((((a[k] : Nat) : Int) + ((t : Nat) : Int) * ((b[k] : Nat) : Int)) % ((q : Nat) : Int)))))) _
    rw [show ((((a[k] : Nat) : Int) + ((t : Nat) : Int) * ((b[k] : Nat) : Int)) % ((q : Nat) : Int)) = (((a[k] + t * b[k]) % q : Nat) : Int) by simp, sign_str (by omega)]
    exact ⟨sign_log (by omega), k2⟩
  · have hll : (lplW q a b t).length = a.length := by unfold lplW; rw [List.length_map, List.length_zip]; omega
    obtain ⟨ys, e1, e2, e3⟩ := join_ok (l := lplW q a b t) (by omega)
    refine ⟨ys, ?_, e2, [], fun q' a' b' t' e => ?_, .nil⟩
    · rw [← e1, zip_range (fun x y => sw [(x + t * y) % q]) a b hl]
      unfold lplW
      rw [List.map_map]
      rfl
    have e4 : (q : Int) = q' ∧ sw a = sw a' ∧ sw b = sw b' ∧ (t : Int) = t' := by simpa using e
    have e5 : q = q' := by omega
    have e6 : t = t' := by omega
    subst e5 e6
    cases sw_inj e4.2.1
    cases sw_inj e4.2.2.1
    rw [e3]
    exact ⟨rfl, rfl⟩

theorem lplW_wd {q n t : Nat} {a b : List Nat} (hq : 0 < q) (ha : a.length = n) (hb : b.length = n) : Wd q n (lplW q a b t) := by
  refine ⟨by unfold lplW; rw [List.length_map, List.length_zip]; omega, fun s hs => ?_⟩
  obtain ⟨p, _, rfl⟩ := List.mem_map.mp hs
  exact Nat.mod_lt _ hq
theorem ixN_last {n : Nat} (h : 0 < n) : ixN n (-1) = some (n - 1) := by
  unfold ixN
  rw [if_neg (by omega), if_pos (by omega)]
  congr 1
  omega
theorem sws_set (ws : List (List Nat)) (j : Nat) (w : List Nat) : (ws.map sw).set j (sw w) = (ws.set j w).map sw := (List.map_set ..).symm
theorem Wds.set {q n : Nat} {ws : List (List Nat)} {w : List Nat} (h : Wds q n ws) (hw : Wd q n w) (j : Nat) : Wds q n (ws.set j w) := fun x hx => by
  rcases List.mem_or_eq_of_mem_set hx with z | z
  · exact h x z
  · rw [z]; exact hw
def rowsT5 : VS := (tSCons (tRetO [0] 5)
    tSNil)
def rowsT4 : VS := (tSCons (tIf (cOf (tAnd2 (vT (tCmp .gt (vT (tBlt .len (tACons (tvar 5) tANil))) (vT (tcon (.int 2))))) (vT (tCmp .eq (vT (tBin .mod (vT (tBin .fdiv (tvar 3) (vT (tcon (.int 9))))) (vT (tcon (.int 3))))) (vT (tcon (.int 1))))))) (tSCons (tSetIx 5 (vT (tNeg (vT (tcon (.int 1))))) (vT (tCallF f__law_plus (tACons (tvar 1) (tACons (vT (tIx (tvar 5) (vT (tcon (.int 0))))) (tACons (vT (tIx (tvar 5) (vT (tcon (.int 1))))) (tACons (vT (tBin .add (vT (tcon (.int 1))) (vT (tBin .mod (vT (tBin .fdiv (tvar 3) (vT (tcon (.int 27))))) (vT (tcon (.int 2))))))) tANil)))))))
    tSNil) tSNil)
    rowsT5)
def rowsT3 : VS := (tSCons (tIf (cOf (tAnd2 (vT (tCmp .ne (tvar 5) (vT (tLstD tANil)))) (vT (tCmp .eq (vT (tBin .mod (vT (tBin .fdiv (tvar 3) (vT (tcon (.int 9))))) (vT (tcon (.int 3))))) (vT (tcon (.int 0))))))) (tSCons (tSetIx 5 (vT (tNeg (vT (tcon (.int 1))))) (vT (tIx (tvar 5) (vT (tBin .mod (vT (tBin .fdiv (tvar 3) (vT (tcon (.int 27))))) (vT (tBlt .len (tACons (tvar 5) tANil))))))))
    tSNil) tSNil)
    rowsT4)
def rowsT2 : VS := (tSCons (tAsgO 5 (tLcV (.one 6) (tRng1 (tvar 4)) tYesV (vT (tCallF f__law_word (tACons (vT (tCallF f__law_pop (tACons (tvar 0) tANil))) (tACons (tvar 1) (tACons (tvar 2) tANil)))))))
    rowsT3)
def rowsT1 : VS := (tSCons (tAsgV 4 (vT (tIx (vT (tLstD (tACons (vT (tBin .mod (tvar 3) (vT (tcon (.int 9))))) (tACons (vT (tBin .mod (tvar 3) (vT (tcon (.int 41))))) tANil)))) (vT (tBlt .int (tACons (vT (tCmp .eq (vT (tBin .mod (vT (tBin .fdiv (tvar 3) (vT (tcon (.int 300))))) (vT (tcon (.int 8))))) (vT (tcon (.int 0))))) tANil))))))
    rowsT2)
section
variable {ds : List Int} {q n c m : Nat} {ws : List (List Nat)} {Qn : R → Prop} {Qr : D → R → Prop}
/-- what the rows' end is asked -/
def RowsEnd (q n c : Nat) (Qr : D → R → Prop) : Prop := ∀ (ws : List (List Nat)) (ds : List Int) (m : Nat), Wds q n ws → ws.length ≤ 40 → Drawn ds → Qr (.list (ws.map sw)) [.own (ds.map PyData.int), .v (.int q), .v (.int n), .v (.int c), .v (.int m), .own (ws.map sw), .no]
theorem rows4 (hs : szOk q n) (hQ : RowsEnd q n c Qr) (hd : Drawn ds) (hw : Wds q n ws) (hl : ws.length ≤ 40) :
    rowsT4 [.own (ds.map PyData.int), .v (.int q), .v (.int n), .v (.int c), .v (.int m), .own (ws.map sw), .no] Qn Qr := by
  have hq2 := hs.q2
  have hq3 := hs.q3
  have hn8 := hs.n8
  have stay : rowsT5 [.own (ds.map PyData.int), .v (.int q), .v (.int n), .v (.int c), .v (.int m), .own (ws.map sw), .no] Qn Qr := ⟨rfl, hQ ws ds m hw hl hd⟩
  refine ⟨fun h => ?_, fun _ => ⟨fun h => (by cases h), fun _ => stay⟩⟩
  have h3 : 2 < ws.length := by
    have h := of_decide_eq_true h
    rw [List.length_map] at h
    omega
  refine ⟨div_ok ⟨by decide, by decide⟩, by omega, rfl, fun _ => ?_, fun _ => stay⟩
  obtain ⟨a, ea, ham, _⟩ := sws_at (ws := ws) (k := 0) (by omega) (by omega)
  obtain ⟨b, eb, hbm, _⟩ := sws_at (ws := ws) (k := 1) (by omega) (by omega)
  have ha := hw a ham
  have hb := hw b hbm
  refine ⟨sw a, ea, sw b, eb, div_ok ⟨by decide, by decide⟩, by omega, ?_⟩
  refine ⟨rfl, ⟨q, a, b, 1 + c / 27 % 2, rfl, hq2, hq3, ha.2, hb.2, by rw [ha.1, hb.1], by rw [ha.1]; omega, by omega⟩, fun r y h => ?_⟩
  obtain ⟨rfl, rfl⟩ := h q a b (1 + c / 27 % 2) rfl
  refine ⟨⟨_, rfl⟩, _, ixN_last (by rw [List.length_map]; omega), ?_⟩
  show rowsT5 [.own (ds.map PyData.int), .v (.int q), .v (.int n), .v (.int c), .v (.int m), .own ((ws.map sw).set _ (sw (lplW q a b (1 + c / 27 % 2)))), .no] Qn Qr
  rw [sws_set]
  exact ⟨rfl, hQ _ ds m (hw.set (lplW_wd (by omega) ha.1 hb.1) _) (by rw [List.length_set]; exact hl) hd⟩
theorem rows3 (hs : szOk q n) (hQ : RowsEnd q n c Qr) (hd : Drawn ds) (hw : Wds q n ws) (hl : ws.length ≤ 40) :
    rowsT3 [.own (ds.map PyData.int), .v (.int q), .v (.int n), .v (.int c), .v (.int m), .own (ws.map sw), .no] Qn Qr := by
  have hq2 := hs.q2
  have hq3 := hs.q3
  have stay := rows4 (ds := ds) (q := q) (n := n) (c := c) (m := m) (ws := ws) (Qn := Qn) hs hQ hd hw hl
  refine ⟨sz_le (by simp), eqOk_list (sg_ok hq3 hw.sg) (by simp), fun h => ?_, fun _ => ⟨fun h => (by cases h), fun _ => stay⟩⟩
  have hne : ws ≠ [] := fun z => by
    subst z
    cases h
  have hpos : 0 < ws.length := List.length_pos_iff.mpr hne
  have hlen : ((ws.map sw).length : Int) = (ws.length : Nat) := by rw [List.length_map]
  refine ⟨div_ok ⟨by decide, by decide⟩, by omega, rfl, fun _ => ?_, fun _ => stay⟩
  obtain ⟨w, ew, hwm, _⟩ := sws_at (ws := ws) (k := ((c : Nat) : Int) / 27 % ((ws.map sw).length : Int)) (by rw [hlen]; exact Int.emod_nonneg _ (by omega)) (by rw [hlen]; exact Int.emod_lt_of_pos _ (by omega))
  refine ⟨div_ok ⟨by decide, by decide⟩, by rw [hlen]; omega, sw w, ew, ⟨_, rfl⟩, _, ixN_last (by rw [List.length_map]; omega), ?_⟩
  show rowsT4 [.own (ds.map PyData.int), .v (.int q), .v (.int n), .v (.int c), .v (.int m), .own ((ws.map sw).set _ (sw w)), .no] Qn Qr
  rw [sws_set]
  exact rows4 hs hQ hd (hw.set (hw w hwm) _) (by rw [List.length_set]; exact hl)
theorem rows2 (hs : szOk q n) (hQ : RowsEnd q n c Qr) (hd : Drawn ds) (hm : m ≤ 40) :
    rowsT2 [.own (ds.map PyData.int), .v (.int q), .v (.int n), .v (.int c), .v (.int m), .no, .no] Qn Qr := by
  have hq2 := hs.q2
  have hq3 := hs.q3
  have hn8 := hs.n8
  refine ⟨by omega, by omega, rfl, rfl, ?_⟩
  refine lc_inv (fun i : Nat => [PyData.int (i : Nat)]) (fun acc ρ => ∃ (ws : List (List Nat)) (ds : List Int), acc = ws.map sw ∧ Wds q n ws ∧ Drawn ds ∧ ρ = [.own (ds.map PyData.int), .v (.int q), .v (.int n), .v (.int c), .v (.int m), .no, .no]) (fun _ _ _ => guard_nil) (List.range m) (rng0 _) ⟨[], ds, rfl, fun _ h => absurd h (by simp), hd, rfl⟩ (fun k _ acc ρ hI => ?_) (sz_le (by simp; omega)) fun acc ρ hl hI => ?_
  · obtain ⟨ws, ds, rfl, hw, hd, rfl⟩ := hI
    refine ⟨_, rfl, fun K hK => ⟨rfl, ⟨ds, rfl, hd⟩, fun r yss h => ?_⟩⟩
    obtain ⟨c', ds, rfl, hc, hd, rfl⟩ := h
    refine ⟨rfl, ⟨c', q, n, rfl, hq2, hq3, by omega⟩, fun r yss h => ?_⟩
    obtain ⟨a, rfl, ha, rfl⟩ := h q n rfl rfl
    exact hK _ _ ⟨ws ++ [a], ds, snoc_sws, hw.snoc ha, hd, rfl⟩
  · obtain ⟨ws, ds, rfl, hw, hd, rfl⟩ := hI
    have hl : ws.length = m := by simpa using hl
    exact rows3 hs hQ hd hw (by omega)
theorem rows1 (hs : szOk q n) (hQ : RowsEnd q n c Qr) (hd : Drawn ds) :
    rowsT1 [.own (ds.map PyData.int), .v (.int q), .v (.int n), .v (.int c), .no, .no, .no] Qn Qr := by
  obtain ⟨m, em, hm⟩ : ∃ m : Nat, atI [PyData.int (((c : Nat) : Int) % 9), PyData.int (((c : Nat) : Int) % 41)] (if PyData.eqv (.int (((c : Nat) : Int) / 300 % 8)) (.int 0) then 1 else 0) = some (.int (m : Nat)) ∧ m ≤ 40 := by
    cases PyData.eqv (.int (((c : Nat) : Int) / 300 % 8)) (.int 0) with
    | true => exact ⟨c % 41, rfl, by omega⟩
    | false => exact ⟨c % 9, rfl, by omega⟩
  refine ⟨by omega, by omega, sz_le (by simp), div_ok ⟨by decide, by decide⟩, by omega, rfl, _, em, ?_⟩
  exact rows2 hs hQ hd hm
end
def rowsS : FSpec := ⟨"_law_rows", [.own, .val, .val], true,
  fun xs => ∃ (ds : List Int) (q n : Nat), xs = [.list (ds.map PyData.int), .int q, .int n] ∧ Drawn ds ∧ szOk q n,
  fun xs r yss => ∀ (q n : Nat), xs[1]? = some (.int q) → xs[2]? = some (.int n) → ∃ (ws : List (List Nat)) (ds : List Int), r = .list (ws.map sw) ∧ Wds q n ws ∧ ws.length ≤ 256 ∧ Drawn ds ∧ yss = [ds.map PyData.int]⟩
end WA

/-! WP8: product, checked. -/
namespace WA
open PySem PySem.Spec PyProof.Rows L2
def dotW (a b : List Nat) : Nat := ((a.zip b).map fun p => p.1 * p.2).sum
theorem dotW_comm : ∀ a b : List Nat, dotW a b = dotW b a
  | [], [] => rfl
  | [], _ :: _ => rfl
  | _ :: _, [] => rfl
  | a :: as, b :: bs => by
    have ih := dotW_comm as bs
    unfold dotW at ih ⊢
    rw [List.zip_cons_cons, List.zip_cons_cons, List.map_cons, List.map_cons, List.sum_cons, List.sum_cons, ih, Nat.mul_comm]
theorem sum_nat {α : Type} (f : α → Nat) : ∀ l : List α, (l.map fun a => ((f a : Nat) : Int)).sum = ((l.map f).sum : Nat)
  | [] => rfl
  | a :: l => by
    rw [List.map_cons, List.map_cons, List.sum_cons, List.sum_cons, sum_nat f l]
    simp
def f_product : FSpec := ⟨"product", [.val, .val, .val], false, fun xs => ∃ (q : Nat) (a b : List Nat), xs = [.int q, sw a, sw b] ∧ 2 ≤ q ∧ q ≤ 3 ∧ Sg q a ∧ Sg q b ∧ a.length = b.length ∧ a.length ≤ 1000,
  fun xs r yss => ∀ (q : Nat) (a b : List Nat), xs = [.int q, sw a, sw b] → r = .int (dotW a b % q : Nat) ∧ yss = []⟩
/-! product: 0 q, 1 one, 2 other, 3 left, 4 right -/
def t_product : VS := (tSCons (tRetV (vT (tBin .mod (vT (tBlt .sum (tACons (vT (tLcV (.two 3 4) (tZipS (tvar 1) (tvar 2)) tYesV (vT (tBin .mul (vT (tBlt .int (tACons (tvar 3) tANil))) (vT (tBlt .int (tACons (tvar 4) tANil))))))) tANil))) (tvar 0))))
    tSNil)
theorem plain_product : Plain f_product 5 t_product := by
  rintro xs ρ ⟨q, a, b, rfl, hq2, hq3, ga, gb, hl, hz⟩ hi
  cases hi
  refine ⟨asc_wd (by omega) ga, asc_wd (by omega) gb, rfl, rfl, ?_⟩
  refine lc_map (fun p : Nat × Nat => [sw [p.1], sw [p.2]]) (fun p => PyData.int ((p.1 * p.2 : Nat) : Int)) (a.zip b) (zipSD_wd a b) guard_nil (fun p hp => ?_) (sz_le (by rw [List.length_zip]; omega)) ?_
  · obtain ⟨h1, h2⟩ := List.of_mem_zip hp
    have h1 := ga _ h1
    have h2 := gb _ h2
    refine ⟨_, rfl, rfl, fun K k => ⟨_, int_sign (by omega), by rw [wd_len]; simp, _, int_sign (by omega), by rw [wd_len]; simp, mul_l ⟨by omega, by omega⟩, ?_⟩⟩
    rw [show ((p.1 : Nat) : Int) * ((p.2 : Nat) : Int) = ((p.1 * p.2 : Nat) : Int) from rfl]
    exact k
  · refine ⟨(a.zip b).map fun p => ((p.1 * p.2 : Nat) : Int), by rw [List.map_map]; rfl, by omega, ?_⟩
    rw [sum_nat (fun p : Nat × Nat => p.1 * p.2)]
    refine ⟨[], fun q' a' b' e => ?_, .nil⟩
    have e4 : (q : Int) = q' ∧ sw a = sw a' ∧ sw b = sw b' := by simpa using e
    have e5 : q = q' := by omega
    subst e5
    cases sw_inj e4.2.1
    cases sw_inj e4.2.2
    exact ⟨rfl, rfl⟩
def offB (q : Nat) (w o : List Nat) : Bool := !decide (dotW w o % q = 0)
def chkB (q : Nat) (ws : List (List Nat)) (w : List Nat) : Bool := !(ws.any fun o => offB q w o)
def chkL (q n : Nat) (ws : List (List Nat)) : List (List Nat) := (allL q n).filter (chkB q ws)
def chkS (nm : Str) : FSpec := ⟨nm, [.val, .val, .ro], true, fun xs => ∃ (q n : Nat) (ws : List (List Nat)), xs = [.int q, .int n, .list (ws.map sw)] ∧ szOk q n ∧ Wds q n ws ∧ ws.length ≤ 10000,
  fun xs r yss => ∀ (q n : Nat) (ws : List (List Nat)), xs = [.int q, .int n, .list (ws.map sw)] → r = .list ((chkL q n ws).map sw) ∧ yss = []⟩
def f_checked : FSpec := chkS "checked"
/-! checked: 0 q, 1 n, 2 words, 3 word, 4 one -/
def t_checked : VS := (tSCons (tRetN (tLcV (.one 3) (tIt (vT (tCallF f_all_words (tACons (tvar 0) (tACons (tvar 1) tANil))))) (cOf (vT (tNt (vT (tBlt .any (tACons (vT (tLcV (.one 4) (tIt (tvar 2)) tYesV (vT (tCmp .ne (vT (tCallF f_product (tACons (tvar 0) (tACons (tvar 3) (tACons (tvar 4) tANil))))) (vT (tcon (.int 0))))))) tANil)))))) (tvar 3)))
    tSNil)
theorem off_bools {q : Nat} {ws : List (List Nat)} {w : List Nat} : (ws.map fun o => PyData.bool (offB q w o)) = (ws.map fun o => offB q w o).map PyData.bool := by
  rw [List.map_map]
  rfl
theorem chk_end {q n : Nat} {ws : List (List Nat)} {nm : Str} : (chkS nm).post [.int q, .int n, .list (ws.map sw)] (.list ((chkL q n ws).map sw)) [] := fun q' n' ws' e => by
  have e1 : (q : Int) = q' ∧ (n : Int) = n' ∧ ws.map sw = ws'.map sw := by simpa using e
  obtain ⟨e2, e3, e4⟩ := e1
  have e2 : q = q' := by omega
  have e3 : n = n' := by omega
  subst e2 e3
  cases sws_inj e4
  exact ⟨rfl, rfl⟩
theorem plain_checked : Plain f_checked 5 t_checked := by
  rintro xs ρ ⟨q, n, ws, rfl, hs, hw, hl⟩ hi
  cases hi
  have hq2 := hs.q2
  have hq3 := hs.q3
  have hn8 := hs.n8
  have hal := allL_len q n
  have hp := pow_le hs
  refine ⟨rfl, ⟨q, n, rfl, hs⟩, fun r y h => ?_⟩
  obtain ⟨rfl, rfl⟩ := h q n rfl
  refine ⟨rfl, rfl, ?_⟩
  refine lc_go (fun w => [sw w]) (chkB q ws) sw guard_nil (allL q n) (its_sws _) (fun w hwm => ?_) (sz_le (by simp; omega)) ?_
  · have hww := mem_allL.mp hwm
    refine ⟨_, rfl, rfl, fun K k => ⟨rfl, rfl, ?_⟩, fun _ K k => k⟩
    refine lc_map (fun w => [sw w]) (fun o => PyData.bool (offB q w o)) ws (its_sws _) (guard_one rfl) (fun o ho => ?_) (sz_le (by omega)) ?_
    · have hoo := hw o ho
      refine ⟨_, rfl, rfl, fun K k => ⟨rfl, ⟨q, w, o, rfl, hq2, hq3, hww.2, hoo.2, by rw [hww.1, hoo.1], by rw [hww.1]; omega⟩, fun r y h => ?_⟩⟩
      obtain ⟨rfl, rfl⟩ := h q w o rfl
      refine ⟨rfl, ?_⟩
      rw [eqv_int]
      have e : offB q w o = !decide (((dotW w o % q : Nat) : Int) = 0) := by
        unfold offB
        congr 1
        simp only [decide_eq_decide]
        omega
      rw [e] at k
      exact k
    · refine ⟨_, off_bools, ?_⟩
      have e : chkB q ws w = !(List.map (fun o => offB q w o) ws).any id := by
        unfold chkB
        rw [List.any_map]
        rfl
      rw [e] at k
      exact k
  · exact ⟨[], chk_end, .nil⟩
end WA

/-! WP4: counts. -/
namespace WA
open PySem PySem.Spec PyProof.Rows L2
def ni (x : Nat) : D := .int (x : Nat)
theorem nis (l : List Nat) : l.map ni = (l.map fun x : Nat => (x : Int)).map PyData.int := by
  rw [List.map_map]
  rfl
theorem okD_nis {l : List Nat} : ∀ x ∈ l.map ni, okD x = true := fun x hx => by
  obtain ⟨i, _, rfl⟩ := List.mem_map.mp hx
  rfl
theorem eqv_ni (a b : Nat) : PyData.eqv (ni a) (ni b) = decide (a = b) := by
  unfold ni
  rw [eqv_int]
  by_cases e : a = b
  · simp [e]
  · have : ¬ (a : Int) = (b : Int) := by omega
    simp [e, this]
theorem eqv_nis (a b : List Nat) : PyData.eqv (.list (a.map ni)) (.list (b.map ni)) = decide (a = b) := eqvAll_map eqv_ni a b
/-- the distances of all ordered pairs -/
def pairsH (ws vs : List (List Nat)) : List Nat := ws.flatMap fun a => vs.map fun b => ham a b
/-- how often each -/
def cn (n : Nat) (l : List Nat) : List Nat := (List.range (n + 1)).map fun i => l.count i
def cntL (n : Nat) (ws : List (List Nat)) : List Nat := cn n (pairsH ws ws)
theorem cn_len (n : Nat) (l : List Nat) : (cn n l).length = n + 1 := by simp [cn]
theorem cn_at {n x : Nat} (l : List Nat) (h : x ≤ n) : ((cn n l).map ni)[x]? = some (ni (l.count x)) := by
  unfold cn
  rw [List.getElem?_map, List.getElem?_map, List.getElem?_range (by omega)]
  rfl
theorem cn_set {n x : Nat} (l : List Nat) (h : x ≤ n) : ((cn n l).map ni).set x (.int ((l.count x : Nat) + 1 : Int)) = (cn n (l ++ [x])).map ni := by
  have e : (PyData.int ((l.count x : Nat) + 1 : Int)) = ni (l.count x + 1) := rfl
  rw [e, ← List.map_set]
  congr 1
  refine List.ext_getElem? fun i => ?_
  unfold cn
  by_cases hi : i < n + 1
  · rw [List.getElem?_map, List.getElem?_range hi]
    by_cases hx : i = x
    · subst hx
      rw [List.getElem?_set_self (by simp; omega)]
      simp [List.count_append]
    · rw [List.getElem?_set_ne (fun z => hx z.symm), List.getElem?_map, List.getElem?_range hi]
      simp [List.count_append, List.count_singleton]
      omega
  · rw [List.getElem?_eq_none (by simp; omega), List.getElem?_eq_none (by simp; omega)]
theorem cntL_rev (n : Nat) (ws : List (List Nat)) : cntL n ws.reverse = cntL n ws := by
  unfold cntL cn
  refine List.map_congr_left fun i _ => ?_
  unfold pairsH
  rw [List.count_flatMap, List.count_flatMap, ((List.reverse_perm ws).map _).sum_nat]
  congr 1
  refine List.map_congr_left fun a _ => ?_
  exact ((List.reverse_perm ws).map _).count_eq i
def cntS (nm : Str) : FSpec := ⟨nm, [.val, .ro], true, fun xs => ∃ (n : Nat) (ws : List (List Nat)), xs = [.int n, .list (ws.map sw)] ∧ Len n ws ∧ n ≤ 100 ∧ ws.length ≤ 300, fun xs r yss => ∀ (n : Nat) (ws : List (List Nat)), xs = [.int n, .list (ws.map sw)] → r = .list ((cntL n ws).map ni) ∧ yss = []⟩
def f_counts : FSpec := cntS "counts"
/-! counts: 0 n, 1 words, 2 found, 3 word, 4 other, 5 i -/
def t_counts : VS := (tSCons (tAsgO 2 (tLcV (.one 5) (tRng1 (vT (tBin .add (tvar 0) (vT (tcon (.int 1)))))) tYesV (vT (tcon (.int 0)))))
    (tSCons (tFor [1] (.one 3) (tIt (tvar 1)) (tSCons (tFor [1] (.one 4) (tIt (tvar 1)) (tSCons (tAugIx .add 2 (vT (tCallF f_distance (tACons (tvar 3) (tACons (tvar 4) tANil)))) (vT (tcon (.int 1))))
    tSNil))
    tSNil))
    (tSCons (tRetO [] 2)
    tSNil)))
theorem cn_nil (n : Nat) : (List.range (n + 1)).map (fun _ => PyData.int 0) = (cn n []).map ni := by
  unfold cn
  rw [List.map_map]
  rfl
theorem plain_counts : Plain f_counts 6 t_counts := by
  rintro xs ρ ⟨n, ws, rfl, hL, hn, hz⟩ hi
  cases hi
  refine ⟨by omega, by omega, rfl, rfl, ?_⟩
  refine lc_map (fun i : Nat => [PyData.int (i : Nat)]) (fun _ => .int 0) (List.range (n + 1)) (rng0 (n + 1)) guard_nil (fun k hk => ⟨_, rfl, rfl, fun K k => k⟩) (sz_le (by simp; omega)) ?_
  rw [cn_nil]
  refine ⟨rfl, ?_⟩
  refine for_all (fun w => [sw w]) ws (fun p ρ => ∃ s3 s4, ρ = [.v (.int n), .ro false (ws.map sw), .own ((cn n (pairsH p ws)).map ni), s3, s4, .no]) (its_sws ws) ⟨_, _, rfl⟩ (fun p ρ h => ?_) (fun p a r ρ K he hI hK => ?_) (fun ρ hI => ?_)
  · obtain ⟨s3, s4, rfl⟩ := h
    exact guard_one rfl
  · obtain ⟨s3, s4, rfl⟩ := hI
    have ha : a ∈ ws := by rw [he]; simp
    refine ⟨_, rfl, rfl, ?_⟩
    refine for_all (fun w => [sw w]) ws (fun m ρ => ∃ s4, ρ = [.v (.int n), .ro false (ws.map sw), .own ((cn n (pairsH p ws ++ m.map fun b => ham a b)).map ni), .v (sw a), s4, .no]) (its_sws ws) ⟨s4, by simp⟩ (fun p ρ h => ?_) (fun m b r' ρ K' he' hI' hK' => ?_) (fun ρ hI' => ?_)
    · obtain ⟨s4, rfl⟩ := h
      exact guard_one rfl
    · obtain ⟨s4, rfl⟩ := hI'
      have hb : b ∈ ws := by rw [he']; simp
      have hle : ham a b ≤ n := by
        have := ham_le a b
        rw [hL a ha] at this
        exact this
      refine ⟨_, rfl, ⟨_, rfl⟩, rfl, ⟨a, b, rfl, by rw [hL a ha, hL b hb], by rw [hL a ha]; omega⟩, fun r y h => ?_⟩
      obtain ⟨rfl, rfl⟩ := h a b rfl
      refine ⟨ham a b, _, ?_, cn_at _ hle, rfl, ?_⟩
      · rw [List.length_map, cn_len]
        exact ixN_at (by omega) (by omega)
      · show K' [_, _, .own (((cn n (pairsH p ws ++ m.map fun b => ham a b)).map ni).set (ham a b) (.int ((List.count (ham a b) (pairsH p ws ++ m.map fun b => ham a b) : Nat) + 1 : Int))), _, _, _]
        rw [cn_set _ hle, List.append_assoc, show [ham a b] = List.map (fun b => ham a b) [b] from rfl, ← List.map_append]
        exact hK' _ ⟨_, rfl⟩
    · obtain ⟨s4, rfl⟩ := hI'
      rw [show pairsH (p ++ [a]) ws = pairsH p ws ++ ws.map fun b => ham a b by unfold pairsH; simp] at hK
      exact hK _ ⟨_, _, rfl⟩
  · obtain ⟨s3, s4, rfl⟩ := hI
    refine ⟨rfl, [], fun n' ws' e => ?_, .nil⟩
    have e1 : (n : Int) = n' ∧ ws.map sw = ws'.map sw := by simpa using e
    obtain ⟨e2, e3⟩ := e1
    have e2 : n = n' := by omega
    subst e2
    cases sws_inj e3
    exact ⟨rfl, rfl⟩
end WA

/-! WP9: the makings, the laws' gaps. -/
namespace WA
open PySem PySem.Spec PyProof.Rows L2
theorem gapsA_len : ∀ (r p : List (List Nat)), (gapsA p r).length ≤ r.length * (p.length + r.length)
  | [], _ => Nat.zero_le _
  | w :: r, p => by
    show (p.map (ham w) ++ gapsA (p ++ [w]) r).length ≤ _
    have ih := gapsA_len r (p ++ [w])
    rw [List.length_append, List.length_map]
    simp only [List.length_append, List.length_cons, List.length_nil] at ih ⊢
    have e : p.length + 1 + r.length = p.length + (r.length + 1) := by omega
    rw [Nat.zero_add, e] at ih
    rw [Nat.add_mul]
    omega
theorem gapsL_len (ws : List (List Nat)) : (gapsL ws).length ≤ ws.length * ws.length := by
  have := gapsA_len ws []
  show (gapsA [] ws).length ≤ _
  simpa using this
def f__law_gaps : FSpec := ⟨"_law_gaps", [.ro], true, fun xs => ∃ (n : Nat) (ws : List (List Nat)), xs = [.list (ws.map sw)] ∧ Len n ws ∧ n ≤ 1000 ∧ ws.length ≤ 300, fun xs r yss => ∀ ws : List (List Nat), xs = [.list (ws.map sw)] → r = .list ((gapsL ws).map ni) ∧ yss = []⟩
/-! _law_gaps: 0 _law_words, 1 _law_found, 2 _law_k, 3 _law_j -/
def t__law_gaps : VS := (tSCons (tAsgO 1 (tLstD tANil))
    (tSCons (tFor [] (.one 2) (tRng1 (vT (tBlt .len (tACons (tvar 0) tANil)))) (tSCons (tAsgO 1 (tCat (tvar 1) (vT (tLcV (.one 3) (tRng1 (tvar 2)) tYesV (vT (tCallF f__law_far (tACons (vT (tIx (tvar 0) (tvar 2))) (tACons (vT (tIx (tvar 0) (tvar 3))) tANil))))))))
    tSNil))
    (tSCons (tRetO [] 1)
    tSNil)))
theorem plain__law_gaps : Plain f__law_gaps 4 t__law_gaps := by
  rintro xs ρ ⟨n, ws, rfl, hL, hn, hz⟩ hi
  cases hi
  have hlen : ((ws.map sw).length : Int) = (ws.length : Nat) := by rw [List.length_map]
  refine ⟨by decide, by rw [hlen]; omega, by rw [hlen]; omega, rfl, ?_⟩
  rw [hlen]
  refine for_rng0 (fun k ρ => ∃ s2, ρ = [.ro false (ws.map sw), .own ((gapsL (ws.take k)).map ni), s2, .no]) ⟨.no, rfl⟩ (fun _ _ _ => guard_nil) (fun k ρ K hk hI hK => ?_) (fun ρ hI => ?_)
  · obtain ⟨s2, rfl⟩ := hI
    have hg := gapsL_len (ws.take k)
    rw [List.length_take, Nat.min_eq_left (by omega)] at hg
    have hkk : k * k ≤ 300 * 300 := Nat.mul_le_mul (by omega) (by omega)
    refine ⟨_, rfl, by omega, by omega, rfl, rfl, ?_⟩
    refine lc_map (fun i : Nat => [PyData.int (i : Nat)]) (fun j => ni (ham (ws.getD k []) (ws.getD j []))) (List.range k) (rng0 k) guard_nil (fun j hj => ?_) (sz_le (by simp; omega)) ?_
    · have hj := List.mem_range.mp hj
      have a1 : atI (ws.map sw) (k : Int) = some (sw (ws.getD k [])) := atI_nat (by rw [List.getElem?_map, List.getElem?_eq_getElem hk, List.getD_eq_getElem?_getD, List.getElem?_eq_getElem hk]; rfl)
      have hj' : j < ws.length := by omega
      have a2 : atI (ws.map sw) (j : Int) = some (sw (ws.getD j [])) := atI_nat (by rw [List.getElem?_map, List.getElem?_eq_getElem hj', List.getD_eq_getElem?_getD, List.getElem?_eq_getElem hj']; rfl)
      refine ⟨_, rfl, rfl, fun K2 k2 => ⟨_, a1, _, a2, rfl, ⟨_, _, rfl, by rw [hL _ (getD_mem hk), hL _ (getD_mem hj')], by rw [hL _ (getD_mem hk)]; exact hn⟩, fun r yss h => ?_⟩⟩
      obtain ⟨rfl, rfl⟩ := h _ _ rfl
      exact k2
    · refine ⟨rfl, rfl, ?_, ?_⟩
      · simp only [List.length_map, List.length_range]
        exact sz_le (by omega)
      · have e : (gapsL (ws.take k)).map ni ++ (List.range k).map (fun j => ni (ham (ws.getD k []) (ws.getD j []))) = (gapsL (ws.take (k + 1))).map ni := by
          rw [take_succ_getD hk, gapsL_snoc, List.map_append, List.map_map]
          congr 1
          rw [show ws.take k = (List.range k).map fun j => ws.getD j [] from ?_, List.map_map]
          · rfl
          · refine List.ext_getElem? fun i => ?_
            rw [List.getElem?_map]
            by_cases hi : i < k
            · rw [List.getElem?_range hi, List.getElem?_take_of_lt hi, List.getElem?_eq_getElem (by omega : i < ws.length)]
              simp [List.getD_eq_getElem?_getD, List.getElem?_eq_getElem (by omega : i < ws.length)]
            · rw [List.getElem?_eq_none (by rw [List.length_take]; omega), List.getElem?_eq_none (by rw [List.length_range]; omega)]
              rfl
        rw [← e] at hK
        exact hK _ ⟨_, rfl⟩
  · obtain ⟨s2, rfl⟩ := hI
    refine ⟨rfl, [], fun ws' e => ?_, .nil⟩
    have e : ws.map sw = ws'.map sw := by simpa using e
    cases sws_inj e
    rw [List.take_length]
    exact ⟨rfl, rfl⟩
def longW (q : Nat) (w : List Nat) : List Nat := w ++ [((0 - sumI w) % (q : Int)).toNat]
theorem rest_lt {q : Nat} {x : Int} (h : 0 < q) : (x % (q : Int)).toNat < q ∧ ((x % (q : Int)).toNat : Int) = x % (q : Int) := by
  have h0 := Int.emod_nonneg x (show (q : Int) ≠ 0 by omega)
  have h1 := Int.emod_lt_of_pos x (show (0 : Int) < q by omega)
  omega
theorem longW_wd {q n : Nat} {w : List Nat} (hq : 0 < q) (h : Wd q n w) : Wd q (n + 1) (longW q w) := ⟨by simp [longW, h.1], h.2.app (.one (rest_lt hq).1)⟩
def f_longer : FSpec := ⟨"longer", [.val, .ro], true, fun xs => ∃ (q n : Nat) (ws : List (List Nat)), xs = [.int q, .list (ws.map sw)] ∧ 2 ≤ q ∧ q ≤ 3 ∧ Wds q n ws ∧ n ≤ 100 ∧ ws.length ≤ 10000, fun xs r yss => ∀ (q : Nat) (ws : List (List Nat)), xs = [.int q, .list (ws.map sw)] → r = .list ((srtL (ws.map (longW q))).map sw) ∧ yss = []⟩
/-! longer: 0 q, 1 words, 2 word, 3 sign -/
def t_longer : VS := (tSCons (tRetN (tSrt (vT (tLcV (.one 2) (tIt (tvar 1)) tYesV (vT (tBin .add (tvar 2) (vT (tBlt .str (tACons (vT (tBin .mod (vT (tBin .sub (vT (tcon (.int 0))) (vT (tBlt .sum (tACons (vT (tLcV (.one 3) (tItS (tvar 2)) tYesV (vT (tBlt .int (tACons (tvar 3) tANil))))) tANil))))) (tvar 0))) tANil)))))))))
    tSNil)
theorem plain_longer : Plain f_longer 4 t_longer := by
  rintro xs ρ ⟨q, n, ws, rfl, hq2, hq3, hw, hn, hl⟩ hi
  cases hi
  refine ⟨rfl, rfl, ?_⟩
  refine lc_map (fun w => [sw w]) (fun w => sw (longW q w)) ws (its_sws ws) (guard_one rfl) (fun w hww => ?_) (sz_le (by omega)) ?_
  · have hwd := hw w hww
    refine ⟨_, rfl, rfl, fun K k => ⟨rfl, rfl, ?_⟩⟩
    refine lc_map (fun s => [sw [s]]) (fun s => .int (s : Nat)) w (its_wd w) guard_nil (fun s hs' => ?_) (sz_le (by rw [hwd.1]; omega)) ?_
    · have := hwd.2 s hs'
      exact ⟨_, rfl, rfl, fun K k => ⟨_, int_sign (by omega), by rw [wd_len]; simp, k⟩⟩
    · refine ⟨w.map fun s : Nat => (s : Int), by rw [List.map_map]; rfl, by omega, ?_⟩
      have hr := rest_lt (q := q) (x := 0 - sumI w) (by omega)
      show _ < 1920 ∧ _ ≤ sizeLine ∧ K (.val (.str (wd w ++ ((toString ((0 - sumI w) % (q : Int)) : String) : Str)))) _
      rw [show ((0 : Int) - (w.map fun s : Nat => (s : Int)).sum) % (q : Int) = (0 - sumI w) % (q : Int) from rfl, ← hr.2, sign_str (by omega), wd_app]
      exact ⟨sign_log (by omega), wd_fit (by simp only [List.length_singleton]; rw [hwd.1]; omega), k⟩
  · refine ⟨(ws.map (longW q)).map wd, by rw [← sws_eq, List.map_map]; rfl, ?_⟩
    rw [srt_sws]
    refine ⟨[], fun q' ws' e => ?_, .nil⟩
    have e1 : (q : Int) = q' ∧ ws.map sw = ws'.map sw := by simpa using e
    obtain ⟨e2, e3⟩ := e1
    have e2 : q = q' := by omega
    subst e2
    cases sws_inj e3
    exact ⟨rfl, rfl⟩

def f_cut : FSpec := ⟨"cut", [.ro], true, fun xs => ∃ (n : Nat) (ws : List (List Nat)), xs = [.list (ws.map sw)] ∧ Len n ws ∧ n ≤ 1000 ∧ ws.length ≤ 10000, fun xs r yss => ∀ (ws : List (List Nat)), xs = [.list (ws.map sw)] → r = .list ((srtL (ws.map fun w => w.drop 1)).map sw) ∧ yss = []⟩
/-! cut: 0 words, 1 word -/
def t_cut : VS := (tSCons (tRetN (tSrt (vT (tLcV (.one 1) (tIt (tvar 0)) tYesV (vT (tSlS (tvar 1) (tOSo (vT (tcon (.int 1)))) tONo))))))
    tSNil)
theorem plain_cut : Plain f_cut 2 t_cut := by
  rintro xs ρ ⟨n, ws, rfl, hw, hn, hl⟩ hi
  cases hi
  refine ⟨rfl, rfl, ?_⟩
  refine lc_map (fun w => [sw w]) (fun w => sw (w.drop 1)) ws (its_sws ws) (guard_one rfl) (fun w hww => ?_) (sz_le (by omega)) ?_
  · refine ⟨_, rfl, rfl, fun K k => ⟨wd_small (by rw [hw w hww]; omega), ?_⟩⟩
    show K (.val (.str (cutS (wd w) (some ((1 : Nat) : Int)) none))) _
    rw [cutS_from]
    exact k
  · refine ⟨(ws.map fun w => w.drop 1).map wd, by rw [← sws_eq, List.map_map]; rfl, ?_⟩
    rw [srt_sws]
    refine ⟨[], fun ws' e => ?_, .nil⟩
    have e1 : ws.map sw = ws'.map sw := by simpa using e
    cases sws_inj e1
    exact ⟨rfl, rfl⟩
def rowW (ws : List (List Nat)) (s : Nat) : List (List Nat) := (ws.filter fun w => decide (w.headD 0 = s)).map fun w => w.drop 1
def bestS (b r : List (List Nat)) : List (List Nat) := if b.length < r.length then r else b
def bestL (q : Nat) (ws : List (List Nat)) : List (List Nat) := ((List.range q).map (rowW ws)).foldl bestS (rowW ws 0)
def rwD (ws : List (List Nat)) : D := .list (ws.map sw)
def f_shorter : FSpec := ⟨"shorter", [.val, .ro], true, fun xs => ∃ (q n : Nat) (ws : List (List Nat)), xs = [.int q, .list (ws.map sw)] ∧ 2 ≤ q ∧ q ≤ 3 ∧ Wds q n ws ∧ 1 ≤ n ∧ n ≤ 100 ∧ ws.length ≤ 10000, fun xs r yss => ∀ (q : Nat) (ws : List (List Nat)), xs = [.int q, .list (ws.map sw)] → r = .list ((srtL (bestL q ws)).map sw) ∧ yss = []⟩
/-! shorter: 0 q, 1 words, 2 rows, 3 best, 4 row, 5 sign, 6 word -/
def t_shorter : VS := (tSCons (tAsgV 2 (vT (tLcV (.one 5) (tRng1 (tvar 0)) tYesV (vT (tLcV (.one 6) (tIt (tvar 1)) (cOf (vT (tCmp .eq (vT (tIx (tvar 6) (vT (tcon (.int 0))))) (vT (tBlt .str (tACons (tvar 5) tANil)))))) (vT (tSlS (tvar 6) (tOSo (vT (tcon (.int 1)))) tONo)))))))
    (tSCons (tAsgV 3 (vT (tIx (tvar 2) (vT (tcon (.int 0))))))
    (tSCons (tFor [] (.one 4) (tIt (tvar 2)) (tSCons (tIf (cOf (vT (tCmp .gt (vT (tBlt .len (tACons (tvar 4) tANil))) (vT (tBlt .len (tACons (tvar 3) tANil)))))) (tSCons (tMv false [] 3 4)
    tSNil) tSNil)
    tSNil))
    (tSCons (tRetN (tSrt (tvar 3)))
    tSNil))))
theorem plain_shorter : Plain f_shorter 7 t_shorter := by
  rintro xs ρ ⟨q, n, ws, rfl, hq2, hq3, hw, hn1, hn, hl⟩ hi
  cases hi
  refine ⟨by omega, by omega, rfl, rfl, ?_⟩
  refine lc_map (fun i : Nat => [PyData.int (i : Nat)]) (fun s => rwD (rowW ws s)) (List.range q) (rng0 _) guard_nil (fun s hs => ?_) (sz_le (by simp; omega)) ?_
  · have hs := List.mem_range.mp hs
    refine ⟨_, rfl, rfl, fun K k => ⟨rfl, rfl, ?_⟩⟩
    refine lc_go (fun w => [sw w]) (fun w => decide (w.headD 0 = s)) (fun w => sw (w.drop 1)) (guard_one rfl) ws (its_sws _) (fun w hww => ?_) (sz_le (by simp; omega)) ?_
    · have hwd := hw w hww
      have hwl := hwd.1
      have h0 : 0 < w.length := by omega
      have hs0 := hwd.2 _ (List.getElem_mem h0)
      refine ⟨_, rfl, rfl, fun K k => ⟨_, at_wd h0, wd_small (by omega), sign_log (by omega), rfl, ?_⟩, fun _ K k => ⟨wd_small (by omega), ?_⟩⟩
      · have e : decide (w.headD 0 = s) = PyData.eqv (sw [w[0]]) (sw [s]) := by
          rw [eqv_sw]
          cases w with
          | nil => exact absurd h0 (by simp)
          | cons a w => simp
        rw [e] at k
        show K (PyData.eqv (sw [w[0]]) (.str (Str.ofString (toString ((s : Nat) : Int))))) _
        rw [sign_str (by omega)]
        exact k
      · show K (.val (.str (cutS (wd w) (some ((1 : Nat) : Int)) none))) _
        rw [cutS_from]
        exact k
    · have e : [] ++ (ws.filter fun w => decide (w.headD 0 = s)).map (fun w => sw (w.drop 1)) = (rowW ws s).map sw := by
        unfold rowW
        rw [List.map_map, List.nil_append]
        rfl
      rw [e]
      exact k
  · have e0 : atI ((List.range q).map fun s => rwD (rowW ws s)) 0 = some (rwD (rowW ws 0)) := atI_nat (j := 0) (by rw [List.getElem?_map, List.getElem?_range (by omega)]; rfl)
    refine ⟨_, e0, rfl, ?_⟩
    refine for_all (fun r => [rwD r]) ((List.range q).map (rowW ws)) (fun p ρ => ∃ s4, ρ = [.v (.int q), .ro false (ws.map sw), .v (.list ((List.range q).map fun s => rwD (rowW ws s))), .v (rwD (p.foldl bestS (rowW ws 0))), s4, .no, .no]) (by rw [List.map_map, List.map_map]; rfl) ⟨.no, rfl⟩ (fun _ _ _ => guard_nil) (fun p r rr ρ K he hI hK => ?_) (fun ρ hI => ?_)
    · obtain ⟨s4, rfl⟩ := hI
      rw [List.foldl_append, List.foldl_cons, List.foldl_nil] at hK
      refine ⟨_, rfl, fun h => ?_, fun h => ?_⟩
      · have h := of_decide_eq_true h
        rw [List.length_map, List.length_map] at h
        have e : bestS (p.foldl bestS (rowW ws 0)) r = r := if_pos (by omega)
        rw [e] at hK
        exact hK _ ⟨_, rfl⟩
      · have h := of_decide_eq_false h
        rw [List.length_map, List.length_map] at h
        have e : bestS (p.foldl bestS (rowW ws 0)) r = p.foldl bestS (rowW ws 0) := if_neg (by omega)
        rw [e] at hK
        exact hK _ ⟨_, rfl⟩
    · obtain ⟨s4, rfl⟩ := hI
      refine ⟨(bestL q ws).map wd, by rw [← sws_eq]; rfl, ?_⟩
      rw [srt_sws]
      refine ⟨[], fun q' ws' e => ?_, .nil⟩
      have e1 : (q : Int) = q' ∧ ws.map sw = ws'.map sw := by simpa using e
      obtain ⟨e2, e3⟩ := e1
      have e2 : q = q' := by omega
      subst e2
      cases sws_inj e3
      exact ⟨rfl, rfl⟩
def besL (a b : List (List Nat)) : List (List Nat) := ((srtL a).zip (srtL b)).map fun p => p.1 ++ p.2
def f_beside : FSpec := ⟨"beside", [.ro, .ro], true, fun xs => ∃ (n m : Nat) (a b : List (List Nat)), xs = [.list (a.map sw), .list (b.map sw)] ∧ Len n a ∧ Len m b ∧ n ≤ 100 ∧ m ≤ 100 ∧ a.length ≤ 10000 ∧ b.length ≤ 10000, fun xs r yss => ∀ (a b : List (List Nat)), xs = [.list (a.map sw), .list (b.map sw)] → r = .list ((besL a b).map sw) ∧ yss = []⟩
/-! beside: 0 one, 1 other, 2 left, 3 right -/
def t_beside : VS := (tSCons (tRetN (tLcV (.two 2 3) (tZip (vT (tSrt (tvar 0))) (vT (tSrt (tvar 1)))) tYesV (vT (tBin .add (tvar 2) (tvar 3)))))
    tSNil)
theorem zip_sws (a b : List (List Nat)) : zipD (a.map sw) (b.map sw) = (a.zip b).map fun p => [sw p.1, sw p.2] := by
  unfold zipD
  rw [List.zip_map, List.map_map]
  rfl
theorem plain_beside : Plain f_beside 4 t_beside := by
  rintro xs ρ ⟨n, m, a, b, rfl, ha, hb, hn, hm, hla, hlb⟩ hi
  cases hi
  refine ⟨a.map wd, sws_eq a, ?_⟩
  rw [srt_sws]
  refine ⟨b.map wd, sws_eq b, ?_⟩
  rw [srt_sws]
  have hl := (srtL_perm a).length_eq
  refine ⟨rfl, rfl, ?_⟩
  refine lc_map (fun p : List Nat × List Nat => [sw p.1, sw p.2]) (fun p => sw (p.1 ++ p.2)) ((srtL a).zip (srtL b)) (zip_sws _ _) guard_nil (fun p hp => ?_) (sz_le (by rw [List.length_zip]; omega)) ?_
  · obtain ⟨h1, h2⟩ := List.of_mem_zip hp
    have h1 := ha _ (srtL_mem.mp h1)
    have h2 := hb _ (srtL_mem.mp h2)
    refine ⟨_, rfl, rfl, fun K k => ⟨wd_fit (by omega), ?_⟩⟩
    rw [wd_app]
    exact k
  · refine ⟨[], fun a' b' e => ?_, .nil⟩
    have e1 : a.map sw = a'.map sw ∧ b.map sw = b'.map sw := by simpa using e
    cases sws_inj e1.1
    cases sws_inj e1.2
    refine ⟨?_, rfl⟩
    unfold besL
    rw [List.map_map]
    rfl
def parL (a b : List (List Nat)) : List (List Nat) := a.flatMap fun l => b.map fun r => l ++ r
def f_pairs : FSpec := ⟨"pairs", [.ro, .ro], true, fun xs => ∃ (n m : Nat) (a b : List (List Nat)), xs = [.list (a.map sw), .list (b.map sw)] ∧ Len n a ∧ Len m b ∧ n ≤ 100 ∧ m ≤ 100 ∧ a.length ≤ 300 ∧ b.length ≤ 300, fun xs r yss => ∀ (a b : List (List Nat)), xs = [.list (a.map sw), .list (b.map sw)] → r = .list ((srtL (parL a b)).map sw) ∧ yss = []⟩
/-! pairs: 0 one, 1 other, 2 found, 3 left, 4 right -/
def t_pairs : VS := (tSCons (tAsgO 2 (tLstD tANil))
    (tSCons (tFor [0] (.one 3) (tIt (tvar 0)) (tSCons (tExp (vT (tXtd 2 (vT (tLcV (.one 4) (tIt (tvar 1)) tYesV (vT (tBin .add (tvar 3) (tvar 4))))))))
    tSNil))
    (tSCons (tRetN (tSrt (tvar 2)))
    tSNil)))
theorem flat_len {α β : Type} (f : α → List β) {k : Nat} : ∀ l : List α, (∀ x ∈ l, (f x).length = k) → (l.flatMap f).length = l.length * k
  | [], _ => by simp
  | x :: l, h => by
    rw [List.flatMap_cons, List.length_append, flat_len f l fun y hy => h y (List.mem_cons_of_mem _ hy), h x List.mem_cons_self, List.length_cons, Nat.add_mul]
    omega
theorem flat_snoc {α β : Type} (f : α → List β) (l : List α) (x : α) : (l ++ [x]).flatMap f = l.flatMap f ++ f x := by simp
theorem plain_pairs : Plain f_pairs 5 t_pairs := by
  rintro xs ρ ⟨n, m, a, b, rfl, ha, hb, hn, hm, hla, hlb⟩ hi
  cases hi
  refine ⟨sz_le (by simp), rfl, ?_⟩
  refine for_all (fun w => [sw w]) a (fun p ρ => ∃ s3, ρ = [.ro false (a.map sw), .ro false (b.map sw), .own ((parL p b).map sw), s3, .no]) (its_sws _) ⟨.no, rfl⟩ (fun _ _ h => by obtain ⟨_, rfl⟩ := h; exact guard_one rfl) (fun p w r ρ K he hI hK => ?_) (fun ρ hI => ?_)
  · obtain ⟨s3, rfl⟩ := hI
    have hwm : w ∈ a := by rw [he]; simp
    have hpl : p.length + 1 ≤ 300 := by
      have := congrArg List.length he
      simp at this
      omega
    have hfl : (parL p b).length = p.length * b.length := flat_len _ p fun x _ => by simp
    have hmul : p.length * b.length ≤ 300 * 300 := Nat.mul_le_mul (by omega) (by omega)
    have hsn : parL (p ++ [w]) b = parL p b ++ b.map fun r => w ++ r := flat_snoc _ _ _
    rw [hsn, List.map_append] at hK
    refine ⟨_, rfl, ⟨_, rfl⟩, rfl, rfl, ?_⟩
    refine lc_map (fun w => [sw w]) (fun r => sw (w ++ r)) b (its_sws _) (guard_one rfl) (fun o ho => ?_) (sz_le (by omega)) ?_
    · refine ⟨_, rfl, rfl, fun K k => ⟨wd_fit (by rw [ha w hwm, hb o ho]; omega), ?_⟩⟩
      rw [wd_app]
      exact k
    · rw [List.map_map] at hK
      refine ⟨rfl, sz_le (by rw [List.length_map, List.length_map]; omega), ?_⟩
      exact hK _ ⟨_, rfl⟩
  · obtain ⟨s3, rfl⟩ := hI
    refine ⟨(parL a b).map wd, sws_eq _, ?_⟩
    rw [srt_sws]
    refine ⟨[], fun a' b' e => ?_, .nil⟩
    have e1 : a.map sw = a'.map sw ∧ b.map sw = b'.map sw := by simpa using e
    cases sws_inj e1.1
    cases sws_inj e1.2
    exact ⟨rfl, rfl⟩
def sumL (q : Nat) (a b : List (List Nat)) : List (List Nat) := a.flatMap fun l => b.map fun r => l ++ plusW q l r
def f_sums : FSpec := ⟨"sums", [.val, .ro, .ro], true, fun xs => ∃ (q n : Nat) (a b : List (List Nat)), xs = [.int q, .list (a.map sw), .list (b.map sw)] ∧ 2 ≤ q ∧ q ≤ 3 ∧ Wds q n a ∧ Wds q n b ∧ n ≤ 100 ∧ a.length ≤ 300 ∧ b.length ≤ 300, fun xs r yss => ∀ (q : Nat) (a b : List (List Nat)), xs = [.int q, .list (a.map sw), .list (b.map sw)] → r = .list ((srtL (sumL q a b)).map sw) ∧ yss = []⟩
/-! sums: 0 q, 1 one, 2 other, 3 found, 4 left, 5 right -/
def t_sums : VS := (tSCons (tAsgO 3 (tLstD tANil))
    (tSCons (tFor [1] (.one 4) (tIt (tvar 1)) (tSCons (tExp (vT (tXtd 3 (vT (tLcV (.one 5) (tIt (tvar 2)) tYesV (vT (tBin .add (tvar 4) (vT (tCallF f_plus (tACons (tvar 0) (tACons (tvar 4) (tACons (tvar 5) tANil))))))))))))
    tSNil))
    (tSCons (tRetN (tSrt (tvar 3)))
    tSNil)))
theorem plain_sums : Plain f_sums 6 t_sums := by
  rintro xs ρ ⟨q, n, a, b, rfl, hq2, hq3, ha, hb, hn, hla, hlb⟩ hi
  cases hi
  refine ⟨sz_le (by simp), rfl, ?_⟩
  refine for_all (fun w => [sw w]) a (fun p ρ => ∃ s4, ρ = [.v (.int q), .ro false (a.map sw), .ro false (b.map sw), .own ((sumL q p b).map sw), s4, .no]) (its_sws _) ⟨.no, rfl⟩ (fun _ _ h => by obtain ⟨_, rfl⟩ := h; exact guard_one rfl) (fun p w r ρ K he hI hK => ?_) (fun ρ hI => ?_)
  · obtain ⟨s4, rfl⟩ := hI
    have hwm : w ∈ a := by rw [he]; simp
    have hwd := ha w hwm
    have hpl : p.length + 1 ≤ 300 := by
      have := congrArg List.length he
      simp at this
      omega
    have hfl : (sumL q p b).length = p.length * b.length := flat_len _ p fun x _ => by simp
    have hmul : p.length * b.length ≤ 300 * 300 := Nat.mul_le_mul (by omega) (by omega)
    have hsn : sumL q (p ++ [w]) b = sumL q p b ++ b.map fun r => w ++ plusW q w r := flat_snoc _ _ _
    rw [hsn, List.map_append] at hK
    refine ⟨_, rfl, ⟨_, rfl⟩, rfl, rfl, ?_⟩
    refine lc_map (fun w => [sw w]) (fun r => sw (w ++ plusW q w r)) b (its_sws _) (guard_one rfl) (fun o ho => ?_) (sz_le (by omega)) ?_
    · have hod := hb o ho
      have hwo : w.length = o.length := by rw [hwd.1, hod.1]
      refine ⟨_, rfl, rfl, fun K k => ⟨rfl, ⟨q, w, o, rfl, hq2, hq3, hwd.2, hod.2, hwo, by rw [hwd.1]; omega⟩, fun r y h => ?_⟩⟩
      obtain ⟨rfl, rfl⟩ := h q w o rfl
      refine ⟨wd_fit (by rw [plusW_len hwo, hwd.1]; omega), ?_⟩
      rw [wd_app]
      exact k
    · rw [List.map_map] at hK
      refine ⟨rfl, sz_le (by rw [List.length_map, List.length_map]; omega), ?_⟩
      exact hK _ ⟨_, rfl⟩
  · obtain ⟨s4, rfl⟩ := hI
    refine ⟨(sumL q a b).map wd, sws_eq _, ?_⟩
    rw [srt_sws]
    refine ⟨[], fun q' a' b' e => ?_, .nil⟩
    have e1 : (q : Int) = q' ∧ a.map sw = a'.map sw ∧ b.map sw = b'.map sw := by simpa using e
    have e2 : q = q' := by omega
    subst e2
    cases sws_inj e1.2.1
    cases sws_inj e1.2.2
    exact ⟨rfl, rfl⟩
end WA

/-! WP5: taken_on, in_order, heard, reach. -/
namespace WA
open PySem PySem.Spec PyProof.Rows L2
/-- far enough from all -/
def freeB (d : Int) (f : List (List Nat)) (w : List Nat) : Bool := !(f.any fun o => decide (((ham w o : Nat) : Int) < d))
def takeS (d : Int) (f : List (List Nat)) (w : List Nat) : List (List Nat) := if freeB d f w = true then f ++ [w] else f
def takeL (d : Int) (ws all : List (List Nat)) : List (List Nat) := all.foldl (takeS d) ws
theorem takeL_snoc (d : Int) (ws p : List (List Nat)) (w : List Nat) : takeL d ws (p ++ [w]) = takeS d (takeL d ws p) w := by
  unfold takeL
  rw [List.foldl_append]
  rfl
theorem takeL_sub (d : Int) : ∀ (all ws : List (List Nat)), (∀ x ∈ takeL d ws all, x ∈ ws ∨ x ∈ all) ∧ (∀ x ∈ ws, x ∈ takeL d ws all) ∧ (takeL d ws all).length ≤ ws.length + all.length
  | [], ws => ⟨fun x h => .inl h, fun x h => h, Nat.le_refl _⟩
  | a :: r, ws => by
    obtain ⟨h1, h2, h3⟩ := takeL_sub d r (takeS d ws a)
    have e : takeL d ws (a :: r) = takeL d (takeS d ws a) r := rfl
    have hs : (∀ x ∈ takeS d ws a, x ∈ ws ∨ x = a) ∧ (∀ x ∈ ws, x ∈ takeS d ws a) ∧ (takeS d ws a).length ≤ ws.length + 1 := by
      unfold takeS
      split
      · exact ⟨fun x h => by simpa using h, fun x h => List.mem_append_left _ h, by simp⟩
      · exact ⟨fun x h => .inl h, fun x h => h, by omega⟩
    rw [e]
    refine ⟨fun x hx => ?_, fun x hx => h2 x (hs.2.1 x hx), by have := hs.2.2; simp only [List.length_cons]; omega⟩
    rcases h1 x hx with z | z
    · rcases hs.1 x z with y | y
      · exact .inl y
      · exact .inr (by rw [y]; exact List.mem_cons_self)
    · exact .inr (List.mem_cons_of_mem _ z)
/-- what taken_on tells -/
def tOn (q n : Nat) (d : Int) (ws : List (List Nat)) : List (List Nat) := srtL (takeL d ws (allL q n))
theorem tOn_wds {q n : Nat} {d : Int} {ws : List (List Nat)} (h : Wds q n ws) : Wds q n (tOn q n d ws) := fun w hw => by
  rcases (takeL_sub d (allL q n) ws).1 w (srtL_mem.mp hw) with z | z
  · exact h w z
  · exact mem_allL.mp z
theorem tOn_len {q n : Nat} {d : Int} {ws : List (List Nat)} (hs : szOk q n) : (tOn q n d ws).length ≤ ws.length + 256 := by
  unfold tOn
  rw [srtL_len]
  have := (takeL_sub d (allL q n) ws).2.2
  have h1 := allL_len q n
  have h2 := pow_le hs
  omega
def takenS (nm : Str) : FSpec := ⟨nm, [.val, .val, .val, .ro], true,
  fun xs => ∃ (q n : Nat) (d : Int) (ws : List (List Nat)), xs = [.int q, .int n, .int d, .list (ws.map sw)] ∧ szOk q n ∧ Wds q n ws ∧ ws.length ≤ 1000,
  fun xs r yss => ∀ (q n : Nat) (d : Int) (ws : List (List Nat)), xs = [.int q, .int n, .int d, .list (ws.map sw)] → r = .list ((tOn q n d ws).map sw) ∧ yss = []⟩
def f_taken_on : FSpec := takenS "taken_on"
/-! taken_on: 0 q, 1 n, 2 d, 3 words, 4 found, 5 word, 6 one -/
def t_taken_on : VS := (tSCons (tAsgO 4 (tLs (tvar 3)))
    (tSCons (tFor [] (.one 5) (tIt (vT (tCallF f_all_words (tACons (tvar 0) (tACons (tvar 1) tANil))))) (tSCons (tIf (cOf (vT (tNt (vT (tBlt .any (tACons (vT (tLcV (.one 6) (tIt (tvar 4)) tYesV (vT (tCmp .lt (vT (tCallF f_distance (tACons (tvar 5) (tACons (tvar 6) tANil)))) (tvar 2))))) tANil)))))) (tSCons (tExp (vT (tApp 4 (tvar 5))))
    tSNil) tSNil)
    tSNil))
    (tSCons (tRetN (tSrt (tvar 4)))
    tSNil)))
theorem free_bools {d : Int} {f : List (List Nat)} {w : List Nat} : (f.map fun o => PyData.bool (decide (((ham w o : Nat) : Int) < d))) = (f.map fun o => decide (((ham w o : Nat) : Int) < d)).map PyData.bool := by
  rw [List.map_map]
  rfl
theorem plain_taken_on : Plain f_taken_on 7 t_taken_on := by
  rintro xs ρ ⟨q, n, d, ws, rfl, hs, hw, hl⟩ hi
  cases hi
  have hq3 := hs.q3
  have hn8 := hs.n8
  refine ⟨rfl, ⟨q, n, rfl, hs⟩, fun r y h => ?_⟩
  obtain ⟨rfl, rfl⟩ := h q n rfl
  have hal := allL_len q n
  have hp := pow_le hs
  refine ⟨rfl, ?_⟩
  refine for_all (fun w => [sw w]) (allL q n) (fun p ρ => p.length ≤ 256 ∧ (∀ x ∈ p, x ∈ allL q n) ∧ ∃ s5, ρ = [.v (.int q), .v (.int n), .v (.int d), .ro false (ws.map sw), .own ((takeL d ws p).map sw), s5, .no]) (its_sws _) ⟨by simp, fun _ h => absurd h (by simp), .no, rfl⟩ (fun _ _ _ => guard_nil) (fun p w r ρ K he hI hK => ?_) (fun ρ hI => ?_)
  · obtain ⟨hpl, hpm, s5, rfl⟩ := hI
    obtain ⟨t1, t2, t3⟩ := takeL_sub d p ws
    have hwm : w ∈ allL q n := by rw [he]; simp
    have hww := mem_allL.mp hwm
    have hpl' : p.length + 1 ≤ 256 := by
      have := congrArg List.length he
      simp at this
      omega
    have hpm' : ∀ x ∈ p ++ [w], x ∈ allL q n := fun x hx => by
      rcases List.mem_append.mp hx with z | z
      · exact hpm x z
      · rw [List.mem_singleton.mp z]; exact hwm
    have hf : Wds q n (takeL d ws p) := fun x hx => by
      rcases t1 x hx with z | z
      · exact hw x z
      · exact mem_allL.mp (hpm x z)
    rw [takeL_snoc] at hK
    refine ⟨_, rfl, rfl, rfl, ?_⟩
    refine lc_map (fun w => [sw w]) (fun o => PyData.bool (decide (((ham w o : Nat) : Int) < d))) (takeL d ws p) (its_sws _) (guard_one rfl) (fun o ho => ?_) (sz_le (by omega)) ?_
    · refine ⟨_, rfl, rfl, fun K k => ⟨rfl, ⟨w, o, rfl, by rw [hww.1, (hf o ho).1], by rw [hww.1]; omega⟩, fun r y h => ?_⟩⟩
      obtain ⟨rfl, rfl⟩ := h w o rfl
      exact k
    · refine ⟨_, free_bools, ?_⟩
      have e : (!(List.map (fun o => decide (((ham w o : Nat) : Int) < d)) (takeL d ws p)).any id) = freeB d (takeL d ws p) w := by
        unfold freeB
        rw [List.any_map]
        rfl
      show ((!(List.map (fun o => decide (((ham w o : Nat) : Int) < d)) (takeL d ws p)).any id) = true → _) ∧ ((!(List.map (fun o => decide (((ham w o : Nat) : Int) < d)) (takeL d ws p)).any id) = false → _)
      rw [e]
      refine ⟨fun hb => ?_, fun hb => ?_⟩
      · have e2 : takeS d (takeL d ws p) w = takeL d ws p ++ [w] := if_pos hb
        rw [e2] at hK
        refine ⟨⟨_, rfl⟩, sz_lt (by rw [List.length_map]; omega), ?_⟩
        show K [_, _, _, _, .own ((takeL d ws p).map sw ++ [sw w]), _, _]
        rw [snoc_sws]
        exact hK _ ⟨by simp; omega, hpm', _, rfl⟩
      · have e2 : takeS d (takeL d ws p) w = takeL d ws p := if_neg (by rw [hb]; exact Bool.false_ne_true)
        rw [e2] at hK
        exact hK _ ⟨by simp; omega, hpm', _, rfl⟩
  · obtain ⟨_, _, s5, rfl⟩ := hI
    refine ⟨(takeL d ws (allL q n)).map wd, sws_eq _, ?_⟩
    rw [srt_sws]
    refine ⟨[], fun q' n' d' ws' e => ?_, .nil⟩
    have e1 : (q : Int) = q' ∧ (n : Int) = n' ∧ d = d' ∧ ws.map sw = ws'.map sw := by simpa using e
    obtain ⟨e2, e3, rfl, e4⟩ := e1
    have e2 : q = q' := by omega
    have e3 : n = n' := by omega
    subst e2 e3
    cases sws_inj e4
    exact ⟨rfl, rfl⟩
def f_in_order : FSpec := ⟨"in_order", [.val, .val, .val], true, fun xs => ∃ (q n : Nat) (d : Int), xs = [.int q, .int n, .int d] ∧ szOk q n, fun xs r yss => ∀ (q n : Nat) (d : Int), xs = [.int q, .int n, .int d] → r = .list ((tOn q n d []).map sw) ∧ yss = []⟩
/-! in_order: 0 q, 1 n, 2 d -/
def t_in_order : VS := (tSCons (tRetN (tCallF f_taken_on (tACons (tvar 0) (tACons (tvar 1) (tACons (tvar 2) (tACons (vT (tLstD tANil)) tANil))))))
    tSNil)
theorem plain_in_order : Plain f_in_order 3 t_in_order := by
  rintro xs ρ ⟨q, n, d, rfl, hs⟩ hi
  cases hi
  refine ⟨by decide, rfl, ⟨q, n, d, [], rfl, hs, fun _ h => absurd h (by simp), by simp⟩, fun r y h => ?_⟩
  obtain ⟨rfl, rfl⟩ := h q n d [] rfl
  refine ⟨[], fun q' n' d' e => ?_, .nil⟩
  have e1 : (q : Int) = q' ∧ (n : Int) = n' ∧ d = d' := by simpa using e
  obtain ⟨e2, e3, rfl⟩ := e1
  have e2 : q = q' := by omega
  have e3 : n = n' := by omega
  subst e2 e3
  exact ⟨rfl, rfl⟩
/-- the least distance of a word from a list -/
def near (ws : List (List Nat)) (w : List Nat) : Nat := (minL (ws.map (ham w))).getD 0
theorem near_spec {ws : List (List Nat)} (h : ws ≠ []) (w : List Nat) : (∃ o ∈ ws, near ws w = ham w o) ∧ ∀ o ∈ ws, near ws w ≤ ham w o := by
  obtain ⟨k, e1, e2, e3⟩ := minL_some (l := ws.map (ham w)) (by simpa using h)
  have e : near ws w = k := by unfold near; rw [e1]; rfl
  rw [e]
  obtain ⟨o, ho, rfl⟩ := List.mem_map.mp e2
  exact ⟨⟨o, ho, rfl⟩, fun o' ho' => e3 _ (List.mem_map.mpr ⟨o', ho', rfl⟩)⟩
theorem near_eq {ws : List (List Nat)} {w : List Nat} {k : Nat} (h1 : ∃ o ∈ ws, k = ham w o) (h2 : ∀ o ∈ ws, k ≤ ham w o) : near ws w = k := by
  unfold near
  rw [minL_eq (l := ws.map (ham w)) (k := k) (by obtain ⟨o, ho, rfl⟩ := h1; exact List.mem_map.mpr ⟨o, ho, rfl⟩) (fun y hy => by obtain ⟨o, ho, rfl⟩ := List.mem_map.mp hy; exact h2 o ho)]
  rfl
def nearL (ws : List (List Nat)) (w : List Nat) : List (List Nat) := srtL (ws.filter fun o => decide (ham w o = near ws w))
def f_heard : FSpec := ⟨"heard", [.ro, .val], false, fun xs => ∃ (n : Nat) (ws : List (List Nat)) (w : List Nat), xs = [.list (ws.map sw), sw w] ∧ Len n ws ∧ w.length = n ∧ n ≤ 1000 ∧ ws ≠ [] ∧ ws.length ≤ 10000,
  fun xs r yss => ∀ (ws : List (List Nat)) (w : List Nat), xs = [.list (ws.map sw), sw w] → r = .tuple [.int (near ws w : Nat), .list ((nearL ws w).map sw)] ∧ yss = []⟩
/-! heard: 0 words, 1 word, 2 least, 3 one -/
def t_heard : VS := (tSCons (tAsgV 2 (vT (tBlt .min1 (tACons (vT (tLcV (.one 3) (tIt (tvar 0)) tYesV (vT (tCallF f_distance (tACons (tvar 1) (tACons (tvar 3) tANil)))))) tANil))))
    (tSCons (tRetV (vT (tTupD (tACons (tvar 2) (tACons (vT (tSrt (vT (tLcV (.one 3) (tIt (tvar 0)) (cOf (vT (tCmp .eq (vT (tCallF f_distance (tACons (tvar 1) (tACons (tvar 3) tANil)))) (tvar 2)))) (tvar 3))))) tANil)))))
    tSNil))
theorem plain_heard : Plain f_heard 4 t_heard := by
  rintro xs ρ ⟨n, ws, w, rfl, hL, hwl, hn, hne, hz⟩ hi
  cases hi
  refine ⟨rfl, rfl, ?_⟩
  refine lc_map (fun w => [sw w]) (fun o => .int (ham w o : Nat)) ws (its_sws _) (guard_one rfl) (fun o ho => ?_) (sz_le (by omega)) ?_
  · refine ⟨_, rfl, rfl, fun K k => ⟨rfl, ⟨w, o, rfl, by rw [hwl, hL o ho], by omega⟩, fun r y h => ?_⟩⟩
    obtain ⟨rfl, rfl⟩ := h w o rfl
    exact k
  refine ⟨ws.map fun o => (ham w o : Int), by rw [List.map_map]; rfl, by rw [List.length_map]; exact List.length_pos_iff.mpr hne, fun m h1 h2 => ?_⟩
  have hm : m = (near ws w : Nat) := by
    obtain ⟨o, ho, rfl⟩ := List.mem_map.mp h1
    have := near_eq (ws := ws) (w := w) (k := ham w o) ⟨o, ho, rfl⟩ fun o' ho' => by
      have := h2 _ (List.mem_map.mpr ⟨o', ho', rfl⟩)
      omega
    rw [this]
  subst hm
  refine ⟨rfl, rfl, ?_⟩
  refine lc_go (fun w => [sw w]) (fun o => decide (ham w o = near ws w)) sw (guard_one rfl) ws (its_sws _) (fun o ho => ?_) (sz_le (by simp; omega)) ?_
  · refine ⟨_, rfl, rfl, fun K k => ⟨rfl, ⟨w, o, rfl, by rw [hwl, hL o ho], by omega⟩, fun r y h => ?_⟩, fun _ K k => k⟩
    obtain ⟨rfl, rfl⟩ := h w o rfl
    refine ⟨rfl, ?_⟩
    have e : PyData.eqv (.int ((ham w o : Nat) : Int)) (.int ((near ws w : Nat) : Int)) = decide (ham w o = near ws w) := by
      rw [eqv_int]
      by_cases z : ham w o = near ws w
      · simp [z]
      · have : ¬ ((ham w o : Nat) : Int) = ((near ws w : Nat) : Int) := by omega
        simp [z, this]
    rw [e]
    exact k
  rw [List.nil_append]
  refine ⟨(ws.filter fun o => decide (ham w o = near ws w)).map wd, sws_eq _, ?_⟩
  rw [srt_sws]
  refine ⟨sz_le (by simp), [], fun ws' w' e => ?_, .nil⟩
  have e1 : ws.map sw = ws'.map sw ∧ sw w = sw w' := by simpa using e
  cases sws_inj e1.1
  cases sw_inj e1.2
  exact ⟨rfl, rfl⟩
/-- the greatest least distance -/
def IsReach (q n : Nat) (ws : List (List Nat)) (m : Nat) : Prop := (∃ w ∈ allL q n, m = near ws w) ∧ ∀ w ∈ allL q n, near ws w ≤ m
def f_reach : FSpec := ⟨"reach", [.val, .val, .ro], false, fun xs => ∃ (q n : Nat) (ws : List (List Nat)), xs = [.int q, .int n, .list (ws.map sw)] ∧ szOk q n ∧ Wds q n ws ∧ ws ≠ [] ∧ ws.length ≤ 10000,
  fun xs r yss => ∀ (q n : Nat) (ws : List (List Nat)), xs = [.int q, .int n, .list (ws.map sw)] → ∃ m : Nat, IsReach q n ws m ∧ r = .int (m : Nat) ∧ yss = []⟩
/-! reach: 0 q, 1 n, 2 words, 3 word -/
def t_reach : VS := (tSCons (tRetV (vT (tBlt .max1 (tACons (vT (tLcV (.one 3) (tIt (vT (tCallF f_all_words (tACons (tvar 0) (tACons (tvar 1) tANil))))) tYesV (vT (tIx (vT (tCallF f_heard (tACons (tvar 2) (tACons (tvar 3) tANil)))) (vT (tcon (.int 0))))))) tANil))))
    tSNil)
theorem allL_ne (q n : Nat) (h : 0 < q) : allL q n ≠ [] := by
  have := allL_len q n
  have h1 : 0 < q ^ n := Nat.pow_pos h
  exact fun z => by rw [z] at this; simp at this; omega
theorem plain_reach : Plain f_reach 4 t_reach := by
  rintro xs ρ ⟨q, n, ws, rfl, hs, hw, hne, hz⟩ hi
  cases hi
  have hn8 := hs.n8
  have hq2 := hs.q2
  refine ⟨rfl, ⟨q, n, rfl, hs⟩, fun r y h => ?_⟩
  obtain ⟨rfl, rfl⟩ := h q n rfl
  have hal := allL_len q n
  have hp := pow_le hs
  refine ⟨rfl, rfl, ?_⟩
  refine lc_map (fun w => [sw w]) (fun w => .int (near ws w : Nat)) (allL q n) (its_sws _) guard_nil (fun w hwm => ?_) (sz_le (by omega)) ?_
  · refine ⟨_, rfl, rfl, fun K k => ⟨rfl, ⟨n, ws, w, rfl, hw.len, (mem_allL.mp hwm).1, by omega, hne, hz⟩, fun r y h => ?_⟩⟩
    obtain ⟨rfl, rfl⟩ := h ws w rfl
    exact ⟨_, rfl, k⟩
  refine ⟨(allL q n).map fun w => (near ws w : Int), by rw [List.map_map]; rfl, by rw [List.length_map]; exact List.length_pos_iff.mpr (allL_ne q n (by omega)), fun m h1 h2 => ?_⟩
  obtain ⟨w, hwm, rfl⟩ := List.mem_map.mp h1
  refine ⟨[], fun q' n' ws' e => ?_, .nil⟩
  have e1 : (q : Int) = q' ∧ (n : Int) = n' ∧ ws.map sw = ws'.map sw := by simpa using e
  obtain ⟨e2, e3, e4⟩ := e1
  have e2 : q = q' := by omega
  have e3 : n = n' := by omega
  subst e2 e3
  cases sws_inj e4
  refine ⟨near ws w, ⟨⟨w, hwm, rfl⟩, fun v hv => ?_⟩, rfl, rfl⟩
  have := h2 _ (List.mem_map.mpr ⟨v, hv, rfl⟩)
  omega
end WA

/-! WP6: what is true of lists taken in order. -/
namespace WA
open PySem PySem.Spec PyProof.Rows L2
theorem keeps_pw {ws : List (List Nat)} {d : Int} : keepsB ws d = true ↔ ws.Pairwise fun a b => d ≤ (ham a b : Int) := by
  rw [List.pairwise_iff_forall_sublist]
  unfold keepsB
  rw [List.all_eq_true]
  constructor
  · intro h a b hs
    have := h (ham b a) (mem_gapsL.mpr ⟨a, b, hs, rfl⟩)
    rw [ham_comm a b]
    simpa using this
  · intro h x hx
    obtain ⟨a, b, hs, rfl⟩ := mem_gapsL.mp hx
    have := h hs
    rw [ham_comm b a]
    simpa using this
theorem keeps_perm {ws vs : List (List Nat)} {d : Int} (p : ws.Perm vs) (h : keepsB ws d = true) : keepsB vs d = true :=
  keeps_pw.mpr ((p.pairwise_iff fun {a b} h => by rw [ham_comm]; exact h).mp (keeps_pw.mp h))
theorem freeB_iff {d : Int} {f : List (List Nat)} {w : List Nat} : freeB d f w = true ↔ ∀ o ∈ f, d ≤ (ham w o : Int) := by
  unfold freeB
  rw [Bool.not_eq_true', List.any_eq_false]
  constructor
  · intro h o ho
    have := h o ho
    simp only [decide_eq_true_eq] at this
    omega
  · intro h o ho
    have := h o ho
    simp only [decide_eq_true_eq]
    omega
theorem freeB_not {d : Int} {f : List (List Nat)} {w : List Nat} : freeB d f w = false ↔ ∃ o ∈ f, (ham w o : Int) < d := by
  unfold freeB
  rw [Bool.not_eq_false', List.any_eq_true]
  constructor
  · rintro ⟨o, ho, h⟩
    exact ⟨o, ho, by simpa using h⟩
  · rintro ⟨o, ho, h⟩
    exact ⟨o, ho, by simpa using h⟩
theorem takeL_keeps {d : Int} : ∀ (all ws : List (List Nat)), keepsB ws d = true → keepsB (takeL d ws all) d = true
  | [], _, h => h
  | a :: r, ws, h => by
    show keepsB (takeL d (takeS d ws a) r) d = true
    refine takeL_keeps r _ ?_
    unfold takeS
    split
    · rename_i hf
      unfold keepsB at h ⊢
      rw [gapsL_snoc, List.all_append, h, Bool.true_and, List.all_eq_true]
      intro x hx
      obtain ⟨o, ho, rfl⟩ := List.mem_map.mp hx
      simpa using freeB_iff.mp hf o ho
    · exact h
theorem takeL_near {d : Int} (hd : 1 ≤ d) : ∀ (all ws : List (List Nat)), ∀ w ∈ all, ∃ o ∈ takeL d ws all, (ham w o : Int) < d
  | [], _, w, h => absurd h (by simp)
  | a :: r, ws, w, h => by
    show ∃ o ∈ takeL d (takeS d ws a) r, _
    rcases List.mem_cons.mp h with z | z
    · subst z
      have sub := (takeL_sub d r (takeS d ws w)).2.1
      by_cases hf : freeB d ws w = true
      · have e : takeS d ws w = ws ++ [w] := if_pos hf
        rw [e] at sub ⊢
        refine ⟨w, sub w (by simp), ?_⟩
        rw [ham_self]
        omega
      · have e : takeS d ws w = ws := if_neg hf
        rw [e] at sub ⊢
        obtain ⟨o, ho, hlt⟩ := freeB_not.mp (by simpa using hf)
        exact ⟨o, sub o ho, hlt⟩
    · exact takeL_near hd r _ w z
theorem takeL_stay {d : Int} : ∀ (all ws : List (List Nat)), (∀ w ∈ all, ∃ o ∈ ws, (ham w o : Int) < d) → takeL d ws all = ws
  | [], _, _ => rfl
  | a :: r, ws, h => by
    show takeL d (takeS d ws a) r = ws
    have e : takeS d ws a = ws := if_neg (by rw [freeB_not.mpr (h a List.mem_cons_self)]; exact Bool.false_ne_true)
    rw [e]
    exact takeL_stay r ws fun w hw => h w (List.mem_cons_of_mem _ hw)
section
variable {q n : Nat} {d : Int} {ws : List (List Nat)}
theorem tOn_keeps (h : keepsB ws d = true) : keepsB (tOn q n d ws) d = true := keeps_perm (srtL_perm _).symm (takeL_keeps _ _ h)
theorem tOn_near (hd : 1 ≤ d) : ∀ w ∈ allL q n, ∃ o ∈ tOn q n d ws, (ham w o : Int) < d := fun w hw => by
  obtain ⟨o, ho, h⟩ := takeL_near hd (allL q n) ws w hw
  exact ⟨o, srtL_mem.mpr ho, h⟩
theorem tOn_has : ∀ x ∈ ws, x ∈ tOn q n d ws := fun x hx => srtL_mem.mpr ((takeL_sub d (allL q n) ws).2.1 x hx)
theorem tOn_self (hd : 1 ≤ d) : tOn q n d (tOn q n d ws) = tOn q n d ws := by
  show srtL (takeL d (tOn q n d ws) (allL q n)) = tOn q n d ws
  rw [takeL_stay (allL q n) _ (tOn_near (q := q) (n := n) (ws := ws) hd)]
  exact srtL_same (srtL_perm _)
theorem tOn_ne (hq : 0 < q) (hd : 1 ≤ d) : tOn q n d ws ≠ [] := by
  obtain ⟨w, r, e⟩ := List.exists_cons_of_ne_nil (allL_ne q n hq)
  obtain ⟨o, ho, _⟩ := tOn_near (q := q) (n := n) (d := d) (ws := ws) hd w (by rw [e]; simp)
  exact fun z => by rw [z] at ho; simp at ho
end
theorem allL_head (q : Nat) (h : 0 < q) : ∀ n, ∃ r, allL q n = List.replicate n 0 :: r
  | 0 => ⟨[], rfl⟩
  | n + 1 => by
    obtain ⟨r, e⟩ := allL_head q h n
    obtain ⟨m, rfl⟩ : ∃ m, q = m + 1 := ⟨q - 1, by omega⟩
    unfold allL
    rw [e, List.flatMap_cons, List.range_succ_eq_map, List.map_cons, List.cons_append, List.replicate_succ']
    exact ⟨_, rfl⟩
theorem tOn_zero {q n : Nat} {d : Int} (h : 0 < q) : List.replicate n 0 ∈ tOn q n d [] := by
  obtain ⟨r, e⟩ := allL_head q h n
  refine srtL_mem.mpr ?_
  rw [e]
  show _ ∈ takeL d (takeS d [] (List.replicate n 0)) r
  exact (takeL_sub d r _).2.1 _ (by simp [takeS, freeB])
end WA

/-! WP10: how far apart the makings' words are. -/
namespace WA
open PySem PySem.Spec PyProof.Rows L2
/-- every pair at least k apart -/
def PW (ws : List (List Nat)) (k : Nat) : Prop := ws.Pairwise fun a b => k ≤ ham a b
theorem PW.perm {ws vs : List (List Nat)} {k : Nat} (p : ws.Perm vs) : PW ws k ↔ PW vs k := p.pairwise_iff fun {a b} h => by rw [ham_comm]; exact h
theorem PW.srt {ws : List (List Nat)} {k : Nat} : PW (srtL ws) k ↔ PW ws k := PW.perm (srtL_perm ws)
theorem PW.mono {ws : List (List Nat)} {k m : Nat} (h : PW ws m) (hk : k ≤ m) : PW ws k := h.imp fun z => Nat.le_trans hk z
theorem PW.keeps {ws : List (List Nat)} {d : Nat} (h : keepsB ws d = true) : PW ws d := (keeps_pw.mp h).imp fun z => by omega
/-- the least distance of two or more words -/
theorem gap_exact {ws : List (List Nat)} (h : 2 ≤ ws.length) : ∃ m, minL (gapsL ws) = some m ∧ ∀ k, PW ws k ↔ k ≤ m := by
  have hne : gapsL ws ≠ [] := fun z => by
    match ws, h with
    | a :: b :: r, _ =>
      have : ham b a ∈ gapsL (a :: b :: r) := mem_gapsL.mpr ⟨a, b, by simp, rfl⟩
      rw [z] at this
      simp at this
  obtain ⟨m, e1, e2, e3⟩ := minL_some hne
  refine ⟨m, e1, fun k => ?_⟩
  unfold PW
  rw [List.pairwise_iff_forall_sublist]
  constructor
  · intro h
    obtain ⟨a, b, hs, rfl⟩ := mem_gapsL.mp e2
    rw [ham_comm]
    exact h hs
  · intro h a b hs
    have := e3 (ham b a) (mem_gapsL.mpr ⟨a, b, hs, rfl⟩)
    rw [ham_comm]
    omega
theorem gap_of {ws : List (List Nat)} {m : Nat} (h : 2 ≤ ws.length) (hm : ∀ k, PW ws k ↔ k ≤ m) : minL (gapsL ws) = some m := by
  obtain ⟨m', e, hm'⟩ := gap_exact h
  rw [e]
  have h1 := (hm m').mp ((hm' m').mpr (Nat.le_refl _))
  have h2 := (hm' m).mp ((hm m).mpr (Nat.le_refl _))
  exact congrArg some (by omega)
/-- a growing measure of the distances -/
theorem pw_grow {ws : List (List Nat)} {m : Nat} (hm : ∀ k, PW ws k ↔ k ≤ m) (g : Nat → Nat) (hg : ∀ x y, x ≤ y → g x ≤ g y) (k : Nat) : ws.Pairwise (fun a b => k ≤ g (ham a b)) ↔ k ≤ g m := by
  constructor
  · intro h
    by_cases hk : k ≤ g m
    · exact hk
    · have : PW ws (m + 1) := h.imp fun {a b} z => by
        by_cases hh : ham a b ≤ m
        · have := hg _ _ hh
          omega
        · omega
      have := (hm (m + 1)).mp this
      omega
  · intro h
    exact ((hm m).mpr (Nat.le_refl _)).imp fun {a b} z => Nat.le_trans h (hg _ _ z)
theorem pw_mem {ws : List (List Nat)} {k : Nat} (h : PW ws k) {a b : List Nat} (ha : a ∈ ws) (hb : b ∈ ws) (hne : a ≠ b) : k ≤ ham a b := by
  rcases List.mem_iff_getElem.mp ha with ⟨i, hi, rfl⟩
  rcases List.mem_iff_getElem.mp hb with ⟨j, hj, rfl⟩
  have hp := h
  unfold PW at hp
  rw [List.pairwise_iff_getElem] at hp
  rcases Nat.lt_trichotomy i j with z | z | z
  · exact hp i j hi hj z
  · subst z; exact absurd rfl hne
  · rw [ham_comm]; exact hp j i hj hi z
theorem ham_app : ∀ (a b c d : List Nat), a.length = b.length → ham (a ++ c) (b ++ d) = ham a b + ham c d
  | [], [], c, d, _ => by simp [ham]
  | x :: a, y :: b, c, d, h => by
    have ih := ham_app a b c d (by simpa using h)
    show (if x = y then 0 else 1) + ham (a ++ c) (b ++ d) = ((if x = y then 0 else 1) + ham a b) + ham c d
    rw [ih]
    omega
theorem ham_tri' : ∀ a b c : List Nat, a.length = b.length → b.length = c.length → ham a c ≤ ham a b + ham b c
  | [], _, _, _, _ => Nat.zero_le _
  | _ :: _, _, [], _, _ => Nat.zero_le _
  | x :: a, y :: b, z :: c, h1, h2 => by
    have ih := ham_tri' a b c (by simpa using h1) (by simpa using h2)
    show (if x = z then 0 else 1) + ham a c ≤ ((if x = y then 0 else 1) + ham a b) + ((if y = z then 0 else 1) + ham b c)
    by_cases e1 : x = y
    · subst e1
      rw [if_pos rfl]
      omega
    · rw [if_neg e1]
      split <;> split <;> omega
  | _ :: _, [], _ :: _, h1, _ => by simp at h1
theorem ham_drop : ∀ a b : List Nat, ham a b ≤ ham (a.drop 1) (b.drop 1) + 1
  | [], _ => Nat.zero_le _
  | _ :: _, [] => Nat.zero_le _
  | x :: a, y :: b => by
    show (if x = y then 0 else 1) + ham a b ≤ ham a b + 1
    split <;> omega
theorem ham_head : ∀ a b : List Nat, a.headD 0 = b.headD 0 → ham a b = ham (a.drop 1) (b.drop 1)
  | [], [], _ => rfl
  | [], _ :: b, _ => by simp [ham]
  | _ :: a, [], _ => by
    show 0 = ham a []
    cases a <;> rfl
  | x :: a, y :: b, h => by
    have h : x = y := h
    show (if x = y then 0 else 1) + ham a b = ham a b
    rw [if_pos h]
    omega
theorem cut_pw {ws : List (List Nat)} {m : Nat} (h : PW ws m) : PW (srtL (ws.map fun w => w.drop 1)) (m - 1) := by
  rw [PW.srt]
  unfold PW
  rw [List.pairwise_map]
  exact h.imp fun {a b} z => by
    have := ham_drop a b
    omega
/-! shorter -/
theorem row_pw {ws : List (List Nat)} {m : Nat} (h : PW ws m) (s : Nat) : PW (rowW ws s) m := by
  unfold PW rowW
  rw [List.pairwise_map]
  refine List.Pairwise.imp_of_mem ?_ (h.sublist List.filter_sublist)
  intro a b ha hb z
  have ha := of_decide_eq_true (List.mem_filter.mp ha).2
  have hb := of_decide_eq_true (List.mem_filter.mp hb).2
  rw [← ham_head a b (by rw [ha, hb])]
  exact z
theorem best_is {P : List (List Nat) → Prop} : ∀ (rows : List (List (List Nat))) (b : List (List Nat)), P b → (∀ r ∈ rows, P r) → P (rows.foldl bestS b) ∧ b.length ≤ (rows.foldl bestS b).length ∧ ∀ r ∈ rows, r.length ≤ (rows.foldl bestS b).length
  | [], b, hb, _ => ⟨hb, Nat.le_refl _, fun _ h => absurd h (by simp)⟩
  | r :: rows, b, hb, h => by
    have hs : P (bestS b r) ∧ b.length ≤ (bestS b r).length ∧ r.length ≤ (bestS b r).length := by
      unfold bestS
      split
      · exact ⟨h r List.mem_cons_self, by omega, Nat.le_refl _⟩
      · exact ⟨hb, Nat.le_refl _, by omega⟩
    obtain ⟨h1, h2, h3⟩ := best_is rows (bestS b r) hs.1 fun x hx => h x (List.mem_cons_of_mem _ hx)
    refine ⟨h1, Nat.le_trans hs.2.1 h2, fun x hx => ?_⟩
    rcases List.mem_cons.mp hx with z | z
    · rw [z]
      exact Nat.le_trans hs.2.2 h2
    · exact h3 x z
theorem best_pw {q : Nat} {ws : List (List Nat)} {m : Nat} (h : PW ws m) : PW (srtL (bestL q ws)) m := by
  rw [PW.srt]
  refine (best_is (P := fun r => PW r m) _ _ (row_pw h 0) fun r hr => ?_).1
  obtain ⟨s, _, rfl⟩ := List.mem_map.mp hr
  exact row_pw h s
theorem row_len (ws : List (List Nat)) (s : Nat) : (rowW ws s).length = (ws.filter fun w => decide (w.headD 0 = s)).length := by
  unfold rowW
  rw [List.length_map]
theorem rows_len : ∀ (q : Nat) (ws : List (List Nat)), (∀ w ∈ ws, w.headD 0 < q) → ((List.range q).map fun s => (rowW ws s).length).sum = ws.length
  | q, [], _ => by
    have : ∀ l : List Nat, (l.map fun s => (rowW [] s).length).sum = 0 := by
      intro l
      induction l with
      | nil => rfl
      | cons a l ih =>
        rw [List.map_cons, List.sum_cons, ih]
        rfl
    exact this _
  | q, w :: ws, h => by
    have ih := rows_len q ws fun x hx => h x (List.mem_cons_of_mem _ hx)
    have hw := h w List.mem_cons_self
    have e : ∀ s, (rowW (w :: ws) s).length = (rowW ws s).length + (if w.headD 0 = s then 1 else 0) := fun s => by
      rw [row_len, row_len]
      by_cases z : w.headD 0 = s
      · rw [List.filter_cons_of_pos (by simpa using z), if_pos z]
        rfl
      · rw [List.filter_cons_of_neg (by simpa using z), if_neg z]
        rfl
    have two : ∀ l : List Nat, (l.map fun s => (rowW (w :: ws) s).length).sum = (l.map fun s => (rowW ws s).length).sum + l.countP (fun s => decide (w.headD 0 = s)) := by
      intro l
      induction l with
      | nil => rfl
      | cons a l ih =>
        rw [List.map_cons, List.sum_cons, List.map_cons, List.sum_cons, ih, e, List.countP_cons]
        simp only [decide_eq_true_eq]
        omega
    rw [two, ih, List.length_cons]
    congr 1
    generalize w.headD 0 = x at hw
    have one : ∀ q, (List.range q).countP (fun s => decide (x = s)) = if x < q then 1 else 0 := by
      intro q
      induction q with
      | zero => rfl
      | succ q ih =>
        rw [List.range_succ, List.countP_append, ih, List.countP_cons, List.countP_nil]
        simp only [decide_eq_true_eq]
        by_cases h1 : x < q
        · rw [if_pos h1, if_neg (by omega), if_pos (by omega)]
        · by_cases h2 : x = q
          · rw [if_neg h1, if_pos h2, if_pos (by omega)]
          · rw [if_neg h1, if_neg h2, if_neg (by omega)]
    rw [one, if_pos hw]
theorem best_len {q : Nat} {ws : List (List Nat)} (h : ∀ w ∈ ws, w.headD 0 < q) : ws.length ≤ (bestL q ws).length * q := by
  have hb := (best_is (P := fun _ => True) ((List.range q).map (rowW ws)) (rowW ws 0) trivial fun _ _ => trivial).2.2
  have hs := rows_len q ws h
  have le : ∀ (l : List Nat) (M : Nat), (∀ s ∈ l, (rowW ws s).length ≤ M) → (l.map fun s => (rowW ws s).length).sum ≤ M * l.length := by
    intro l M hl
    induction l with
    | nil => simp
    | cons a l ih =>
      rw [List.map_cons, List.sum_cons, List.length_cons, Nat.mul_add, Nat.mul_one]
      have := ih fun s hs => hl s (List.mem_cons_of_mem _ hs)
      have := hl a List.mem_cons_self
      omega
  have := le (List.range q) (bestL q ws).length fun s hs => hb _ (List.mem_map.mpr ⟨s, hs, rfl⟩)
  rw [List.length_range, hs] at this
  exact this
theorem best_bits {q n : Nat} {ws : List (List Nat)} (h : Wds q n ws) (hn : 1 ≤ n) : Len (n - 1) (bestL q ws) ∧ (bestL q ws).length ≤ ws.length := by
  have hrow : ∀ s, Len (n - 1) (rowW ws s) ∧ (rowW ws s).length ≤ ws.length := fun s => by
    refine ⟨fun w hw => ?_, by rw [row_len]; exact List.length_filter_le _ _⟩
    obtain ⟨v, hv, rfl⟩ := List.mem_map.mp hw
    rw [List.length_drop, (h v (List.mem_filter.mp hv).1).1]
  refine (best_is (P := fun r => Len (n - 1) r ∧ r.length ≤ ws.length) _ _ (hrow 0) fun r hr => ?_).1
  obtain ⟨s, _, rfl⟩ := List.mem_map.mp hr
  exact hrow s
/-! beside, pairs, sums -/
theorem zip_pw : ∀ {a b : List (List Nat)} {n k m : Nat}, Len n a → PW a k → PW b m → PW ((a.zip b).map fun p => p.1 ++ p.2) (k + m)
  | [], _, _, _, _, _, _, _ => by simp [PW]
  | _ :: _, [], _, _, _, _, _, _ => by simp [PW]
  | x :: a, y :: b, n, k, m, hL, h1, h2 => by
    have h1 := List.pairwise_cons.mp h1
    have h2 := List.pairwise_cons.mp h2
    have ih := zip_pw (fun w hw => hL w (List.mem_cons_of_mem _ hw)) h1.2 h2.2
    show PW ((x ++ y) :: (a.zip b).map fun p => p.1 ++ p.2) (k + m)
    refine List.pairwise_cons.mpr ⟨fun z hz => ?_, ih⟩
    obtain ⟨p, hp, rfl⟩ := List.mem_map.mp hz
    obtain ⟨ha, hb⟩ := List.of_mem_zip hp
    have e1 := h1.1 _ ha
    have e2 := h2.1 _ hb
    rw [ham_app _ _ _ _ (by rw [hL x List.mem_cons_self, hL _ (List.mem_cons_of_mem _ ha)])]
    omega
theorem beside_pw {a b : List (List Nat)} {n k m : Nat} (hL : Len n a) (h1 : PW a k) (h2 : PW b m) : PW (besL a b) (k + m) :=
  zip_pw (fun w hw => hL w (srtL_mem.mp hw)) (PW.srt.mpr h1) (PW.srt.mpr h2)
theorem pairs_pw {a b : List (List Nat)} {n k m : Nat} (hL : Len n a) (ha : a ≠ []) (hb : b ≠ []) (h1 : ∀ j, PW a j ↔ j ≤ k) (h2 : ∀ j, PW b j ↔ j ≤ m) (j : Nat) : PW (parL a b) j ↔ j ≤ min k m := by
  unfold PW parL
  rw [List.pairwise_flatMap]
  have same : ∀ l : List Nat, (b.map fun r => l ++ r).Pairwise (fun a b => j ≤ ham a b) ↔ PW b j := fun l => by
    rw [List.pairwise_map]
    unfold PW
    have e : ∀ x y : List Nat, ham (l ++ x) (l ++ y) = ham x y := fun x y => by rw [ham_app _ _ _ _ rfl, ham_self, Nat.zero_add]
    simp only [e]
  constructor
  · rintro ⟨p1, p2⟩
    obtain ⟨l, hl⟩ := List.exists_mem_of_ne_nil a ha
    obtain ⟨r, hr⟩ := List.exists_mem_of_ne_nil b hb
    have q1 := (h2 j).mp ((same l).mp (p1 l hl))
    have q2 : PW a j := List.Pairwise.imp_of_mem (fun {x y} hx hy z => by
      have := z (x ++ r) (List.mem_map.mpr ⟨r, hr, rfl⟩) (y ++ r) (List.mem_map.mpr ⟨r, hr, rfl⟩)
      rw [ham_app _ _ _ _ (by rw [hL x hx, hL y hy]), ham_self] at this
      omega) p2
    have q2 := (h1 j).mp q2
    omega
  · intro h
    refine ⟨fun l _ => (same l).mpr ((h2 j).mpr (by omega)), ?_⟩
    refine List.Pairwise.imp_of_mem (fun {x y} hx hy z => ?_) ((h1 j).mpr (by omega))
    intro u hu v hv
    obtain ⟨r1, _, rfl⟩ := List.mem_map.mp hu
    obtain ⟨r2, _, rfl⟩ := List.mem_map.mp hv
    rw [ham_app _ _ _ _ (by rw [hL x hx, hL y hy])]
    omega
theorem ham_plus_l {q : Nat} (hq : 0 < q) : ∀ l x y : List Nat, l.length = x.length → l.length = y.length → Sg q x → Sg q y → ham (plusW q l x) (plusW q l y) = ham x y
  | [], [], [], _, _, _, _ => rfl
  | c :: l, s :: x, t :: y, h1, h2, gx, gy => by
    have ih := ham_plus_l hq l x y (by simpa using h1) (by simpa using h2) (fun z hz => gx z (List.mem_cons_of_mem _ hz)) (fun z hz => gy z (List.mem_cons_of_mem _ hz))
    have hs := gx s List.mem_cons_self
    have ht := gy t List.mem_cons_self
    show (if (c + s) % q = (c + t) % q then 0 else 1) + ham (plusW q l x) (plusW q l y) = (if s = t then 0 else 1) + ham x y
    rw [ih]
    congr 1
    have e : (c + s) % q = (c + t) % q ↔ s = t := by
      constructor
      · intro h
        have h3 : ((c : Int) + s - (c + t)) % q = 0 := by
          rw [Int.sub_emod]
          have : ((c : Int) + s) % q = ((c : Int) + t) % q := by exact_mod_cast h
          rw [this, Int.sub_self]
          rfl
        have h4 : ((s : Int) - t) % q = 0 := by rw [← h3]; congr 1; omega
        obtain ⟨k, hk⟩ := Int.dvd_of_emod_eq_zero h4
        have hk1 : k < 1 := by
          by_cases z : k < 1
          · exact z
          · have : (q : Int) * 1 ≤ q * k := Int.mul_le_mul_of_nonneg_left (by omega) (by omega)
            omega
        have hk2 : -1 < k := by
          by_cases z : -1 < k
          · exact z
          · have : (q : Int) * k ≤ q * (-1) := Int.mul_le_mul_of_nonneg_left (by omega) (by omega)
            omega
        have : k = 0 := by omega
        rw [this] at hk
        omega
      · intro h
        rw [h]
    by_cases z : s = t
    · rw [if_pos z, if_pos (e.mpr z)]
    · rw [if_neg z, if_neg fun w => z (e.mp w)]
theorem plus_comm (q : Nat) : ∀ a b : List Nat, plusW q a b = plusW q b a
  | [], [] => rfl
  | [], _ :: _ => rfl
  | _ :: _, [] => rfl
  | x :: a, y :: b => by
    have ih := plus_comm q a b
    unfold plusW at ih ⊢
    rw [List.zip_cons_cons, List.zip_cons_cons, List.map_cons, List.map_cons, ih, Nat.add_comm]
theorem sums_pw {q n : Nat} {a b : List (List Nat)} {k m : Nat} (hq : 0 < q) (hA : Wds q n a) (hB : Wds q n b) (ha : a ≠ []) (hb : b ≠ []) (h1 : ∀ j, PW a j ↔ j ≤ k) (h2 : ∀ j, PW b j ↔ j ≤ m) (j : Nat) : PW (sumL q a b) j ↔ j ≤ min (2 * k) m := by
  unfold PW sumL
  rw [List.pairwise_flatMap]
  have same : ∀ l ∈ a, ((b.map fun r => l ++ plusW q l r).Pairwise (fun a b => j ≤ ham a b) ↔ PW b j) := fun l hl => by
    rw [List.pairwise_map]
    unfold PW
    have e : ∀ x ∈ b, ∀ y ∈ b, ham (l ++ plusW q l x) (l ++ plusW q l y) = ham x y := fun x hx y hy => by
      rw [ham_app _ _ _ _ rfl, ham_self, Nat.zero_add, ham_plus_l hq _ _ _ (by rw [(hA l hl).1, (hB x hx).1]) (by rw [(hA l hl).1, (hB y hy).1]) (hB x hx).2 (hB y hy).2]
    constructor
    · exact List.Pairwise.imp_of_mem fun {x y} hx hy z => by rw [e x hx y hy] at z; exact z
    · exact List.Pairwise.imp_of_mem fun {x y} hx hy z => by rw [e x hx y hy]; exact z
  have two : ∀ x ∈ a, ∀ y ∈ a, ∀ r ∈ b, ham (x ++ plusW q x r) (y ++ plusW q y r) = 2 * ham x y := fun x hx y hy r hr => by
    rw [ham_app _ _ _ _ (by rw [(hA x hx).1, (hA y hy).1]), plus_comm q x r, plus_comm q y r, ham_plus_l hq _ _ _ (by rw [(hA x hx).1, (hB r hr).1]) (by rw [(hA y hy).1, (hB r hr).1]) (hA x hx).2 (hA y hy).2]
    omega
  constructor
  · rintro ⟨p1, p2⟩
    obtain ⟨l, hl⟩ := List.exists_mem_of_ne_nil a ha
    obtain ⟨r, hr⟩ := List.exists_mem_of_ne_nil b hb
    have q1 := (h2 j).mp ((same l hl).mp (p1 l hl))
    have q2 : a.Pairwise fun x y => j ≤ 2 * ham x y := List.Pairwise.imp_of_mem (fun {x y} hx hy z => by
      have := z (x ++ plusW q x r) (List.mem_map.mpr ⟨r, hr, rfl⟩) (y ++ plusW q y r) (List.mem_map.mpr ⟨r, hr, rfl⟩)
      rw [two x hx y hy r hr] at this
      exact this) p2
    have q2 := (pw_grow h1 (fun x => 2 * x) (fun x y h => by omega) j).mp q2
    have q2 : j ≤ 2 * k := q2
    omega
  · intro h
    refine ⟨fun l hl => (same l hl).mpr ((h2 j).mpr (by omega)), ?_⟩
    refine List.Pairwise.imp_of_mem (fun {x y} hx hy z => ?_) ((h1 k).mpr (Nat.le_refl _))
    intro u hu v hv
    obtain ⟨r1, m1, rfl⟩ := List.mem_map.mp hu
    obtain ⟨r2, m2, rfl⟩ := List.mem_map.mp hv
    by_cases e : r1 = r2
    · subst e
      rw [two x hx y hy r1 m1]
      omega
    · have f1 := pw_mem ((h2 m).mpr (Nat.le_refl _)) m1 m2 e
      have lx := (hA x hx).1
      have ly := (hA y hy).1
      have l1 := (hB r1 m1).1
      have l2 := (hB r2 m2).1
      rw [ham_app _ _ _ _ (by rw [lx, ly])]
      have t := ham_tri' (plusW q x r1) (plusW q y r2) (plusW q x r2) (by rw [plusW_len (by omega), plusW_len (by omega)]; omega) (by rw [plusW_len (by omega), plusW_len (by omega)]; omega)
      rw [ham_plus_l hq _ _ _ (by omega) (by omega) (hB r1 m1).2 (hB r2 m2).2, plus_comm q y r2, plus_comm q x r2, ham_plus_l hq _ _ _ (by omega) (by omega) (hA y hy).2 (hA x hx).2, ham_comm y x] at t
      rw [plus_comm q y r2]
      omega
end WA

/-! WP11: spans, in plain terms. -/
namespace WA
open PySem PySem.Spec PyProof.Rows L2
/-! ### signs by place -/
def gD (w : List Nat) (i : Nat) : Nat := w.getD i 0
theorem gD_cons0 (a : Nat) (w : List Nat) : gD (a :: w) 0 = a := rfl
theorem gD_cons (a : Nat) (w : List Nat) (i : Nat) : gD (a :: w) (i + 1) = gD w i := rfl
theorem gD_nil (i : Nat) : gD [] i = 0 := rfl
theorem gD_ext : ∀ {a b : List Nat}, a.length = b.length → (∀ i, gD a i = gD b i) → a = b
  | [], [], _, _ => rfl
  | x :: a, y :: b, h, e => by
    have e0 : x = y := e 0
    have := gD_ext (a := a) (b := b) (by simpa using h) fun i => e (i + 1)
    rw [e0, this]
theorem gD_plus {q : Nat} : ∀ {a b : List Nat}, a.length = b.length → ∀ i, gD (plusW q a b) i = (gD a i + gD b i) % q
  | [], [], _, i => by
    show 0 = (0 + 0) % q
    simp
  | x :: a, y :: b, h, 0 => rfl
  | x :: a, y :: b, h, i + 1 => gD_plus (a := a) (b := b) (by simpa using h) i
theorem gD_times {q : Nat} : ∀ (w : List Nat) (t i : Nat), gD (timesW q w t) i = gD w i * t % q
  | [], t, i => by
    show 0 = 0 * t % q
    simp
  | x :: w, t, 0 => rfl
  | x :: w, t, i + 1 => gD_times w t i
theorem gD_zero : ∀ (n i : Nat), gD (List.replicate n 0) i = 0
  | 0, i => rfl
  | n + 1, 0 => rfl
  | n + 1, i + 1 => gD_zero n i
theorem gD_lt {q : Nat} (hq : 0 < q) : ∀ {w : List Nat}, Sg q w → ∀ i, gD w i < q
  | [], _, i => hq
  | x :: w, h, 0 => h x List.mem_cons_self
  | x :: w, h, i + 1 => gD_lt hq (w := w) (fun s hs => h s (List.mem_cons_of_mem _ hs)) i
def P23 (q : Nat) : Prop := q = 2 ∨ q = 3
theorem P23.pos {q : Nat} (h : P23 q) : 0 < q := by rcases h with rfl | rfl <;> decide
theorem Wd.plus {q n : Nat} {a b : List Nat} (hq : 0 < q) (ha : Wd q n a) (hb : Wd q n b) : Wd q n (plusW q a b) := ⟨by rw [plusW_len (by rw [ha.1, hb.1]), ha.1], .plus hq a b⟩
theorem Wd.times {q n : Nat} {a : List Nat} (hq : 0 < q) (ha : Wd q n a) (t : Nat) : Wd q n (timesW q a t) := ⟨by rw [timesW_len, ha.1], .times hq a t⟩
def zW (n : Nat) : List Nat := List.replicate n 0
theorem Wd.zero {q n : Nat} (hq : 0 < q) : Wd q n (zW n) := ⟨by simp [zW], fun x hx => by rw [(List.mem_replicate.mp hx).2]; exact hq⟩
section
variable {q n : Nat} {a b c o w : List Nat} {T : List (List Nat)}
theorem Wd.ext (ha : Wd q n a) (hb : Wd q n b) (h : ∀ i, gD a i = gD b i) : a = b := gD_ext (by rw [ha.1, hb.1]) h
theorem plus_zero (hq : 0 < q) (ha : Wd q n a) : plusW q a (zW n) = a := (ha.plus hq (.zero hq)).ext ha fun i => by
  rw [gD_plus (by rw [ha.1]; simp [zW]), zW, gD_zero, Nat.add_zero, Nat.mod_eq_of_lt (gD_lt hq ha.2 i)]
theorem plus_assoc (hq : 0 < q) (ha : Wd q n a) (hb : Wd q n b) (hc : Wd q n c) : plusW q (plusW q a b) c = plusW q a (plusW q b c) := ((ha.plus hq hb).plus hq hc).ext (ha.plus hq (hb.plus hq hc)) fun i => by
  rw [gD_plus (by rw [(ha.plus hq hb).1, hc.1]), gD_plus (by rw [ha.1, hb.1]), gD_plus (by rw [ha.1, (hb.plus hq hc).1]), gD_plus (by rw [hb.1, hc.1]), Nat.mod_add_mod, Nat.add_mod_mod, Nat.add_assoc]
theorem plus_neg (hq : P23 q) (ha : Wd q n a) : plusW q a (timesW q a (q - 1)) = zW n := (ha.plus hq.pos (ha.times hq.pos _)).ext (.zero hq.pos) fun i => by
  rw [gD_plus (by rw [ha.1, (ha.times hq.pos _).1]), gD_times, zW, gD_zero]
  rcases hq with rfl | rfl <;> omega
/-- lists of words closed under sums -/
structure Sub (q n : Nat) (T : List (List Nat)) : Prop where
  nd : T.Nodup
  wd : Wds q n T
  z : zW n ∈ T
  add : ∀ a ∈ T, ∀ b ∈ T, plusW q a b ∈ T
theorem Sub.times (hq : 0 < q) (h : Sub q n T) (ha : a ∈ T) : ∀ t, timesW q a t ∈ T
  | 0 => by
    have hw := h.wd a ha
    have : timesW q a 0 = zW n := (hw.times hq 0).ext (.zero hq) fun i => by rw [gD_times, zW, gD_zero, Nat.mul_zero, Nat.zero_mod]
    rw [this]
    exact h.z
  | t + 1 => by
    have hw := h.wd a ha
    have : timesW q a (t + 1) = plusW q (timesW q a t) a := (hw.times hq _).ext ((hw.times hq _).plus hq hw) fun i => by
      rw [gD_plus (by rw [(hw.times hq t).1, hw.1]), gD_times, gD_times, Nat.mul_add, Nat.mul_one, Nat.mod_add_mod]
    rw [this]
    exact h.add _ (h.times hq ha t) _ ha
theorem Sub.neg (hq : 0 < q) (h : Sub q n T) (ha : a ∈ T) (hb : b ∈ T) : plusW q a (timesW q b (q - 1)) ∈ T := h.add _ ha _ (h.times hq hb _)
theorem plus_back (hq : P23 q) (ha : Wd q n a) (hb : Wd q n b) : plusW q (plusW q a b) (timesW q b (q - 1)) = a := by
  rw [plus_assoc hq.pos ha hb (hb.times hq.pos _), plus_neg hq hb, plus_zero hq.pos ha]
theorem plus_back2 (hq : P23 q) (ha : Wd q n a) (hb : Wd q n b) : plusW q (plusW q a (timesW q b (q - 1))) b = a := by
  rw [plus_assoc hq.pos ha (hb.times hq.pos _) hb, plus_comm q _ b, plus_neg hq hb, plus_zero hq.pos ha]
theorem plus_cancel (hq : P23 q) (ha : Wd q n a) (hb : Wd q n b) (hc : Wd q n c) (h : plusW q a c = plusW q b c) : a = b := by
  rw [← plus_back hq ha hc, h, plus_back hq hb hc]
/-- what widening makes -/
def widL (q : Nat) (T : List (List Nat)) (w : List Nat) : List (List Nat) := (List.range q).flatMap fun t => T.map fun o => plusW q o (timesW q w t)
theorem mem_widL {x : List Nat} : x ∈ widL q T w ↔ ∃ t, t < q ∧ ∃ o ∈ T, x = plusW q o (timesW q w t) := by
  unfold widL
  rw [List.mem_flatMap]
  constructor
  · rintro ⟨t, ht, hx⟩
    obtain ⟨o, ho, rfl⟩ := List.mem_map.mp hx
    exact ⟨t, List.mem_range.mp ht, o, ho, rfl⟩
  · rintro ⟨t, ht, o, ho, rfl⟩
    exact ⟨t, List.mem_range.mpr ht, List.mem_map.mpr ⟨o, ho, rfl⟩⟩
theorem widL_len : (widL q T w).length = q * T.length := by
  unfold widL
  rw [flat_len _ (k := T.length) _ fun x _ => by simp, List.length_range]
theorem widL_wds (hq : 0 < q) (h : Wds q n T) (hw : Wd q n w) : Wds q n (widL q T w) := fun x hx => by
  obtain ⟨t, _, o, ho, rfl⟩ := mem_widL.mp hx
  exact (h o ho).plus hq (hw.times hq t)
theorem wid_apart (hq : P23 q) (h : Sub q n T) (hw : Wd q n w) (hn : w ∉ T) {t1 t2 : Nat} {o1 o2 : List Nat} (h12 : t1 < t2) (h2 : t2 < q) (m1 : o1 ∈ T) (m2 : o2 ∈ T) : plusW q o1 (timesW q w t1) ≠ plusW q o2 (timesW q w t2) := fun e => by
  have w1 := h.wd o1 m1
  have w2 := h.wd o2 m2
  have hx := fun i => congrArg (fun l => gD l i) e
  have hx : ∀ i, (gD o1 i + gD w i * t1 % q) % q = (gD o2 i + gD w i * t2 % q) % q := fun i => by
    have this : gD (plusW q o1 (timesW q w t1)) i = gD (plusW q o2 (timesW q w t2)) i := hx i
    rw [gD_plus (by rw [w1.1, (hw.times hq.pos t1).1]), gD_plus (by rw [w2.1, (hw.times hq.pos t2).1]), gD_times, gD_times] at this
    exact this
  apply hn
  have hd := h.times hq.pos (h.neg hq.pos m1 m2) (t2 - t1)
  have : timesW q (plusW q o1 (timesW q o2 (q - 1))) (t2 - t1) = w := (h.wd _ hd).ext hw fun i => by
    rw [gD_times, gD_plus (by rw [w1.1, (w2.times hq.pos _).1]), gD_times]
    have e := hx i
    have g1 := gD_lt hq.pos w1.2 i
    have g2 := gD_lt hq.pos w2.2 i
    have g3 := gD_lt hq.pos hw.2 i
    generalize gD o1 i = x at *
    generalize gD o2 i = y at *
    generalize gD w i = z at *
    rcases hq with rfl | rfl
    · have : t1 = 0 ∧ t2 = 1 := by omega
      obtain ⟨rfl, rfl⟩ := this
      omega
    · have : (t1 = 0 ∧ t2 = 1) ∨ (t1 = 0 ∧ t2 = 2) ∨ (t1 = 1 ∧ t2 = 2) := by omega
      rcases this with ⟨rfl, rfl⟩ | ⟨rfl, rfl⟩ | ⟨rfl, rfl⟩ <;> omega
  rw [← this]
  exact hd
theorem Sub.wid (hq : P23 q) (h : Sub q n T) (hw : Wd q n w) (hn : w ∉ T) : Sub q n (widL q T w) := by
  refine ⟨?_, widL_wds hq.pos h.wd hw, mem_widL.mpr ⟨0, hq.pos, zW n, h.z, ?_⟩, fun x hx y hy => ?_⟩
  · unfold widL List.Nodup
    rw [List.pairwise_flatMap]
    refine ⟨fun t _ => ?_, ?_⟩
    · rw [List.pairwise_map]
      exact List.Pairwise.imp_of_mem (fun {x y} hx hy z e => z (plus_cancel hq (h.wd x hx) (h.wd y hy) (hw.times hq.pos t) e)) h.nd
    · refine List.Pairwise.imp_of_mem (fun {t1 t2} m1 m2 h12 => ?_) List.pairwise_lt_range
      intro x hx y hy
      obtain ⟨o1, h1, rfl⟩ := List.mem_map.mp hx
      obtain ⟨o2, h2, rfl⟩ := List.mem_map.mp hy
      exact wid_apart hq h hw hn h12 (List.mem_range.mp m2) h1 h2
  · refine (Wd.zero hq.pos).ext ((Wd.zero hq.pos).plus hq.pos (hw.times hq.pos 0)) fun i => ?_
    rw [gD_plus (by rw [(hw.times hq.pos 0).1]; simp [zW]), gD_times, zW, gD_zero, Nat.mul_zero, Nat.zero_mod, Nat.zero_add, Nat.zero_mod]
  · obtain ⟨t1, h1, o1, m1, rfl⟩ := mem_widL.mp hx
    obtain ⟨t2, h2, o2, m2, rfl⟩ := mem_widL.mp hy
    have w1 := h.wd o1 m1
    have w2 := h.wd o2 m2
    refine mem_widL.mpr ⟨(t1 + t2) % q, Nat.mod_lt _ hq.pos, plusW q o1 o2, h.add _ m1 _ m2, ?_⟩
    refine ((w1.plus hq.pos (hw.times hq.pos _)).plus hq.pos (w2.plus hq.pos (hw.times hq.pos _))).ext ((w1.plus hq.pos w2).plus hq.pos (hw.times hq.pos _)) fun i => ?_
    rw [gD_plus (by rw [(w1.plus hq.pos (hw.times hq.pos _)).1, (w2.plus hq.pos (hw.times hq.pos _)).1]), gD_plus (by rw [w1.1, (hw.times hq.pos _).1]), gD_plus (by rw [w2.1, (hw.times hq.pos _).1]), gD_plus (by rw [(w1.plus hq.pos w2).1, (hw.times hq.pos _).1]), gD_plus (by rw [w1.1, w2.1]), gD_times, gD_times, gD_times]
    rw [Nat.mul_mod_mod, Nat.mul_add]
    generalize gD w i * t1 = x
    generalize gD w i * t2 = y
    rcases hq with rfl | rfl <;> omega
end
/-! ### bases -/
def bsS (q : Nat) (p : List (List Nat) × List (List Nat)) (w : List Nat) : List (List Nat) × List (List Nat) := if w ∈ p.2 then p else (p.1 ++ [w], widL q p.2 w)
def bs0 (n : Nat) : List (List Nat) × List (List Nat) := ([], [zW n])
def bs (q n : Nat) (ws : List (List Nat)) : List (List Nat) × List (List Nat) := ws.foldl (bsS q) (bs0 n)
structure BInv (q n : Nat) (pre : List (List Nat)) (p : List (List Nat) × List (List Nat)) : Prop where
  sub : Sub q n p.2
  len : p.2.length = q ^ p.1.length
  all : ∀ w ∈ pre, w ∈ p.2
  from_ : ∀ w ∈ p.1, w ∈ pre
  again : bs q n p.1 = p
  wide : p.1.foldl (widL q) [zW n] = p.2
  least : ∀ S, Sub q n S → (∀ w ∈ pre, w ∈ S) → ∀ x ∈ p.2, x ∈ S
section
variable {q n : Nat} {ws : List (List Nat)}
theorem binv0 (hq : 0 < q) : BInv q n [] (bs0 n) := by
  refine ⟨⟨by simp [bs0], fun w hw => ?_, by simp [bs0], fun a ha b hb => ?_⟩, rfl, fun _ h => absurd h (by simp), fun _ h => absurd h (by simp [bs0]), rfl, rfl, fun S hS _ x hx => ?_⟩
  · have : w = zW n := by simpa [bs0] using hw
    rw [this]
    exact .zero hq
  · have ha : a = zW n := by simpa [bs0] using ha
    have hb : b = zW n := by simpa [bs0] using hb
    rw [ha, hb, plus_zero hq (.zero hq)]
    simp [bs0]
  · have : x = zW n := by simpa [bs0] using hx
    rw [this]
    exact hS.z
theorem binv_step (hq : P23 q) {pre : List (List Nat)} {p : List (List Nat) × List (List Nat)} (h : BInv q n pre p) {w : List Nat} (hw : Wd q n w) : BInv q n (pre ++ [w]) (bsS q p w) := by
  unfold bsS
  by_cases hm : w ∈ p.2
  · rw [if_pos hm]
    refine ⟨h.sub, h.len, fun x hx => ?_, fun x hx => List.mem_append_left _ (h.from_ x hx), h.again, h.wide, fun S hS hp => h.least S hS fun x hx => hp x (List.mem_append_left _ hx)⟩
    rcases List.mem_append.mp hx with z | z
    · exact h.all x z
    · rw [List.mem_singleton.mp z]; exact hm
  · rw [if_neg hm]
    have hold : ∀ x ∈ p.2, x ∈ widL q p.2 w := fun x hx => mem_widL.mpr ⟨0, hq.pos, x, hx, by
      have hxw := h.sub.wd x hx
      refine hxw.ext (hxw.plus hq.pos (hw.times hq.pos 0)) fun i => ?_
      rw [gD_plus (by rw [hxw.1, (hw.times hq.pos 0).1]), gD_times, Nat.mul_zero, Nat.zero_mod, Nat.add_zero, Nat.mod_eq_of_lt (gD_lt hq.pos hxw.2 i)]⟩
    have hnew : w ∈ widL q p.2 w := mem_widL.mpr ⟨1, by rcases hq with rfl | rfl <;> decide, zW n, h.sub.z, by
      refine hw.ext ((Wd.zero hq.pos).plus hq.pos (hw.times hq.pos 1)) fun i => ?_
      rw [gD_plus (by rw [(hw.times hq.pos 1).1]; simp [zW]), gD_times, zW, gD_zero, Nat.mul_one, Nat.zero_add, Nat.mod_mod, Nat.mod_eq_of_lt (gD_lt hq.pos hw.2 i)]⟩
    refine ⟨h.sub.wid hq hw hm, ?_, fun x hx => ?_, fun x hx => ?_, ?_, ?_, fun S hS hp x hx => ?_⟩
    · show (widL q p.2 w).length = q ^ (p.1 ++ [w]).length
      rw [widL_len, h.len, List.length_append, List.length_singleton, Nat.pow_succ, Nat.mul_comm]
    · rcases List.mem_append.mp hx with z | z
      · exact hold x (h.all x z)
      · rw [List.mem_singleton.mp z]; exact hnew
    · rcases List.mem_append.mp hx with z | z
      · exact List.mem_append_left _ (h.from_ x z)
      · exact List.mem_append_right _ z
    · show (p.1 ++ [w]).foldl (bsS q) (bs0 n) = _
      rw [List.foldl_append, List.foldl_cons, List.foldl_nil, show p.1.foldl (bsS q) (bs0 n) = p from h.again]
      unfold bsS
      rw [if_neg hm]
    · show (p.1 ++ [w]).foldl (widL q) [zW n] = widL q p.2 w
      rw [List.foldl_append, List.foldl_cons, List.foldl_nil, h.wide]
    · obtain ⟨t, _, o, ho, rfl⟩ := mem_widL.mp hx
      exact hS.add _ (h.least S hS (fun x hx => hp x (List.mem_append_left _ hx)) o ho) _ (hS.times hq.pos (hp w (by simp)) t)
theorem binv_all (hq : P23 q) : ∀ (ws pre : List (List Nat)) (p : List (List Nat) × List (List Nat)), BInv q n pre p → Wds q n ws → BInv q n (pre ++ ws) (ws.foldl (bsS q) p)
  | [], pre, p, h, _ => by simpa using h
  | w :: ws, pre, p, h, hw => by
    have := binv_all hq ws (pre ++ [w]) _ (binv_step hq h (hw w List.mem_cons_self)) fun x hx => hw x (List.mem_cons_of_mem _ hx)
    rw [List.append_assoc] at this
    exact this
theorem binv (hq : P23 q) (hw : Wds q n ws) : BInv q n ws (bs q n ws) := by
  have := binv_all hq ws [] (bs0 n) (binv0 hq.pos) hw
  rw [List.nil_append] at this
  exact this
end
/-! ### all words stand in order -/
theorem leW_cons {s t : Nat} {a b : List Nat} : leW (s :: a) (t :: b) = true ↔ s < t ∨ (s = t ∧ leW a b = true) := by
  unfold leW
  rw [leS_iff, leS_iff, wd_cps, wd_cps, wd_cps, wd_cps, List.map_cons, List.map_cons, List.cons_le_cons_iff]
  constructor
  · rintro (h | ⟨h1, h2⟩)
    · exact .inl (by omega)
    · exact .inr ⟨by omega, h2⟩
  · rintro (h | ⟨h1, h2⟩)
    · exact .inl (by omega)
    · exact .inr ⟨by omega, h2⟩
theorem leW_self (a : List Nat) : leW a a = true := by
  have := leW_total a a
  simpa using this
theorem leW_app : ∀ {a b : List Nat} (x y : List Nat), a.length = b.length → a ≠ b → leW a b = true → leW (a ++ x) (b ++ y) = true
  | [], [], _, _, _, h, _ => absurd rfl h
  | s :: a, t :: b, x, y, hl, hn, h => by
    show leW (s :: (a ++ x)) (t :: (b ++ y)) = true
    rcases leW_cons.mp h with z | ⟨rfl, z⟩
    · exact leW_cons.mpr (.inl z)
    · exact leW_cons.mpr (.inr ⟨rfl, leW_app x y (by simpa using hl) (fun e => hn (by rw [e])) z⟩)
theorem leW_last : ∀ (a : List Nat) {s t : Nat}, s < t → leW (a ++ [s]) (a ++ [t]) = true
  | [], s, t, h => leW_cons.mpr (.inl h)
  | x :: a, s, t, h => leW_cons.mpr (.inr ⟨rfl, leW_last a h⟩)
theorem allL_ord (q : Nat) : ∀ n, (allL q n).Pairwise fun a b => a ≠ b ∧ leW a b = true
  | 0 => List.pairwise_singleton _ _
  | n + 1 => by
    unfold allL
    rw [List.pairwise_flatMap]
    refine ⟨fun w _ => ?_, ?_⟩
    · rw [List.pairwise_map]
      refine List.pairwise_lt_range.imp fun {s t} h => ⟨fun e => ?_, leW_last w h⟩
      have := List.append_cancel_left e
      simp at this
      omega
    · refine List.Pairwise.imp_of_mem (fun {a b} ha hb h => ?_) (allL_ord q n)
      intro x hx y hy
      obtain ⟨s, _, rfl⟩ := List.mem_map.mp hx
      obtain ⟨t, _, rfl⟩ := List.mem_map.mp hy
      have hl : a.length = b.length := by rw [allL_wlen q n a ha, allL_wlen q n b hb]
      refine ⟨fun e => h.1 (List.append_inj_left e hl), leW_app _ _ hl h.1 h.2⟩
theorem allL_nd (q n : Nat) : (allL q n).Nodup := (allL_ord q n).imp fun h => h.1
theorem filter_srt {q n : Nat} {p : List Nat → Bool} {T : List (List Nat)} (h : ((allL q n).filter p).Perm T) : (allL q n).filter p = srtL T :=
  srtL_of h (((allL_ord q n).sublist List.filter_sublist).imp fun h => h.2)
/-! ### counting -/
theorem nd_sub {A B : List (List Nat)} (hA : A.Nodup) (hB : B.Nodup) (h : ∀ x ∈ A, x ∈ B) : A.length ≤ B.length ∧ (B.length ≤ A.length → A.Perm B) := by
  have hp : (B.filter fun x => decide (x ∈ A)).Perm A := (List.perm_ext_iff_of_nodup (hB.sublist List.filter_sublist) hA).mpr fun x => by
    rw [List.mem_filter, decide_eq_true_eq]
    exact ⟨fun z => z.2, fun z => ⟨h x z, z⟩⟩
  have hl := hp.length_eq
  have hf := List.length_filter_le (fun x => decide (x ∈ A)) B
  refine ⟨by omega, fun hle => ?_⟩
  have he : (B.filter fun x => decide (x ∈ A)) = B := List.Sublist.eq_of_length_le List.filter_sublist (by omega)
  rw [he] at hp
  exact hp.symm
end WA

/-! WP12: spans and the words that check them. -/
namespace WA
open PySem PySem.Spec PyProof.Rows L2
theorem dot_cons (x y : Nat) (a b : List Nat) : dotW (x :: a) (y :: b) = x * y + dotW a b := rfl
theorem dot_nil_r (a : List Nat) : dotW a [] = 0 := by cases a <;> rfl
theorem dot_plus (q : Nat) : ∀ (a b o : List Nat), a.length = b.length → dotW (plusW q a b) o % q = (dotW a o + dotW b o) % q
  | [], [], o, _ => rfl
  | x :: a, y :: b, [], _ => by
    rw [dot_nil_r, dot_nil_r, dot_nil_r]
  | x :: a, y :: b, z :: o, h => by
    have ih := dot_plus q a b o (by simpa using h)
    show dotW ((x + y) % q :: plusW q a b) (z :: o) % q = _
    rw [dot_cons, dot_cons, dot_cons, Nat.add_mod, Nat.mod_mul_mod, ih, ← Nat.add_mod, Nat.add_mul]
    congr 1
    omega
theorem dot_times (q : Nat) : ∀ (a o : List Nat) (t : Nat), dotW (timesW q a t) o % q = t * dotW a o % q
  | [], o, t => by
    show 0 % q = t * 0 % q
    simp
  | x :: a, [], t => by rw [dot_nil_r, dot_nil_r, Nat.mul_zero]
  | x :: a, z :: o, t => by
    have ih := dot_times q a o t
    show dotW (x * t % q :: timesW q a t) (z :: o) % q = _
    rw [dot_cons, dot_cons, Nat.add_mod, Nat.mod_mul_mod, ih, ← Nat.add_mod, Nat.mul_add]
    congr 1
    rw [Nat.mul_assoc, Nat.mul_left_comm]
theorem dot_zero : ∀ (n : Nat) (o : List Nat), dotW (zW n) o = 0
  | 0, o => rfl
  | n + 1, [] => rfl
  | n + 1, z :: o => by
    show dotW (0 :: zW n) (z :: o) = 0
    rw [dot_cons, dot_zero n o, Nat.zero_mul]
theorem mem_chk {q n : Nat} {ws : List (List Nat)} {u : List Nat} : u ∈ chkL q n ws ↔ Wd q n u ∧ ∀ o ∈ ws, dotW u o % q = 0 := by
  unfold chkL
  rw [List.mem_filter, mem_allL]
  unfold chkB
  rw [Bool.not_eq_true', List.any_eq_false]
  constructor
  · rintro ⟨h1, h2⟩
    refine ⟨h1, fun o ho => ?_⟩
    have := h2 o ho
    unfold offB at this
    simpa using this
  · rintro ⟨h1, h2⟩
    refine ⟨h1, fun o ho => ?_⟩
    unfold offB
    simp [h2 o ho]
section
variable {q n : Nat} {ws T : List (List Nat)} {u : List Nat}
theorem chk_sub (hq : 0 < q) : Sub q n (chkL q n ws) := by
  refine ⟨(allL_nd q n).sublist List.filter_sublist, fun w hw => (mem_chk.mp hw).1, mem_chk.mpr ⟨.zero hq, fun o _ => by rw [dot_zero, Nat.zero_mod]⟩, fun a ha b hb => ?_⟩
  obtain ⟨a1, a2⟩ := mem_chk.mp ha
  obtain ⟨b1, b2⟩ := mem_chk.mp hb
  refine mem_chk.mpr ⟨a1.plus hq b1, fun o ho => ?_⟩
  rw [dot_plus q a b o (by rw [a1.1, b1.1]), Nat.add_mod, a2 o ho, b2 o ho, Nat.zero_add, Nat.zero_mod]
theorem all_sub (hq : 0 < q) : Sub q n (allL q n) := ⟨allL_nd q n, Wds.all q n, mem_allL.mpr (.zero hq), fun a ha b hb => mem_allL.mpr ((mem_allL.mp ha).plus hq (mem_allL.mp hb))⟩
/-- who checks the rows checks their span -/
theorem chk_span (hq : P23 q) (hw : Wds q n ws) (hu : u ∈ chkL q n ws) : ∀ x ∈ (bs q n ws).2, dotW u x % q = 0 := fun x hx => by
  have hu1 := (mem_chk.mp hu).1
  have := (binv hq hw).least (chkL q n [u]) (chk_sub hq.pos) (fun w hw' => mem_chk.mpr ⟨hw w hw', fun o ho => by
    rw [List.mem_singleton.mp ho, dotW_comm]
    exact (mem_chk.mp hu).2 w hw'⟩) x hx
  rw [dotW_comm]
  exact (mem_chk.mp this).2 u (by simp)
theorem chk_eq (hq : P23 q) (hw : Wds q n ws) : chkL q n (bs q n ws).2 = chkL q n ws := by
  unfold chkL
  refine List.filter_congr fun u hu => ?_
  have hu := mem_allL.mp hu
  have e : (u ∈ chkL q n (bs q n ws).2) ↔ u ∈ chkL q n ws := by
    constructor
    · intro h
      exact mem_chk.mpr ⟨hu, fun o ho => (mem_chk.mp h).2 o ((binv hq hw).all o ho)⟩
    · intro h
      exact mem_chk.mpr ⟨hu, chk_span hq hw h⟩
  unfold chkL at e
  rw [List.mem_filter, List.mem_filter] at e
  have hm := mem_allL.mpr hu
  cases h1 : chkB q (bs q n ws).2 u <;> cases h2 : chkB q ws u
  · rfl
  · exact absurd (e.mpr ⟨hm, h2⟩).2 (by rw [h1]; exact Bool.false_ne_true)
  · exact absurd (e.mp ⟨hm, h1⟩).2 (by rw [h2]; exact Bool.false_ne_true)
  · rfl
/-! the double count -/
def fI (q x : Nat) : Int := if x % q = 0 then (q : Int) - 1 else -1
theorem fI_mod (q x : Nat) : fI q (x % q) = fI q x := by
  unfold fI
  rw [Nat.mod_mod]
theorem fI_same {x y : Nat} (h : x % q = y % q) : fI q x = fI q y := by rw [← fI_mod, h, fI_mod]
theorem sum_perm {α : Type} (f : α → Int) {l l' : List α} (p : l.Perm l') : (l.map f).sum = (l'.map f).sum := by
  induction p with
  | nil => rfl
  | cons x _ ih => rw [List.map_cons, List.map_cons, List.sum_cons, List.sum_cons, ih]
  | swap x y l =>
    rw [List.map_cons, List.map_cons, List.map_cons, List.map_cons, List.sum_cons, List.sum_cons, List.sum_cons, List.sum_cons]
    omega
  | trans _ _ ih1 ih2 => rw [ih1, ih2]
theorem sum_add {α : Type} (f g : α → Int) : ∀ l : List α, (l.map fun a => f a + g a).sum = (l.map f).sum + (l.map g).sum
  | [] => rfl
  | a :: l => by
    rw [List.map_cons, List.map_cons, List.map_cons, List.sum_cons, List.sum_cons, List.sum_cons, sum_add f g l]
    omega
theorem sum_zero {α : Type} (f : α → Int) : ∀ l : List α, (∀ a ∈ l, f a = 0) → (l.map f).sum = 0
  | [], _ => rfl
  | a :: l, h => by
    rw [List.map_cons, List.sum_cons, sum_zero f l fun b hb => h b (List.mem_cons_of_mem _ hb), h a List.mem_cons_self]
    rfl
theorem sum_const {α : Type} (f : α → Int) (k : Int) : ∀ l : List α, (∀ a ∈ l, f a = k) → (l.map f).sum = (l.length : Int) * k
  | [], _ => by simp
  | a :: l, h => by
    rw [List.map_cons, List.sum_cons, sum_const f k l fun b hb => h b (List.mem_cons_of_mem _ hb), h a List.mem_cons_self, List.length_cons]
    rw [show ((l.length + 1 : Nat) : Int) = (l.length : Int) + 1 by simp, Int.add_mul]
    omega
theorem sum_swap {α β : Type} (f : α → β → Int) (B : List β) : ∀ A : List α, (A.map fun a => (B.map fun b => f a b).sum).sum = (B.map fun b => (A.map fun a => f a b).sum).sum
  | [] => by
    rw [sum_zero (fun b => (([] : List α).map fun a => f a b).sum) B fun b _ => rfl]
    rfl
  | a :: A => by
    rw [List.map_cons, List.sum_cons, sum_swap f B A, ← sum_add]
    rfl
theorem shift_perm (hq : P23 q) (h : Sub q n T) {c : List Nat} (hc : c ∈ T) : (T.map fun x => plusW q x c).Perm T := by
  refine (List.perm_ext_iff_of_nodup ?_ h.nd).mpr fun x => ?_
  · unfold List.Nodup
    rw [List.pairwise_map]
    exact List.Pairwise.imp_of_mem (fun {x y} hx hy z e => z (plus_cancel hq (h.wd x hx) (h.wd y hy) (h.wd c hc) e)) h.nd
  · rw [List.mem_map]
    constructor
    · rintro ⟨y, hy, rfl⟩
      exact h.add _ hy _ hc
    · intro hx
      exact ⟨_, h.neg hq.pos hx hc, plus_back2 hq (h.wd x hx) (h.wd c hc)⟩
theorem shift_sum (hq : P23 q) (h : Sub q n T) {c : List Nat} (hc : c ∈ T) (t : Nat) : (T.map fun x => fI q (dotW x u + t * dotW c u)).sum = (T.map fun x => fI q (dotW x u)).sum := by
  have hm := h.times hq.pos hc t
  rw [← sum_perm (fun x => fI q (dotW x u)) (shift_perm hq h hm), List.map_map]
  congr 1
  refine List.map_congr_left fun x hx => ?_
  refine fI_same ?_
  rw [dot_plus q x _ u (by rw [(h.wd x hx).1, (h.wd _ hm).1]), Nat.add_mod, Nat.add_mod (dotW x u) (dotW (timesW q c t) u), dot_times]
theorem none_sum (hq : P23 q) (h : Sub q n T) {c : List Nat} (hc : c ∈ T) (hd : dotW c u % q ≠ 0) : (T.map fun x => fI q (dotW x u)).sum = 0 := by
  have s1 := shift_sum (u := u) hq h hc 1
  have s2 := shift_sum (u := u) hq h hc 2
  generalize dotW c u = y at *
  rcases hq with rfl | rfl
  · have z : (T.map fun x => fI 2 (dotW x u) + fI 2 (dotW x u + 1 * y)).sum = 0 := sum_zero _ _ fun x _ => by
      generalize dotW x u = a
      unfold fI
      split <;> split <;> omega
    rw [sum_add, s1] at z
    omega
  · have z : (T.map fun x => fI 3 (dotW x u) + (fI 3 (dotW x u + 1 * y) + fI 3 (dotW x u + 2 * y))).sum = 0 := sum_zero _ _ fun x _ => by
      generalize dotW x u = a
      unfold fI
      have h1 : a % 3 = 0 ∨ a % 3 = 1 ∨ a % 3 = 2 := by omega
      have h2 : y % 3 = 1 ∨ y % 3 = 2 := by omega
      rcases h1 with h1 | h1 | h1 <;> rcases h2 with h2 | h2 <;> split <;> split <;> split <;> omega
    rw [sum_add, sum_add, s1, s2] at z
    omega
/-- a word that is not nought is seen by some word -/
theorem seen (hq : P23 q) : ∀ {n : Nat} {c : List Nat}, Wd q n c → c ≠ zW n → ∃ u, Wd q n u ∧ dotW u c % q ≠ 0
  | 0, [], _, h => absurd rfl h
  | n + 1, x :: c, hw, hne => by
    have hx := hw.2 x List.mem_cons_self
    have hc : Wd q n c := ⟨by have := hw.1; simpa using this, fun s hs => hw.2 s (List.mem_cons_of_mem _ hs)⟩
    have hq1 : 1 < q := by rcases hq with rfl | rfl <;> decide
    by_cases z : x = 0
    · subst z
      obtain ⟨u, hu, hd⟩ := seen hq hc fun e => hne (by rw [e]; rfl)
      refine ⟨0 :: u, ⟨by simp [hu.1], fun s hs => ?_⟩, ?_⟩
      · rcases List.mem_cons.mp hs with z | z
        · rw [z]; exact hq.pos
        · exact hu.2 s z
      · rw [dot_cons, Nat.zero_mul, Nat.zero_add]
        exact hd
    · refine ⟨1 :: zW n, ⟨by simp [zW], fun s hs => ?_⟩, ?_⟩
      · rcases List.mem_cons.mp hs with z | z
        · rw [z]; exact hq1
        · exact (Wd.zero (n := n) hq.pos).2 s z
      · rw [dot_cons, dot_zero, Nat.one_mul, Nat.add_zero, Nat.mod_eq_of_lt hx]
        exact z
  | 0, _ :: _, hw, _ => absurd hw.1 (by simp)
  | _ + 1, [], hw, _ => absurd hw.1 (by simp)
theorem split_sum {α : Type} (p : α → Bool) (f : α → Int) (k : Int) : ∀ l : List α, (∀ a ∈ l, p a = true → f a = k) → (∀ a ∈ l, p a = false → f a = 0) → (l.map f).sum = ((l.filter p).length : Int) * k
  | [], _, _ => by simp
  | a :: l, h1, h2 => by
    have ih := split_sum p f k l (fun b hb => h1 b (List.mem_cons_of_mem _ hb)) (fun b hb => h2 b (List.mem_cons_of_mem _ hb))
    rw [List.map_cons, List.sum_cons, ih]
    cases hp : p a with
    | true =>
      rw [h1 a List.mem_cons_self hp, List.filter_cons_of_pos hp, List.length_cons, show (((l.filter p).length + 1 : Nat) : Int) = ((l.filter p).length : Int) + 1 by simp, Int.add_mul]
      omega
    | false =>
      rw [h2 a List.mem_cons_self hp, List.filter_cons_of_neg (by rw [hp]; exact Bool.false_ne_true)]
      omega
theorem one_zero (h : Sub q n T) : (T.filter fun c => decide (c = zW n)).length = 1 := by
  have : (T.filter fun c => decide (c = zW n)).Perm [zW n] := (List.perm_ext_iff_of_nodup (h.nd.sublist List.filter_sublist) (by simp)).mpr fun x => by
    rw [List.mem_filter, decide_eq_true_eq, List.mem_singleton]
    exact ⟨fun z => z.2, fun z => ⟨by rw [z]; exact h.z, z⟩⟩
  have := this.length_eq
  simpa using this
/-- a span and the words that check it -/
theorem double (hq : P23 q) (h : Sub q n T) : T.length * (chkL q n T).length = q ^ n := by
  have k1 : 0 < (q : Int) - 1 := by rcases hq with rfl | rfl <;> decide
  have a1 : ((allL q n).map fun u => (T.map fun c => fI q (dotW c u)).sum).sum = ((chkL q n T).length : Int) * ((T.length : Int) * ((q : Int) - 1)) := by
    refine split_sum (chkB q T) _ _ _ (fun u hu hp => ?_) (fun u hu hp => ?_)
    · have hm : u ∈ chkL q n T := List.mem_filter.mpr ⟨hu, hp⟩
      refine sum_const _ _ _ fun c hc => ?_
      have := (mem_chk.mp hm).2 c hc
      unfold fI
      rw [dotW_comm, if_pos this]
    · have : ∃ c ∈ T, dotW u c % q ≠ 0 := by
        unfold chkB at hp
        rw [Bool.not_eq_false', List.any_eq_true] at hp
        obtain ⟨c, hc, h⟩ := hp
        unfold offB at h
        exact ⟨c, hc, by simpa using h⟩
      obtain ⟨c, hc, hd⟩ := this
      exact none_sum hq h hc (by rw [dotW_comm]; exact hd)
  have a2 : (T.map fun c => ((allL q n).map fun u => fI q (dotW c u)).sum).sum = ((T.filter fun c => decide (c = zW n)).length : Int) * (((q ^ n : Nat) : Int) * ((q : Int) - 1)) := by
    refine split_sum _ _ _ _ (fun c hc hp => ?_) (fun c hc hp => ?_)
    · have hp := of_decide_eq_true hp
      rw [← allL_len q n]
      refine sum_const _ _ _ fun u _ => ?_
      unfold fI
      rw [hp, dot_zero, Nat.zero_mod, if_pos rfl]
    · have hp := of_decide_eq_false hp
      obtain ⟨u, hu, hd⟩ := seen hq (h.wd c hc) hp
      have := none_sum (u := c) hq (all_sub (n := n) hq.pos) (mem_allL.mpr hu) hd
      rw [← this]
      congr 1
      refine List.map_congr_left fun v _ => ?_
      rw [dotW_comm]
  rw [sum_swap (fun u c => fI q (dotW c u)), a2, one_zero h] at a1
  have a3 : ((q ^ n : Nat) : Int) * ((q : Int) - 1) = (((chkL q n T).length * T.length : Nat) : Int) * ((q : Int) - 1) := by
    rw [Int.natCast_mul, Int.mul_assoc]
    simpa using a1
  have a4 := Int.eq_of_mul_eq_mul_right (by omega) a3
  have a5 : q ^ n = (chkL q n T).length * T.length := Int.ofNat.inj a4
  rw [a5, Nat.mul_comm]
/-! what the rows' span is -/
def spanL (q n : Nat) (ws : List (List Nat)) : List (List Nat) := srtL (bs q n ws).2
theorem chk_chk (hq : P23 q) (hw : Wds q n ws) : chkL q n (chkL q n ws) = spanL q n ws := by
  have B := binv hq hw
  have d1 := double hq B.sub
  rw [chk_eq hq hw] at d1
  have d2 := double hq (chk_sub (n := n) (ws := ws) hq.pos)
  have hpos : 0 < q ^ n := Nat.pow_pos hq.pos
  have hl : (chkL q n (chkL q n ws)).length = (bs q n ws).2.length := by
    have : 0 < (chkL q n ws).length := by
      rcases Nat.eq_zero_or_pos (chkL q n ws).length with z | z
      · rw [z, Nat.mul_zero] at d1; omega
      · exact z
    refine Nat.eq_of_mul_eq_mul_left this ?_
    rw [d2, Nat.mul_comm, d1]
  have hs : ∀ x ∈ (bs q n ws).2, x ∈ chkL q n (chkL q n ws) := fun x hx => mem_chk.mpr ⟨B.sub.wd x hx, fun o ho => by rw [dotW_comm]; exact chk_span hq hw ho x hx⟩
  have := (nd_sub B.sub.nd (chk_sub (n := n) (ws := chkL q n ws) hq.pos).nd hs).2 (by omega)
  exact filter_srt this.symm
theorem span_sub (hq : P23 q) {p : List Nat → Bool} (h : Sub q n ((allL q n).filter p)) : spanL q n ((allL q n).filter p) = (allL q n).filter p := by
  have B := binv hq h.wd
  have p1 : ((allL q n).filter p).Perm (bs q n ((allL q n).filter p)).2 := (List.perm_ext_iff_of_nodup h.nd B.sub.nd).mpr fun x => ⟨fun hx => B.all x hx, fun hx => B.least _ h (fun w hw => hw) x hx⟩
  exact (filter_srt p1).symm
theorem base_len (hq : P23 q) (hw : Wds q n ws) : (bs q n ws).1.length ≤ n ∧ (chkL q n ws).length = q ^ (n - (bs q n ws).1.length) := by
  have B := binv hq hw
  have d1 := double hq B.sub
  rw [chk_eq hq hw, B.len] at d1
  have hpos : 0 < q ^ n := Nat.pow_pos hq.pos
  have hq1 : 1 < q := by rcases hq with rfl | rfl <;> decide
  have hk : (bs q n ws).1.length ≤ n := by
    rcases Nat.lt_or_ge n (bs q n ws).1.length with z | z
    · have h1 := Nat.pow_lt_pow_right hq1 z
      have h2 : 1 ≤ (chkL q n ws).length := by
        rcases Nat.eq_zero_or_pos (chkL q n ws).length with y | y
        · rw [y, Nat.mul_zero] at d1; omega
        · exact y
      have := Nat.mul_le_mul_left (q ^ (bs q n ws).1.length) h2
      omega
    · exact z
  refine ⟨hk, ?_⟩
  refine Nat.eq_of_mul_eq_mul_left (Nat.pow_pos (n := (bs q n ws).1.length) hq.pos) ?_
  rw [d1, ← Nat.pow_add]
  congr 1
  omega
theorem base_le (hq : P23 q) (hw : Wds q n ws) : (bs q n ws).2.length ≤ q ^ n := by
  have B := binv hq hw
  have := (nd_sub B.sub.nd (allL_nd q n) fun x hx => mem_allL.mpr (B.sub.wd x hx)).1
  rw [allL_len] at this
  exact this
end
/-! the least weight -/
theorem wt_cons (x : Nat) (w : List Nat) : wt (x :: w) = (if x = 0 then 0 else 1) + wt w := by
  unfold wt
  by_cases h : x = 0
  · rw [List.filter_cons_of_neg (by simp [h]), if_pos h, Nat.zero_add]
  · rw [List.filter_cons_of_pos (by simp [h]), if_neg h, List.length_cons, Nat.add_comm]
theorem ham_wt : ∀ {n : Nat} (w : List Nat), w.length = n → ham w (zW n) = wt w
  | 0, [], _ => rfl
  | n + 1, x :: w, h => by
    show (if x = 0 then 0 else 1) + ham w (zW n) = _
    rw [ham_wt w (by simpa using h), wt_cons]
theorem ham_diff {q : Nat} (hq : P23 q) : ∀ {a b : List Nat}, a.length = b.length → Sg q a → Sg q b → wt (plusW q a (timesW q b (q - 1))) = ham a b
  | [], [], _, _, _ => rfl
  | x :: a, y :: b, h, ga, gb => by
    have ih := ham_diff hq (a := a) (b := b) (by simpa using h) (fun s hs => ga s (List.mem_cons_of_mem _ hs)) (fun s hs => gb s (List.mem_cons_of_mem _ hs))
    have hx := ga x List.mem_cons_self
    have hy := gb y List.mem_cons_self
    show wt ((x + y * (q - 1) % q) % q :: plusW q a (timesW q b (q - 1))) = (if x = y then 0 else 1) + ham a b
    rw [wt_cons, ih]
    congr 1
    have e : (x + y * (q - 1) % q) % q = 0 ↔ x = y := by rcases hq with rfl | rfl <;> omega
    by_cases z : x = y
    · rw [if_pos z, if_pos (e.mpr z)]
    · rw [if_neg z, if_neg fun w => z (e.mp w)]
theorem sub_pw {q n k : Nat} {T : List (List Nat)} (hq : P23 q) (h : Sub q n T) : PW T k ↔ ∀ c ∈ T, c ≠ zW n → k ≤ wt c := by
  constructor
  · intro hp c hc hne
    have := pw_mem hp hc h.z hne
    rw [ham_wt c (h.wd c hc).1] at this
    exact this
  · intro hk
    refine List.Pairwise.imp_of_mem (fun {a b} ha hb hne => ?_) h.nd
    have wa := h.wd a ha
    have wb := h.wd b hb
    rw [← ham_diff hq (by rw [wa.1, wb.1]) wa.2 wb.2]
    refine hk _ (h.neg hq.pos ha hb) fun e => hne ?_
    rw [← plus_back2 hq wa wb, e, plus_comm, plus_zero hq.pos wb]
end WA

namespace K40
open PySem PySem.Spec PyProof.Rows L2 WA
/-! law_k40 -/
theorem List.Nodup.map_on' {α β : Type} {f : α → β} : ∀ {l : List α}, (∀ x ∈ l, ∀ y ∈ l, f x = f y → x = y) → l.Nodup → (l.map f).Nodup
  | [], _, _ => .nil
  | a :: l, h, hn => by
    rw [List.nodup_cons] at hn
    rw [List.map_cons, List.nodup_cons]
    refine ⟨fun hm => ?_, List.Nodup.map_on' (fun x hx y hy => h x (List.mem_cons_of_mem _ hx) y (List.mem_cons_of_mem _ hy)) hn.2⟩
    obtain ⟨b, hb, e⟩ := List.mem_map.mp hm
    have := h b (List.mem_cons_of_mem _ hb) a List.mem_cons_self e
    exact hn.1 (this ▸ hb)
theorem List.Nodup.of_map' {α β : Type} {f : α → β} : ∀ {l : List α}, (l.map f).Nodup → l.Nodup
  | [], _ => .nil
  | a :: l, h => by
    rw [List.map_cons, List.nodup_cons] at h
    rw [List.nodup_cons]
    exact ⟨fun hm => h.1 (List.mem_map.mpr ⟨a, hm, rfl⟩), List.Nodup.of_map' h.2⟩
def stepOk (L : Nat) : Bool := (List.range 40).all fun c => (List.range L).all fun m => decide (m = 0) || decide ((1 + 6 * c) * m % L ≠ 0)
theorem step_all : (((List.range 9).all fun n => stepOk (2 ^ n)) && ((List.range 6).all fun n => stepOk (3 ^ n))) = true := by decide +kernel
theorem step_at {q n : Nat} (hs : szOk q n) {c m : Nat} (hc : c < 40) (hm : m < q ^ n) (h : (1 + 6 * c) * m % (q ^ n) = 0) : m = 0 := by
  have h0 := step_all
  rw [Bool.and_eq_true] at h0
  have h1 : stepOk (q ^ n) = true := by
    unfold szOk at hs
    rcases hs with ⟨rfl, hn⟩ | ⟨rfl, hn⟩
    · exact List.all_eq_true.mp h0.1 n (List.mem_range.mpr (by omega))
    · exact List.all_eq_true.mp h0.2 n (List.mem_range.mpr (by omega))
  have h2 := List.all_eq_true.mp (List.all_eq_true.mp h1 c (List.mem_range.mpr hc)) m (List.mem_range.mpr hm)
  rw [Bool.or_eq_true] at h2
  rcases h2 with z | z
  · exact of_decide_eq_true z
  · exact absurd h (of_decide_eq_true z)
theorem step_lt {q n : Nat} (hs : szOk q n) {c k k' : Nat} {st : Int} (hk' : k' < q ^ n) (hlt : k < k') (h : (st + (1 + 6 * ((c : Int) % 40)) * (k : Int)) % ((q ^ n : Nat) : Int) = (st + (1 + 6 * ((c : Int) % 40)) * (k' : Int)) % ((q ^ n : Nat) : Int)) : False := by
  have h1 : ((1 + 6 * ((c : Int) % 40)) * ((k' - k : Nat) : Int)) % ((q ^ n : Nat) : Int) = 0 := by
    have e : (1 + 6 * ((c : Int) % 40)) * ((k' - k : Nat) : Int) = (st + (1 + 6 * ((c : Int) % 40)) * (k' : Int)) - (st + (1 + 6 * ((c : Int) % 40)) * (k : Int)) := by
      rw [show ((k' - k : Nat) : Int) = (k' : Int) - (k : Int) by omega, Int.mul_sub]
      omega
    rw [e]
    exact Int.emod_eq_emod_iff_emod_sub_eq_zero.mp h.symm
  have e2 : (1 + 6 * ((c : Int) % 40)) * ((k' - k : Nat) : Int) = (((1 + 6 * (c % 40)) * (k' - k) : Nat) : Int) := by
    rw [Int.natCast_mul]
    congr 1
  rw [e2] at h1
  have h2 : (1 + 6 * (c % 40)) * (k' - k) % (q ^ n) = 0 := by
    rw [← Int.natCast_emod] at h1
    omega
  have := step_at hs (Nat.mod_lt c (by decide)) (show k' - k < q ^ n by omega) h2
  omega
theorem step_inj {q n : Nat} (hs : szOk q n) {c k k' : Nat} {st : Int} (hk : k < q ^ n) (hk' : k' < q ^ n) (h : (st + (1 + 6 * ((c : Int) % 40)) * (k : Int)) % ((q ^ n : Nat) : Int) = (st + (1 + 6 * ((c : Int) % 40)) * (k' : Int)) % ((q ^ n : Nat) : Int)) : k = k' := by
  rcases Nat.lt_trichotomy k k' with z | z | z
  · exact (step_lt hs hk' z h).elim
  · exact z
  · exact (step_lt hs hk z h.symm).elim
def f__law_many : FSpec := ⟨"_law_many", [.own, .val, .val], true,
  fun xs => ∃ (ds : List Int) (q n : Nat), xs = [.list (ds.map PyData.int), .int q, .int n] ∧ Drawn ds ∧ szOk q n,
  fun xs r yss => ∀ (q n : Nat), xs[1]? = some (.int q) → xs[2]? = some (.int n) → ∃ (ws : List (List Nat)) (ds : List Int), r = .list (ws.map sw) ∧ Wds q n ws ∧ ws.length ≤ 256 ∧ 1 ≤ ws.length ∧ ws.Nodup ∧ Drawn ds ∧ yss = [ds.map PyData.int]⟩
/-! _law_many: 0 _law_draws_here, 1 _law_q, 2 _law_n, 3 _law_every, 4 _law_start, 5 _law_step, 6 _law_found, 7 _law_k -/
def t__law_many : VS := (tSCons (tAsgV 3 (vT (tCallF f__law_all (tACons (tvar 1) (tACons (tvar 2) tANil)))))
    (tSCons (tAsgT [4, 5] (vT (tTupD (tACons (vT (tBin .mod (vT (tCallF f__law_pop (tACons (tvar 0) tANil))) (vT (tBlt .len (tACons (tvar 3) tANil))))) (tACons (vT (tBin .add (vT (tcon (.int 1))) (vT (tBin .mul (vT (tcon (.int 6))) (vT (tBin .mod (vT (tCallF f__law_pop (tACons (tvar 0) tANil))) (vT (tcon (.int 40))))))))) tANil)))))
    (tSCons (tAsgV 6 (vT (tLcV (.one 7) (tRng1 (vT (tBlt .len (tACons (tvar 3) tANil)))) tYesV (vT (tIx (tvar 3) (vT (tBin .mod (vT (tBin .add (tvar 4) (vT (tBin .mul (tvar 5) (tvar 7))))) (vT (tBlt .len (tACons (tvar 3) tANil))))))))))
    (tSCons (tRetN (tSlL (tvar 6) tONo (tOSo (vT (tBin .sub (vT (tBlt .len (tACons (tvar 3) tANil))) (vT (tBin .mod (vT (tCallF f__law_pop (tACons (tvar 0) tANil))) (vT (tIx (vT (tLstD (tACons (vT (tcon (.int 1))) (tACons (vT (tBlt .len (tACons (tvar 3) tANil))) tANil)))) (vT (tBin .mod (vT (tCallF f__law_pop (tACons (tvar 0) tANil))) (vT (tcon (.int 2))))))))))))))
    tSNil))))
theorem plain__law_many : Plain f__law_many 8 t__law_many := by
  rintro xs ρ ⟨ds, q, n, rfl, hd, hs⟩ hi
  cases hi
  have hq2 := hs.q2
  refine ⟨rfl, ⟨q, n, rfl, hs⟩, fun r yss h => ?_⟩
  obtain ⟨rfl, rfl⟩ := h q n rfl
  refine ⟨rfl, ⟨ds, rfl, hd⟩, fun r yss h => ?_⟩
  obtain ⟨c1, ds1, rfl, hc1, hd1, rfl⟩ := h
  have hL := allL_len q n
  have hp := pow_le hs
  have hp1 : 1 ≤ q ^ n := Nat.le_trans Nat.one_le_two_pow (Nat.pow_le_pow_left hq2 n)
  have hlen : (((allL q n).map sw).length : Int) = ((q ^ n : Nat) : Int) := by rw [List.length_map, hL]
  refine ⟨by rw [hlen]; omega, rfl, ⟨ds1, rfl, hd1⟩, fun r yss h => ?_⟩
  obtain ⟨c2, ds2, rfl, hc2, hd2, rfl⟩ := h
  refine ⟨by decide, mul_l ⟨by decide, by decide⟩, sz_le (by simp), ?_⟩
  refine ⟨by rw [hlen]; omega, by rw [hlen]; omega, rfl, rfl, ?_⟩
  have hpos : (0 : Int) < (((allL q n).map sw).length : Int) := by rw [hlen]; omega
  generalize hst : ((c1 : Nat) : Int) % (((allL q n).map sw).length : Int) = st
  generalize hsp : (1 : Int) + 6 * (((c2 : Nat) : Int) % 40) = sp
  have hsp' : -(2 ^ 64) < sp ∧ sp < 2 ^ 64 := by omega
  have pick : ∀ k : Nat, ∃ w, atI ((allL q n).map sw) ((st + sp * ((k : Nat) : Int)) % (((allL q n).map sw).length : Int)) = some (sw w) ∧ w ∈ allL q n := fun k => by
    obtain ⟨w, h1, h2, _⟩ := sws_at (ws := allL q n) (k := (st + sp * ((k : Nat) : Int)) % (((allL q n).map sw).length : Int)) (Int.emod_nonneg _ (by omega)) (by
      have := Int.emod_lt_of_pos (st + sp * ((k : Nat) : Int)) hpos
      rw [List.length_map] at this ⊢
      exact this)
    exact ⟨w, h1, h2⟩
  refine lc_map (fun i : Nat => [PyData.int (i : Nat)]) (fun k => (atI ((allL q n).map sw) ((st + sp * ((k : Nat) : Int)) % (((allL q n).map sw).length : Int))).getD .none) (List.range (q ^ n)) (by rw [hlen]; exact rng0 _) guard_nil (fun k hk => ?_) (sz_le (by simp; omega)) ?_
  · obtain ⟨w, h1, h2⟩ := pick k
    refine ⟨_, rfl, rfl, fun K k2 => ⟨mul_l hsp', hpos, _, h1, ?_⟩⟩
    rw [h1] at k2
    exact k2
  obtain ⟨ws, f1, f2, e3⟩ := map_sw_of (as := List.range (q ^ n)) (f := fun k => (atI ((allL q n).map sw) ((st + sp * ((k : Nat) : Int)) % (((allL q n).map sw).length : Int))).getD .none) (P := fun w => w ∈ allL q n) (fun k hk => by
    obtain ⟨w, h1, h2⟩ := pick k
    exact ⟨w, by rw [h1]; rfl, h2⟩)
  rw [f1]
  rw [List.length_range] at f2
  refine ⟨rfl, ⟨ds2, rfl, hd2⟩, fun r yss h => ?_⟩
  obtain ⟨c3, ds3, rfl, hc3, hd3, rfl⟩ := h
  refine ⟨sz_le (by simp), rfl, ⟨ds3, rfl, hd3⟩, fun r yss h => ?_⟩
  obtain ⟨c4, ds4, rfl, hc4, hd4, rfl⟩ := h
  have two : ∃ b : Int, atI [PyData.int 1, PyData.int (((allL q n).map sw).length : Int)] (((c4 : Nat) : Int) % 2) = some (.int b) ∧ 0 < b ∧ b ≤ (q ^ n : Nat) := by
    have h2 : ((c4 : Nat) : Int) % 2 = 0 ∨ ((c4 : Nat) : Int) % 2 = 1 := by omega
    rcases h2 with h2 | h2
    · rw [h2]
      exact ⟨1, rfl, by decide, by omega⟩
    · rw [h2]
      exact ⟨_, rfl, hpos, by omega⟩
  obtain ⟨b, hb, hb0, hb1⟩ := two
  refine ⟨by decide, _, hb, hb0, ?_⟩
  have hm0 := Int.emod_nonneg ((c3 : Nat) : Int) (show b ≠ 0 by omega)
  have hm1 := Int.emod_lt_of_pos ((c3 : Nat) : Int) hb0
  obtain ⟨j, hj⟩ : ∃ j : Nat, (((allL q n).map sw).length : Int) - ((c3 : Nat) : Int) % b = (j : Nat) := Int.eq_ofNat_of_zero_le (by omega)
  show ∃ yss, f__law_many.post _ (.list (cutD (ws.map sw) none (some ((((allL q n).map sw).length : Int) - ((c3 : Nat) : Int) % b)))) yss ∧ _
  rw [hj, cut_sws]
  refine ⟨_, fun q' n' e1 e2 => ?_, .cons rfl .nil⟩
  have e1 : some (PyData.int q) = some (PyData.int q') := e1
  have e2 : some (PyData.int n) = some (PyData.int n') := e2
  cases e1
  cases e2
  have hnd : ws.Nodup := by
    have hnd2 : (ws.map sw).Nodup := by
      rw [← f1]
      refine List.Nodup.map_on' ?_ List.nodup_range
      intro k hk k' hk' he
      have hk := List.mem_range.mp hk
      have hk' := List.mem_range.mp hk'
      obtain ⟨x, hx⟩ := Int.eq_ofNat_of_zero_le (Int.emod_nonneg (st + sp * ((k : Nat) : Int)) (show (((allL q n).map sw).length : Int) ≠ 0 by omega))
      obtain ⟨y, hy⟩ := Int.eq_ofNat_of_zero_le (Int.emod_nonneg (st + sp * ((k' : Nat) : Int)) (show (((allL q n).map sw).length : Int) ≠ 0 by omega))
      have hx1 := Int.emod_lt_of_pos (st + sp * ((k : Nat) : Int)) hpos
      have hy1 := Int.emod_lt_of_pos (st + sp * ((k' : Nat) : Int)) hpos
      rw [hx] at hx1 he
      rw [hy] at hy1 he
      rw [hlen] at hx1 hy1
      have hxl : x < (allL q n).length := by rw [hL]; omega
      have hyl : y < (allL q n).length := by rw [hL]; omega
      rw [atI_nat (xs := (allL q n).map sw) (j := x) (v := sw (allL q n)[x]) (by rw [List.getElem?_map, List.getElem?_eq_getElem hxl]; rfl), atI_nat (xs := (allL q n).map sw) (j := y) (v := sw (allL q n)[y]) (by rw [List.getElem?_map, List.getElem?_eq_getElem hyl]; rfl)] at he
      have he : (allL q n)[x] = (allL q n)[y] := sw_inj he
      have hxy : x = y := by
        refine (List.getElem?_inj hxl (allL_nd q n)).mp ?_
        rw [List.getElem?_eq_getElem hxl, List.getElem?_eq_getElem hyl, he]
      subst hxy
      rw [hlen] at hx hy
      rw [← hsp] at hx hy
      exact step_inj hs hk hk' (c := c2) (st := st) (hx.trans hy.symm)
    exact List.Nodup.of_map' hnd2
  refine ⟨ws.take j, ds4, rfl, fun w hw => mem_allL.mp (e3 w (List.take_subset _ _ hw)), ?_, ?_, List.Nodup.sublist (List.take_sublist _ _) hnd, hd4, rfl⟩
  · rw [List.length_take]
    omega
  · rw [List.length_take]
    omega

def f_is_word : FSpec := ⟨"is_word", [.val, .val, .val], false, fun xs => ∃ (q n : Nat) (w : List Nat), xs = [.int q, .int n, sw w] ∧ Wd q n w ∧ q ≤ 9 ∧ n ≤ 1000, fun _ r yss => r = .bool true ∧ yss = []⟩
/-! is_word: 0 q, 1 n, 2 text, 3 signs, 4 sign -/
def t_is_word : VS := (tSCons (tAsgV 3 (vT (tLcV (.one 4) (tRng1 (tvar 0)) tYesV (vT (tBlt .str (tACons (tvar 4) tANil))))))
    (tSCons (tRetV (tAnd2 (vT (tCmp .eq (vT (tBlt .len (tACons (tvar 2) tANil))) (tvar 1))) (vT (tNt (vT (tBlt .any (tACons (vT (tLcV (.one 4) (tItS (tvar 2)) tYesV (vT (tCmp .nmem (tvar 4) (tvar 3))))) tANil)))))))
    tSNil))
theorem plain_is_word : Plain f_is_word 5 t_is_word := by
  rintro xs ρ ⟨q, n, w, rfl, hw, hq, hn⟩ hi
  cases hi
  have hwl := hw.1
  refine ⟨by omega, by omega, rfl, rfl, ?_⟩
  refine lc_map (fun i : Nat => [PyData.int (i : Nat)]) (fun s => sw [s]) (List.range q) (rng0 q) guard_nil (fun a ha => ?_) (len_le List.length_range (by omega)) ?_
  · have ha := List.mem_range.mp ha
    refine ⟨_, rfl, rfl, fun K2 k2 => ⟨sign_log (by omega), ?_⟩⟩
    show K2 (.val (.str ((toString (a : Int) : String) : Str))) _
    rw [sign_str (by omega)]
    exact k2
  refine ⟨wd_small (by omega), rfl, fun _ => ⟨rfl, rfl, ?_⟩, fun h => ?_⟩
  · refine lc_map (fun s : Nat => [sw [s]]) (fun _ => .bool false) w ?_ guard_nil (fun s hs => ⟨_, rfl, rfl, fun K k => ⟨rfl, ?_, ?_⟩⟩) (len_le hwl (by omega)) ?_
    · rw [wd_cps, List.map_map]
      rfl
    · rw [List.all_map]
      exact List.all_eq_true.mpr fun _ _ => rfl
    · have hin : inD (sw [s]) ((List.range q).map fun s => sw [s]) = true := by
        unfold inD
        rw [List.any_map, List.any_eq_true]
        refine ⟨s, List.mem_range.mpr (hw.2 s hs), ?_⟩
        show PyData.eqv (sw [s]) (sw [s]) = true
        rw [eqv_sw]
        exact decide_eq_true rfl
      show K (.val (.bool (!inD (sw [s]) ((List.range q).map fun s => sw [s])))) _
      rw [hin]
      exact k
    · refine ⟨w.map fun _ => false, by rw [List.map_map]; rfl, [], ⟨?_, rfl⟩, .nil⟩
      have : (w.map fun _ => false).any id = false := by
        rw [List.any_map]
        exact List.any_eq_false.mpr fun _ _ => by simp
      show PyData.bool (!((w.map fun _ => false).any id)) = _
      rw [this]
      rfl
  · have h : PyData.eqv (.int ((wd w).length : Nat)) (.int (n : Nat)) = false := h
    rw [eqv_int, wd_len, hwl] at h
    simp at h
def f_sure : FSpec := ⟨"sure", [.val], false, fun xs => xs = [.bool true], fun _ r yss => r = .none ∧ yss = []⟩
/-! sure: 0 good -/
def t_sure : VS := (tSCons (tIf (cOf (vT (tNt (tvar 0)))) (tSCons tNever
    tSNil) tSNil)
    tSNil)
theorem plain_sure : Plain f_sure 1 t_sure := by
  rintro xs ρ rfl hi
  cases hi
  exact ⟨fun h => (by cases h), fun _ => ⟨rfl, [], ⟨rfl, rfl⟩, .nil⟩⟩
/-! texts of lists -/
def gap : Str := " "
def txt (ws : List (List Nat)) : Str := if ws = [] then "-" else Txt.join gap (ws.map wd)
theorem txt_nil : txt [] = ("-" : Str) := rfl
theorem txt_cons {ws : List (List Nat)} (h : ws ≠ []) : txt ws = Txt.join gap (ws.map wd) := if_neg h
theorem tl_wd (w : List Nat) : TL.tl (wd w) = w.map (· + 48) := wd_cps w
theorem split_txt {ws : List (List Nat)} (h : ws ≠ []) : Txt.split (txt ws) gap = ws.map wd := by
  rw [txt_cons h]
  refine TL.split_join (s := 32) (S := []) rfl (by decide +kernel) (fun z => h (List.map_eq_nil_iff.mp z)) fun p hp hm => ?_
  obtain ⟨w, _, rfl⟩ := List.mem_map.mp hp
  rw [tl_wd] at hm
  obtain ⟨s, _, e⟩ := List.mem_map.mp hm
  omega
theorem txt_ne {ws : List (List Nat)} (h : ws ≠ []) : txt ws ≠ ("-" : Str) := fun z => by
  have h1 := split_txt h
  rw [z] at h1
  have h2 : Txt.split ("-" : Str) gap = [("-" : Str)] := by decide +kernel
  rw [h2] at h1
  cases ws with
  | nil => exact h rfl
  | cons w ws =>
    have h3 : ("-" : Str) = wd w := by
      injection h1
    have h4 : ("-" : Str).cps.toList = (wd w).cps.toList := by rw [h3]
    rw [wd_cps] at h4
    have h5 : (45 : Nat) ∈ w.map (· + 48) := by rw [← h4]; decide +kernel
    obtain ⟨s, _, e⟩ := List.mem_map.mp h5
    omega
theorem joinL_len (S : List Nat) : ∀ ps : List (List Nat), (TL.joinL S ps).length ≤ (ps.map (·.length)).sum + ps.length * S.length
  | [] => by simp [TL.joinL]
  | [p] => by simp [TL.joinL]
  | p :: q :: r => by
    have ih := joinL_len S (q :: r)
    have e : (TL.joinL S (p :: q :: r)).length = p.length + (S.length + (TL.joinL S (q :: r)).length) := by
      rw [TL.joinL, List.length_append, List.length_append]
    rw [e, List.map_cons, List.sum_cons, List.length_cons, Nat.add_mul]
    omega
theorem sum_len {n : Nat} : ∀ {ws : List (List Nat)}, Len n ws → ((ws.map wd).map (·.length)).sum = ws.length * n
  | [], _ => by simp
  | w :: ws, h => by
    rw [List.map_cons, List.map_cons, List.sum_cons, sum_len (ws := ws) fun x hx => h x (List.mem_cons_of_mem _ hx), wd_len, h w List.mem_cons_self, List.length_cons, Nat.add_mul]
    omega
theorem join_sz {n : Nat} {ws : List (List Nat)} (h : Len n ws) (hn : n ≤ 8) (hl : ws.length ≤ 300) : ((ws.map wd).map (·.length)).sum + (ws.map wd).length * gap.length ≤ 3000 := by
  rw [sum_len h, List.length_map, show gap.length = 1 from rfl]
  have : ws.length * n ≤ 300 * 8 := Nat.mul_le_mul hl hn
  omega
theorem txt_len {n : Nat} {ws : List (List Nat)} (h : Len n ws) (hn : n ≤ 8) (hl : ws.length ≤ 300) : (txt ws).length ≤ 3000 := by
  by_cases z : ws = []
  · rw [z]
    decide
  · rw [txt_cons z, TL.join_eq]
    have h1 : (Str.join gap (ws.map wd)).length = (TL.tl (Str.join gap (ws.map wd))).length := by
      show (Str.join gap (ws.map wd)).cps.size = (Str.join gap (ws.map wd)).cps.toList.length
      simp
    rw [h1, TL.tl_join]
    have h2 := joinL_len (TL.tl gap) ((ws.map wd).map TL.tl)
    have h3 : (((ws.map wd).map TL.tl).map (·.length)).sum = ((ws.map wd).map (·.length)).sum := by
      rw [List.map_map]
      congr 1
    have h4 := join_sz h hn hl
    rw [h3] at h2
    have h5 : ((ws.map wd).map TL.tl).length * (TL.tl gap).length = (ws.map wd).length * gap.length := by
      rw [List.length_map]
      rfl
    omega
def f_show_list : FSpec := ⟨"show_list", [.ro], false, fun xs => ∃ (q n : Nat) (ws : List (List Nat)), xs = [.list (ws.map sw)] ∧ Wds q n ws ∧ q ≤ 3 ∧ n ≤ 8 ∧ ws.length ≤ 300, fun xs r yss => ∀ ws : List (List Nat), xs = [.list (ws.map sw)] → r = .str (txt ws) ∧ yss = []⟩
/-! show_list: 0 words -/
def t_show_list : VS := (tSCons (tIf (cOf (vT (tCmp .eq (tvar 0) (vT (tLstD tANil))))) (tSCons (tRetV (vT (tcon (.str "-"))))
    tSNil) tSNil)
    (tSCons (tRetV (vT (tJoin (vT (tcon (.str " "))) (tvar 0))))
    tSNil))
theorem plain_show_list : Plain f_show_list 1 t_show_list := by
  rintro xs ρ ⟨q, n, ws, rfl, hw, hq, hn, hl⟩ hi
  cases hi
  have hL : Len n ws := fun w h => (hw w h).1
  have fin : ∀ t, t = txt ws → f_show_list.post [.list (ws.map sw)] (.str t) [] := fun t ht ws' e => by
    have e : ws.map sw = ws'.map sw := by simpa using e
    have := sws_inj e
    subst this
    exact ⟨by rw [ht], rfl⟩
  refine ⟨by decide, eqOk_list (sg_ok hq hw.sg) (by simp), fun hb => ⟨[], fin _ ?_, .nil⟩, fun hb => ⟨⟨_, rfl⟩, ws.map wd, sws_eq _, ?_, [], fin _ ?_, .nil⟩⟩
  · have hb : PyData.eqv (.list (ws.map sw)) (.list []) = true := hb
    rw [eqv_sws_nil] at hb
    rw [of_decide_eq_true hb]
    rfl
  · have := join_sz hL hn hl
    show _ + _ * gap.length ≤ _
    omega
  · have hb : PyData.eqv (.list (ws.map sw)) (.list []) = false := hb
    rw [eqv_sws_nil] at hb
    rw [txt_cons (of_decide_eq_false hb)]
    rfl
def f_read_list : FSpec := ⟨"read_list", [.val, .val, .val], true, fun xs => ∃ (q n : Nat) (ws : List (List Nat)), xs = [.int q, .int n, .str (txt ws)] ∧ Wds q n ws ∧ ws.Nodup ∧ q ≤ 3 ∧ n ≤ 8 ∧ ws.length ≤ 300, fun xs r yss => ∀ (q n : Nat) (ws : List (List Nat)), xs = [.int q, .int n, .str (txt ws)] → r = .list (ws.map sw) ∧ yss = []⟩
/-! read_list: 0 q, 1 n, 2 text, 3 words, 4 k, 5 word -/
def t_read_list : VS := (tSCons (tIf (cOf (vT (tCmp .eq (tvar 2) (vT (tcon (.str "-")))))) (tSCons (tRetN (tLstD tANil))
    tSNil) tSNil)
    (tSCons (tAsgO 3 (tSplit (tvar 2) (vT (tcon (.str " ")))))
    (tSCons (tFor [3] (.two 4 5) (tEnum (tvar 3)) (tSCons (tExp (vT (tCallF f_sure (tACons (tAnd2 (vT (tCallF f_is_word (tACons (tvar 0) (tACons (tvar 1) (tACons (tvar 5) tANil))))) (vT (tCmp .nmem (tvar 5) (vT (tSlL (tvar 3) tONo (tOSo (tvar 4))))))) tANil))))
    tSNil))
    (tSCons (tRetO [] 3)
    tSNil))))
theorem txt_inj {a b : List (List Nat)} (h : txt a = txt b) : a = b := by
  by_cases ha : a = []
  · by_cases hb : b = []
    · rw [ha, hb]
    · rw [ha] at h
      exact absurd h.symm (txt_ne hb)
  · by_cases hb : b = []
    · rw [hb] at h
      exact absurd h (txt_ne ha)
    · have h1 := split_txt ha
      rw [h, split_txt hb] at h1
      exact ((List.map_inj_right fun x y e => wd_inj e).mp h1).symm
theorem enum_sws (ws : List (List Nat)) : enumD (ws.map sw) = (List.range ws.length).map fun k : Nat => [PyData.int (k : Int), sw (ws.getD k [])] := by
  unfold enumD
  rw [List.length_map]
  refine List.map_congr_left fun k hk => ?_
  have hk := List.mem_range.mp hk
  rw [List.getD_eq_getElem?_getD, List.getD_eq_getElem?_getD, List.getElem?_map, List.getElem?_eq_getElem hk]
  rfl
theorem plain_read_list : Plain f_read_list 6 t_read_list := by
  rintro xs ρ ⟨q, n, ws, rfl, hw, hnd, hq, hn, hl⟩ hi
  cases hi
  have hL : Len n ws := fun w h => (hw w h).1
  have fin : f_read_list.post [.int q, .int n, .str (txt ws)] (.list (ws.map sw)) [] := fun q' n' ws' e => by
    have e : (q : Int) = q' ∧ (n : Int) = n' ∧ txt ws = txt ws' := by simpa using e
    have := txt_inj e.2.2
    subst this
    exact ⟨rfl, rfl⟩
  refine ⟨rfl, fun hb => ⟨by show 0 ≤ sizeLine; decide, [], ?_, .nil⟩, fun hb => ?_⟩
  · have hb : PyData.eqv (.str (txt ws)) (.str "-") = true := hb
    rw [eqv_str] at hb
    have hb := of_decide_eq_true hb
    have hz : ws = [] := Decidable.byContradiction fun z => txt_ne z hb
    rw [hz] at fin ⊢
    exact fin
  · have hb : PyData.eqv (.str (txt ws)) (.str "-") = false := hb
    rw [eqv_str] at hb
    have hb := of_decide_eq_false hb
    have hz : ws ≠ [] := fun z => hb (by rw [z]; rfl)
    refine ⟨_, rfl, rfl, ?_, ?_⟩
    · have := txt_len hL hn hl
      exact sz_le (by omega)
    have es : (Txt.split (txt ws) (" " : Str)).map PyData.str = ws.map sw := by
      rw [show (" " : Str) = gap from rfl, split_txt hz, List.map_map]
      rfl
    rw [es]
    refine ⟨rfl, ?_⟩
    rw [enum_sws]
    refine for_all (fun k : Nat => [PyData.int (k : Int), sw (ws.getD k [])]) (List.range ws.length) (fun l ρ => ∃ s4 s5, ρ = [.v (.int q), .v (.int n), .v (.str (txt ws)), .own (ws.map sw), s4, s5]) rfl ⟨_, _, rfl⟩ (fun l ρ hI => by obtain ⟨s4, s5, rfl⟩ := hI; exact guard_one rfl) (fun l a p ρ K e hI hK => ?_) (fun ρ hI => ?_)
    · obtain ⟨s4, s5, rfl⟩ := hI
      obtain ⟨rfl, hpl⟩ := range_at e
      have hmem : ws.getD l.length [] ∈ ws := by
        rw [List.getD_eq_getElem?_getD, List.getElem?_eq_getElem hpl]
        exact List.getElem_mem hpl
      have hget : ws[l.length]? = some (ws.getD l.length []) := by
        rw [List.getD_eq_getElem?_getD, List.getElem?_eq_getElem hpl]
        rfl
      generalize ws.getD l.length [] = w at hmem hget
      have hww := hw w hmem
      refine ⟨_, rfl, rfl, ⟨q, n, w, rfl, hww, by omega, by omega⟩, fun r yss h => ?_⟩
      obtain ⟨rfl, rfl⟩ := h
      refine ⟨fun _ => ?_, fun h => (by cases h)⟩
      have hcut : WA.cutD (ws.map sw) none (some ((l.length : Nat) : Int)) = (ws.take l.length).map sw := cut_sws ws l.length
      have hin : inD (sw w) ((ws.take l.length).map sw) = false := by
        unfold inD
        rw [List.any_map, List.any_eq_false]
        intro x hx
        show ¬ PyData.eqv (sw x) (sw w) = true
        rw [eqv_sw]
        intro hz
        have hz := of_decide_eq_true hz
        subst hz
        obtain ⟨i, hi, e⟩ := List.mem_iff_getElem.mp hx
        rw [List.length_take] at hi
        rw [List.getElem_take] at e
        have h2 : ws[i]? = ws[l.length]? := by
          rw [hget, List.getElem?_eq_getElem (by omega), e]
        have := (List.getElem?_inj (show i < ws.length by omega) hnd).mp h2
        omega
      refine ⟨rfl, ?_, ?_⟩
      · rw [hcut, List.all_map]
        exact List.all_eq_true.mpr fun _ _ => rfl
      · have hin : inD (.str (wd w)) ((ws.take l.length).map sw) = false := hin
        rw [hcut, hin]
        refine ⟨rfl, rfl, fun r yss h => ?_⟩
        obtain ⟨rfl, rfl⟩ := h
        exact hK _ ⟨_, _, rfl⟩
    · obtain ⟨s4, s5, rfl⟩ := hI
      exact ⟨rfl, [], fin, .nil⟩
abbrev f_law : FSpec := lawSpec
/-! law: 0 _law_script, 1 _law_draws_here, 2 _law_q, 3 _law_n, 4 _law_words, 5 _law_due, 6 _law_handed, 7 _law_turn, 8 _law_text, 9 _law_found -/
def t_law_3t : VS := (tSCons (tAsgV 4 (vT (tCallF f__law_many (tACons (tvar 1) (tACons (tvar 2) (tACons (tvar 3) tANil))))))
    tSNil)
def t_law_5t : VS := (tSCons (tAsgV 5 (vT (tJoin (vT (tcon (.str " "))) (tvar 4))))
    tSNil)
def t_law_7b_2t : VS := (tSCons (tRetV (vT (tcon (.bool false))))
    tSNil)
def t_law_7b_3 : VS := (tSCons (tExp (vT (tApp 9 (vT (tcon (.str "0"))))))
    tSNil)
def t_law_7b_2 : VS := (tSCons (tIf (cOf (tOr2 (vT (tNt (vT (tIsi .str (tvar 8))))) (tOr2 (vT (tCmp .ne (tvar 8) (tvar 5))) (tOr2 (vT (tNt (vT (tCallF f__law_texts (tACons (tvar 9) tANil))))) (tOr2 (vT (tCmp .ne (tvar 9) (tvar 4))) (vT (tCmp .ne (tvar 6) (tvar 4)))))))) t_law_7b_2t tSNil)
    t_law_7b_3)
def t_law_7b_1 : VS := (tSCons (tAsgO 9 (tCallF f_read_list (tACons (tvar 2) (tACons (tvar 3) (tACons (tvar 5) tANil)))))
    t_law_7b_2)
def t_law_7b : VS := (tSCons (tAsgV 8 (vT (tCallF f_show_list (tACons (tvar 6) tANil))))
    t_law_7b_1)
def t_law_10 : VS := (tSCons (tRetV (tAnd2 (vT (tCmp .eq (vT (tCallF f_show_list (tACons (tvar 6) tANil))) (vT (tBin .add (vT (tJoin (vT (tcon (.str " "))) (tvar 6))) (vT (tRepS (vT (tcon (.str "-"))) (vT (tBlt .int (tACons (vT (tCmp .eq (tvar 6) (vT (tLstD tANil)))) tANil))))))))) (vT (tCmp .eq (tvar 9) (tvar 4)))))
    tSNil)
def t_law_9 : VS := (tSCons (tExp (vT (tRev 6)))
    t_law_10)
def t_law_8 : VS := (tSCons (tAsgO 9 (tCallF f_read_list (tACons (tvar 2) (tACons (tvar 3) (tACons (tvar 5) tANil)))))
    t_law_9)
def t_law_7 : VS := (tSCons (tFor [] (.one 7) (tRng1 (vT (tcon (.int 2)))) t_law_7b)
    t_law_8)
def t_law_6 : VS := (tSCons (tAsgO 6 (tLs (tvar 4)))
    t_law_7)
def t_law_5 : VS := (tSCons (tIf (cOf (vT (tCmp .ne (tvar 4) (vT (tLstD tANil))))) t_law_5t tSNil)
    t_law_6)
def t_law_4 : VS := (tSCons (tAsgV 5 (vT (tcon (.str "-"))))
    t_law_5)
def t_law_3 : VS := (tSCons (tIf (cOf (vT (tCmp .eq (vT (tBin .mod (vT (tCallF f__law_pop (tACons (tvar 1) tANil))) (vT (tcon (.int 8))))) (vT (tcon (.int 1)))))) t_law_3t tSNil)
    t_law_4)
def t_law_2 : VS := (tSCons (tAsgV 4 (vT (tCallF f__law_list (tACons (tvar 1) (tACons (tvar 2) (tACons (tvar 3) (tACons (vT (tcon (.int 30))) (tACons (vT (tcon (.int 1))) tANil))))))))
    t_law_3)
def t_law_1 : VS := (tSCons (tAsgT [2, 3] (vT (tCallF f__law_size (tACons (tvar 1) tANil))))
    t_law_2)
def t_law : VS := (tSCons (tAsgO 1 (tCallF f__law_draws (tACons (tvar 0) (tACons (vT (tcon (.int 2))) (tACons (vT (tcon (.int 40))) tANil)))))
    t_law_1)
section
variable {ns : List Int} {Qn : R → Prop} {Qr : D → R → Prop} {q n : Nat} {ws : List (List Nat)}
theorem rev_txt (ws : List (List Nat)) : PyData.str (txt ws) = .str (Txt.join gap (ws.map wd) ++ Txt.mul ("-" : Str) (if decide (ws = []) then 1 else 0)) := by
  by_cases z : ws = []
  · rw [z]
    have e : txt [] = (Txt.join gap [] ++ Txt.mul ("-" : Str) 1) := by decide +kernel
    rw [e]
    rfl
  · rw [txt_cons z, decide_eq_false z]
    have e : Txt.mul ("-" : Str) (if false = true then 1 else 0) = Str.empty := by decide +kernel
    rw [e]
    congr 1
theorem law_6 (hr : ∀ ρ, Qr (.bool true) ρ) (hw : Wds q n ws) (hnd : ws.Nodup) (hq2 : 2 ≤ q) (hq : q ≤ 3) (hn : n ≤ 8) (hl : ws.length ≤ 300) {ds : List Int} : t_law_6 [.ro false (ns.map PyData.int), .own (ds.map PyData.int), .v (.int q), .v (.int n), .v (.list (ws.map sw)), .v (.str (txt ws)), .no, .no, .no, .no] Qn Qr := by
  have hL : Len n ws := fun w h => (hw w h).1
  have hok := sg_ok hq hw.sg
  show t_law_7 [.ro false (ns.map PyData.int), .own (ds.map PyData.int), .v (.int q), .v (.int n), .v (.list (ws.map sw)), .v (.str (txt ws)), .own (ws.map sw), .no, .no, .no] Qn Qr
  refine ⟨by decide, by decide, rfl, ?_⟩
  refine for_rng0 (n := 2) (fun k ρ => ∃ s7 s8 s9, ρ = [.ro false (ns.map PyData.int), .own (ds.map PyData.int), .v (.int q), .v (.int n), .v (.list (ws.map sw)), .v (.str (txt ws)), .own (ws.map sw), s7, s8, s9]) ⟨_, _, _, rfl⟩ (fun _ _ _ => guard_nil) (fun k ρ K hk hI hK => ?_) (fun ρ hI => ?_)
  · obtain ⟨s7, s8, s9, rfl⟩ := hI
    refine ⟨_, rfl, rfl, ⟨q, n, ws, rfl, hw, hq, hn, hl⟩, fun r yss h => ?_⟩
    obtain ⟨rfl, rfl⟩ := h ws rfl
    refine ⟨rfl, ⟨q, n, ws, rfl, hw, hnd, hq, hn, hl⟩, fun r yss h => ?_⟩
    obtain ⟨rfl, rfl⟩ := h q n ws rfl
    show t_law_7b_2 [.ro false (ns.map PyData.int), .own (ds.map PyData.int), .v (.int q), .v (.int n), .v (.list (ws.map sw)), .v (.str (txt ws)), .own (ws.map sw), .v (.int (k : Nat)), .v (.str (txt ws)), .own (ws.map sw)] K Qr
    refine ⟨rfl, fun h => (by cases h), fun _ => ⟨rfl, fun h => ?_, fun _ => ⟨rfl, ⟨ws, rfl, by omega⟩, fun r yss h => ?_⟩⟩⟩
    · have h : (!PyData.eqv (.str (txt ws)) (.str (txt ws))) = true := h
      rw [eqv_str] at h
      simp at h
    obtain ⟨rfl, rfl⟩ := h
    refine ⟨fun h => (by cases h), fun _ => ⟨eqOk_list hok hok, fun h => ?_, fun _ => ⟨eqOk_list hok hok, fun h => ?_, fun _ => ?_⟩⟩⟩
    · have h : (!PyData.eqv (.list (ws.map sw)) (.list (ws.map sw))) = true := h
      rw [eqv_sws] at h
      simp at h
    · have h : (!PyData.eqv (.list (ws.map sw)) (.list (ws.map sw))) = true := h
      rw [eqv_sws] at h
      simp at h
    · refine ⟨⟨_, rfl⟩, ?_, hK _ ⟨_, _, _, rfl⟩⟩
      rw [List.length_map]
      exact sz_lt (by omega)
  · obtain ⟨s7, s8, s9, rfl⟩ := hI
    refine ⟨rfl, ⟨q, n, ws, rfl, hw, hnd, hq, hn, hl⟩, fun r yss h => ?_⟩
    obtain ⟨rfl, rfl⟩ := h q n ws rfl
    show t_law_10 [.ro false (ns.map PyData.int), .own (ds.map PyData.int), .v (.int q), .v (.int n), .v (.list (ws.map sw)), .v (.str (txt ws)), .own (ws.map sw).reverse, s7, s8, .own (ws.map sw)] Qn Qr
    rw [← List.map_reverse]
    have hw2 : Wds q n ws.reverse := fun w h => hw w (List.mem_reverse.mp h)
    have hL2 : Len n ws.reverse := fun w h => (hw2 w h).1
    have hok2 := sg_ok hq hw2.sg
    have hl2 : ws.reverse.length ≤ 300 := by rw [List.length_reverse]; exact hl
    have hj := join_sz hL2 hn hl2
    refine ⟨rfl, ⟨q, n, ws.reverse, rfl, hw2, hq, hn, hl2⟩, fun r yss h => ?_⟩
    obtain ⟨rfl, rfl⟩ := h ws.reverse rfl
    refine ⟨⟨_, rfl⟩, ws.reverse.map wd, sws_eq _, ?_, ?_⟩
    · show _ + _ * gap.length ≤ _
      omega
    refine ⟨by show 0 ≤ sizeLine; decide, eqOk_list hok2 (by simp), ?_⟩
    have hmul : ∀ b : Bool, PySem.MulOk ("-" : Str) (if b then 1 else 0) := fun b => by
      cases b
      · exact ⟨by decide, fun h1 _ => absurd h1 (by decide), fun h1 _ => absurd h1 (by decide)⟩
      · exact ⟨by decide, fun _ _ => by decide, fun _ _ => by decide⟩
    have hjl : (Txt.join gap (ws.reverse.map wd)).length ≤ 3000 := by
      by_cases z : ws.reverse = []
      · rw [z]
        decide
      · rw [← txt_cons z]
        exact txt_len hL2 hn hl2
    have hml : ∀ b : Bool, (Txt.mul ("-" : Str) (if b then 1 else 0)).length ≤ 1 := fun b => by cases b <;> decide +kernel
    refine ⟨hmul _, ?_, rfl, fun hb => ⟨eqOk_list hok hok, ?_⟩, fun hb => ?_⟩
    · have := hml (PyData.eqv (.list (ws.reverse.map sw)) (.list []))
      exact sz_le (Nat.le_trans (Nat.add_le_add hjl this) (by decide))
    · show Qr (.bool (PyData.eqv (.list (ws.map sw)) (.list (ws.map sw)))) _
      rw [eqv_sws, decide_eq_true rfl]
      exact hr _
    · have hb : PyData.eqv (.str (txt ws.reverse)) (.str (Txt.join gap (ws.reverse.map wd) ++ Txt.mul ("-" : Str) (if PyData.eqv (.list (ws.reverse.map sw)) (.list []) then 1 else 0))) = false := hb
      rw [eqv_sws_nil, ← rev_txt, eqv_str, decide_eq_true rfl] at hb
      cases hb
end
theorem plain_law : Plain f_law 10 t_law := by
  refine plain_of_law fun ns Qn Qr hl hr => ?_
  show t_law [.ro false (ns.map PyData.int), .no, .no, .no, .no, .no, .no, .no, .no, .no] Qn Qr
  refine ⟨rfl, ⟨ns, 2, 40, rfl, hl, by decide, by decide⟩, fun r yss h => ?_⟩
  obtain ⟨ds, rfl, hdl, hd, rfl⟩ := h 40 rfl
  refine ⟨rfl, ⟨ds, rfl, hd⟩, fun r yss h => ?_⟩
  obtain ⟨q, n, ds, rfl, hs, hn1, hd, rfl⟩ := h
  have hq2 : 2 ≤ q := by unfold szOk at hs; omega
  have hq3 : q ≤ 3 := by unfold szOk at hs; omega
  have hn : n ≤ 8 := by unfold szOk at hs; omega
  refine ⟨rfl, ⟨ds, q, n, 30, 1, rfl, hd, hq2, hq3, by omega, by omega⟩, fun r yss h => ?_⟩
  obtain ⟨ws, ds, rfl, hw, lw, kw, hd, rfl⟩ := h q n 30 1 rfl rfl rfl rfl
  have hnd : ws.Nodup := (keeps_pw.mp kw).imp fun {a b} z e => by
    rw [e, ham_self] at z
    omega
  have tail : ∀ (ws : List (List Nat)) (ds : List Int), Wds q n ws → ws.Nodup → ws.length ≤ 300 → t_law_4 [.ro false (ns.map PyData.int), .own (ds.map PyData.int), .v (.int q), .v (.int n), .v (.list (ws.map sw)), .no, .no, .no, .no, .no] Qn Qr := fun ws ds hw hnd hl => by
    have hok := sg_ok hq3 hw.sg
    have hL : Len n ws := fun w h => (hw w h).1
    refine ⟨by show 0 ≤ sizeLine; decide, eqOk_list hok (by simp), fun hb => ⟨⟨_, rfl⟩, ws.map wd, sws_eq _, ?_, ?_⟩, fun hb => ?_⟩
    · have := join_sz hL hn hl
      show _ + _ * gap.length ≤ _
      omega
    · have hb : (!PyData.eqv (.list (ws.map sw)) (.list [])) = true := hb
      rw [eqv_sws_nil] at hb
      have hz : ws ≠ [] := fun z => by rw [decide_eq_true z] at hb; cases hb
      show t_law_6 [.ro false (ns.map PyData.int), .own (ds.map PyData.int), .v (.int q), .v (.int n), .v (.list (ws.map sw)), .v (.str (Txt.join gap (ws.map wd))), .no, .no, .no, .no] Qn Qr
      rw [← txt_cons hz]
      exact law_6 hr hw hnd hq2 hq3 hn hl
    · have hb : (!PyData.eqv (.list (ws.map sw)) (.list [])) = false := hb
      rw [eqv_sws_nil] at hb
      have hz : ws = [] := by
        have hb : decide (ws = []) = true := by simpa using hb
        exact of_decide_eq_true hb
      show t_law_6 [.ro false (ns.map PyData.int), .own (ds.map PyData.int), .v (.int q), .v (.int n), .v (.list (ws.map sw)), .v (.str "-"), .no, .no, .no, .no] Qn Qr
      rw [show ("-" : Str) = txt ws by rw [hz]; rfl]
      exact law_6 hr hw hnd hq2 hq3 hn hl
  refine ⟨rfl, ⟨ds, rfl, hd⟩, fun r yss h => ?_⟩
  obtain ⟨c, ds, rfl, hc, hd, rfl⟩ := h
  refine ⟨by decide, rfl, fun _ => ⟨rfl, ⟨ds, q, n, rfl, hd, hs⟩, fun r yss h => ?_⟩, fun _ => tail ws ds hw hnd (by omega)⟩
  obtain ⟨vs, ds, rfl, hv, lv, _, hvn, hd, rfl⟩ := h q n rfl rfl
  exact tail vs ds hv hvn (by omega)

/-! ### the text -/
def topS (i : Nat) : Stmt := PySem.Challenge.pw_wordsapart_k40_lists_as_texts.main.body.getD i (.Pass ⟨0, 0, 0, 0⟩)
abbrev s_is_word : Stmt := topS 4
abbrev N_is_word : List Str := ["q", "n", "text", "signs", "sign"]
theorem sc_is_word : FnScope N_is_word ["q", "n", "text"] (defScope s_is_word) := ⟨rfl, rfl, rfl, by decide +kernel, rfl, by decide +kernel, by decide +kernel⟩
abbrev s_show_list : Stmt := topS 6
abbrev N_show_list : List Str := ["words"]
theorem sc_show_list : FnScope N_show_list ["words"] (defScope s_show_list) := ⟨rfl, rfl, rfl, by decide +kernel, rfl, by decide +kernel, by decide +kernel⟩
abbrev s_sure : Stmt := topS 7
abbrev N_sure : List Str := ["good"]
theorem sc_sure : FnScope N_sure ["good"] (defScope s_sure) := ⟨rfl, rfl, rfl, by decide +kernel, rfl, by decide +kernel, by decide +kernel⟩
abbrev s__law_draws : Stmt := topS 10
abbrev N__law_draws : List Str := ["_law_script", "_law_turn", "_law_many_here", "_law_cells", "_law_found", "_law_left", "_law_k", "_law_at", "_law_place", "_law_number", "_law_cell"]
theorem sc__law_draws : FnScope N__law_draws ["_law_script", "_law_turn", "_law_many_here"] (defScope s__law_draws) := ⟨rfl, rfl, rfl, by decide +kernel, rfl, by decide +kernel, by decide +kernel⟩
abbrev s__law_pop : Stmt := topS 11
abbrev N__law_pop : List Str := ["_law_draws_here"]
theorem sc__law_pop : FnScope N__law_pop ["_law_draws_here"] (defScope s__law_pop) := ⟨rfl, rfl, rfl, by decide +kernel, rfl, by decide +kernel, by decide +kernel⟩
abbrev s__law_word : Stmt := topS 13
abbrev N__law_word : List Str := ["_law_number", "_law_q", "_law_n", "_law_word_here", "_law_k"]
theorem sc__law_word : FnScope N__law_word ["_law_number", "_law_q", "_law_n"] (defScope s__law_word) := ⟨rfl, rfl, rfl, by decide +kernel, rfl, by decide +kernel, by decide +kernel⟩
abbrev s__law_far : Stmt := topS 14
abbrev N__law_far : List Str := ["_law_one", "_law_other", "_law_k"]
theorem sc__law_far : FnScope N__law_far ["_law_one", "_law_other"] (defScope s__law_far) := ⟨rfl, rfl, rfl, by decide +kernel, rfl, by decide +kernel, by decide +kernel⟩
abbrev s__law_texts : Stmt := topS 16
abbrev N__law_texts : List Str := ["_law_found", "_law_one"]
theorem sc__law_texts : FnScope N__law_texts ["_law_found"] (defScope s__law_texts) := ⟨rfl, rfl, rfl, by decide +kernel, rfl, by decide +kernel, by decide +kernel⟩
abbrev s__law_all : Stmt := topS 17
abbrev N__law_all : List Str := ["_law_q", "_law_n", "_law_found", "_law_k", "_law_more", "_law_word_here", "_law_sign"]
theorem sc__law_all : FnScope N__law_all ["_law_q", "_law_n"] (defScope s__law_all) := ⟨rfl, rfl, rfl, by decide +kernel, rfl, by decide +kernel, by decide +kernel⟩
abbrev s_read_list : Stmt := topS 8
abbrev N_read_list : List Str := ["q", "n", "text", "words", "k", "word"]
theorem sc_read_list : FnScope N_read_list ["q", "n", "text"] (defScope s_read_list) := ⟨rfl, rfl, rfl, by decide +kernel, rfl, by decide +kernel, by decide +kernel⟩
abbrev s__law_size : Stmt := topS 12
abbrev N__law_size : List Str := ["_law_draws_here", "_law_number", "_law_q"]
theorem sc__law_size : FnScope N__law_size ["_law_draws_here"] (defScope s__law_size) := ⟨rfl, rfl, rfl, by decide +kernel, rfl, by decide +kernel, by decide +kernel⟩
abbrev s__law_list : Stmt := topS 15
abbrev N__law_list : List Str := ["_law_draws_here", "_law_q", "_law_n", "_law_most", "_law_far_here", "_law_found", "_law_k", "_law_word_here", "_law_one"]
theorem sc__law_list : FnScope N__law_list ["_law_draws_here", "_law_q", "_law_n", "_law_most", "_law_far_here"] (defScope s__law_list) := ⟨rfl, rfl, rfl, by decide +kernel, rfl, by decide +kernel, by decide +kernel⟩
abbrev s__law_many : Stmt := topS 18
abbrev N__law_many : List Str := ["_law_draws_here", "_law_q", "_law_n", "_law_every", "_law_start", "_law_step", "_law_found", "_law_k"]
theorem sc__law_many : FnScope N__law_many ["_law_draws_here", "_law_q", "_law_n"] (defScope s__law_many) := ⟨rfl, rfl, rfl, by decide +kernel, rfl, by decide +kernel, by decide +kernel⟩
abbrev s_law : Stmt := topS 19
abbrev N_law : List Str := ["_law_script", "_law_draws_here", "_law_q", "_law_n", "_law_words", "_law_due", "_law_handed", "_law_turn", "_law_text", "_law_found"]
theorem sc_law : FnScope N_law ["_law_script"] (defScope s_law) := ⟨rfl, rfl, rfl, by decide +kernel, rfl, by decide +kernel, by decide +kernel⟩
section
variable {P : Program} {w : World} {K : PySem.W.Frag} {mg : Str → Option Value} {base : Heap}
theorem body_is_word (m_any : mg "any" = none) (m_len : mg "len" = none) (m_range : mg "range" = none) (m_str : mg "str" = none)   {c : Addr} (cdv : Value) (A : Around) (outer : List Env) (s : Shared) (H : Hp) (E : XK) (hr : Room 0 (A.deeper (envOfC "is_word" (defScope s_is_word) s.heap.objs.size c cdv))) :
    JSs (cxOf CX0 P w K mg base N_is_word "is_word" (defScope s_is_word) c cdv A outer s H E).nox false [] (defBody s_is_word) t_is_word :=
  (jss_cons (js_set sc_is_word.nd (sn 3) (by decide) (JE.t (JN.e (jn_lc (own := [("sign", 4)]) rfl rfl sc_is_word.nd (blkOk_by (by kernel_rfl)) rfl (ji_rng1 rfl m_range (va 0) rfl) (fun _ _ _ _ _ => (pg1 4 sc_is_word.nd)) (fun _ _ _ _ _ => jts_nil) (fun _ _ _ _ _ => (JE.t (je_blt (bl := .str) rfl rfl m_str (ja_cons (va 4) ja_nil rfl) rfl))) (fun _ => rfl)))) rfl)
    (jss_cons (js_retV (jt_and (JE.t (je_cmp (op := .eq) hr.units (JE.t (je_blt (bl := .len) rfl rfl m_len (ja_cons (va 2) ja_nil rfl) rfl)) (va 1) rfl)) (jt_one (JE.t (je_not (JE.t (je_blt (bl := .any) rfl rfl m_any (ja_cons (JE.t (JN.e (jn_lc (own := [("sign", 4)]) rfl rfl sc_is_word.nd (blkOk_by (by kernel_rfl)) rfl (ji_str (va 2)) (fun _ _ _ _ _ => (pg1 4 sc_is_word.nd)) (fun _ _ _ _ _ => jts_nil) (fun _ _ _ _ _ => (JE.t (je_cmp (op := .nmem) hr.units (va 4) (va 3) rfl))) (fun _ => rfl)))) ja_nil rfl) rfl)))))))
    jss_nil))
theorem kn_is_word {c : Addr} {fd : FuncData} (m_any : mg "any" = none) (m_len : mg "len" = none) (m_range : mg "range" = none) (m_str : mg "str" = none)   (Fn : FunD K "is_word" "is_word" (defArgs s_is_word) (defBody s_is_word) (defScope s_is_word) [] [] c fd) (hm : mg "is_word" = some (.ref c)) : KnownF P w K mg base 1 f_is_word :=
  ⟨⟨c, fd, _, fn_ok (k := 0) Fn sc_is_word rfl (fun cdv A outer s H E hr => body_is_word m_any m_len m_range m_str  cdv A outer s H E hr) plain_is_word, hm, Fn.kp, Fn.bindsN fun _ _ _ _ _ _ us hl => match us, hl with | [_, _, _], _ => rfl⟩, by decide⟩
theorem body_show_list    {c : Addr} (cdv : Value) (A : Around) (outer : List Env) (s : Shared) (H : Hp) (E : XK) (hr : Room 0 (A.deeper (envOfC "show_list" (defScope s_show_list) s.heap.objs.size c cdv))) :
    JSs (cxOf CX0 P w K mg base N_show_list "show_list" (defScope s_show_list) c cdv A outer s H E).nox false [] (defBody s_show_list) t_show_list :=
  (jss_cons (js_if (jc_cmp (op := .eq) hr.units (va 0) (JE.t (JN.e (jn_lst ja_nil))) rfl) (jss_cons (js_retV (JE.t je_str))
    jss_nil) jss_nil)
    (jss_cons (js_retV (JE.t (je_join (JE.t je_str) (va 0) rfl rfl rfl)))
    jss_nil))
theorem kn_show_list {c : Addr} {fd : FuncData}    (Fn : FunD K "show_list" "show_list" (defArgs s_show_list) (defBody s_show_list) (defScope s_show_list) [] [] c fd) (hm : mg "show_list" = some (.ref c)) : KnownF P w K mg base 1 f_show_list :=
  ⟨⟨c, fd, _, fn_ok (k := 0) Fn sc_show_list rfl (fun cdv A outer s H E hr => body_show_list   cdv A outer s H E hr) plain_show_list, hm, Fn.kp, Fn.bindsN fun _ _ _ _ _ _ us hl => match us, hl with | [_], _ => rfl⟩, by decide⟩
theorem body_sure    {c : Addr} (cdv : Value) (A : Around) (outer : List Env) (s : Shared) (H : Hp) (E : XK) (hr : Room 0 (A.deeper (envOfC "sure" (defScope s_sure) s.heap.objs.size c cdv))) :
    JSs (cxOf CX0 P w K mg base N_sure "sure" (defScope s_sure) c cdv A outer s H E).nox false [] (defBody s_sure) t_sure :=
  (jss_cons (js_if (jc_not (jc_val (va 0) (fun _ => rfl))) (jss_cons js_never
    jss_nil) jss_nil)
    jss_nil)
theorem kn_sure {c : Addr} {fd : FuncData}    (Fn : FunD K "sure" "sure" (defArgs s_sure) (defBody s_sure) (defScope s_sure) [] [] c fd) (hm : mg "sure" = some (.ref c)) : KnownF P w K mg base 1 f_sure :=
  ⟨⟨c, fd, _, fn_ok (k := 0) Fn sc_sure rfl (fun cdv A outer s H E hr => body_sure   cdv A outer s H E hr) plain_sure, hm, Fn.kp, Fn.bindsN fun _ _ _ _ _ _ us hl => match us, hl with | [_], _ => rfl⟩, by decide⟩
theorem body__law_draws (m_len : mg "len" = none) (m_range : mg "range" = none)   {c : Addr} (cdv : Value) (A : Around) (outer : List Env) (s : Shared) (H : Hp) (E : XK) (hr : Room 0 (A.deeper (envOfC "_law_draws" (defScope s__law_draws) s.heap.objs.size c cdv))) :
    JSs (cxOf CX0 P w K mg base N__law_draws "_law_draws" (defScope s__law_draws) c cdv A outer s H E).nox true [] (defBody s__law_draws) t__law_draws :=
  (jss_cons (js_set sc__law_draws.nd (sn 3) (by decide) (JE.t (JN.e (jn_cat (JE.t (JN.e (jn_sl (va 0) jo_no (jo_so (JE.t je_int))))) (JE.t (JN.e (jn_lst (ja_cons (va 1) ja_nil rfl))))))) rfl)
    (jss_cons (js_setO sc__law_draws.nd (sn 4) (by decide) (jn_lst ja_nil) rfl)
    (jss_cons (js_if (jc_cmp (op := .eq) hr.units (JE.t (je_bin (op := .mod) (JE.t (je_bin (op := .fdiv) (JE.t (je_ix (va 3) (JE.t je_int) (fun _ _ => rfl))) (JE.t je_int))) (JE.t je_int))) (JE.t je_int) rfl) (jss_cons (js_lcO (i := 5) (own := [("_law_cell", 10)]) rfl (of_decide_eq_true rfl) rfl sc__law_draws.nd rfl rfl (by decide) (sw_true rfl rfl rfl (by kernel_rfl)) (blkOk_by (by kernel_rfl)) rfl (ji_list (va 3)) (fun _ _ _ _ _ => (pg1 10 sc__law_draws.nd)) (fun _ _ _ _ _ => jts_nil) (fun _ _ _ _ _ => (JE.t (je_bin (op := .fdiv) (va 10) (JE.t je_int)))) (fun _ => rfl))
    (jss_cons (js_for (F' := []) rfl PassesOwn.never rfl (ji_rng1 rfl m_range (JE.t (je_bin (op := .add) (va 1) (va 2))) rfl) (pg1 6 sc__law_draws.nd) (jss_cons (js_set sc__law_draws.nd (sn 7) (by decide) (JE.t (je_bin (op := .mod) (va 6) (JE.t (je_blt (bl := .len) rfl rfl m_len (ja_cons (va 5) ja_nil rfl) rfl)))) rfl)
    (jss_cons (js_if (jc_cmp (op := .ge) hr.units (va 6) (va 1) rfl) (jss_cons (js_exp (JE.t (je_app (nm 4) (JE.t (je_bin (op := .mod) (JE.t (je_ix (va 5) (va 7) (fun _ _ => rfl))) (JE.t je_int))) rfl rfl)) rfl)
    jss_nil) jss_nil)
    (jss_cons (js_setIx (nm 5) (va 7) (JE.t (je_bin (op := .fdiv) (JE.t (je_ix (va 5) (va 7) (fun _ _ => rfl))) (JE.t je_int))) rfl rfl rfl (fun _ => rfl))
    jss_nil))) (by decide) (fun _ => rfl))
    (jss_cons (js_retO (nm 4))
    jss_nil))) jss_nil)
    (jss_cons (js_for (F' := []) rfl PassesOwn.never rfl (ji_rng1 rfl m_range (va 2) rfl) (pg1 6 sc__law_draws.nd) (jss_cons (js_set sc__law_draws.nd (sn 8) (by decide) (JE.t (je_bin (op := .add) (JE.t (je_bin (op := .mul) (JE.t (je_bin (op := .mul) (JE.t (je_bin (op := .add) (va 6) (va 1))) (JE.t (je_bin (op := .add) (va 6) (va 1))))) (JE.t je_int))) (JE.t je_int))) rfl)
    (jss_cons (js_set sc__law_draws.nd (sn 9) (by decide) (JE.t (je_bin (op := .mod) (JE.t (je_bin (op := .mul) (JE.t (je_bin (op := .add) (JE.t (je_bin (op := .mod) (JE.t (je_ix (va 3) (JE.t (je_bin (op := .mod) (va 6) (JE.t (je_blt (bl := .len) rfl rfl m_len (ja_cons (va 3) ja_nil rfl) rfl)))) (fun _ _ => rfl))) (JE.t je_int))) (va 8))) (JE.t je_int))) (JE.t je_int))) rfl)
    (jss_cons (js_set sc__law_draws.nd (sn 9) (by decide) (JE.t (je_bin (op := .mod) (JE.t (je_bin (op := .add) (JE.t (je_bin (op := .mul) (va 9) (va 9))) (JE.t (je_bin (op := .mul) (JE.t je_int) (va 6))))) (JE.t je_int))) rfl)
    (jss_cons (js_exp (JE.t (je_app (nm 4) (JE.t (je_bin (op := .mod) (JE.t (je_bin (op := .mul) (va 9) (va 9))) (JE.t je_int))) rfl rfl)) rfl)
    jss_nil)))) (by decide) (fun _ => rfl))
    (jss_cons (js_retO (nm 4))
    jss_nil)))))
theorem kn__law_draws {c : Addr} {fd : FuncData} (m_len : mg "len" = none) (m_range : mg "range" = none)   (Fn : FunD K "_law_draws" "_law_draws" (defArgs s__law_draws) (defBody s__law_draws) (defScope s__law_draws) [] [] c fd) (hm : mg "_law_draws" = some (.ref c)) : KnownF P w K mg base 1 f__law_draws :=
  ⟨⟨c, fd, _, fn_ok (k := 0) Fn sc__law_draws rfl (fun cdv A outer s H E hr => body__law_draws m_len m_range  cdv A outer s H E hr) plain__law_draws, hm, Fn.kp, Fn.bindsN fun _ _ _ _ _ _ us hl => match us, hl with | [_, _, _], _ => rfl⟩, by decide⟩
theorem body__law_pop    {c : Addr} (cdv : Value) (A : Around) (outer : List Env) (s : Shared) (H : Hp) (E : XK) (hr : Room 0 (A.deeper (envOfC "_law_pop" (defScope s__law_pop) s.heap.objs.size c cdv))) :
    JSs (cxOf CX0 P w K mg base N__law_pop "_law_pop" (defScope s__law_pop) c cdv A outer s H E).nox false [0] (defBody s__law_pop) t__law_pop :=
  (jss_cons (js_if (jc_cmp (op := .eq) hr.units (va 0) (JE.t (JN.e (jn_lst ja_nil))) rfl) (jss_cons (js_retV (JE.t je_int))
    jss_nil) jss_nil)
    (jss_cons (js_retV (JE.t (je_pop (nm 0) rfl)))
    jss_nil))
theorem kn__law_pop {c : Addr} {fd : FuncData}    (Fn : FunD K "_law_pop" "_law_pop" (defArgs s__law_pop) (defBody s__law_pop) (defScope s__law_pop) [] [] c fd) (hm : mg "_law_pop" = some (.ref c)) : KnownF P w K mg base 1 f__law_pop :=
  ⟨⟨c, fd, _, fn_ok (k := 0) Fn sc__law_pop rfl (fun cdv A outer s H E hr => body__law_pop   cdv A outer s H E hr) plain__law_pop, hm, Fn.kp, Fn.bindsN fun _ _ _ _ _ _ us hl => match us, hl with | [_], _ => rfl⟩, by decide⟩
theorem body__law_word (m_range : mg "range" = none) (m_str : mg "str" = none)   {c : Addr} (cdv : Value) (A : Around) (outer : List Env) (s : Shared) (H : Hp) (E : XK) (hr : Room 0 (A.deeper (envOfC "_law_word" (defScope s__law_word) s.heap.objs.size c cdv))) :
    JSs (cxOf CX0 P w K mg base N__law_word "_law_word" (defScope s__law_word) c cdv A outer s H E).nox false [] (defBody s__law_word) t__law_word :=
  (jss_cons (js_set sc__law_word.nd (sn 3) (by decide) (JE.t je_str) rfl)
    (jss_cons (js_for (F' := []) rfl PassesOwn.never rfl (ji_rng1 rfl m_range (va 2) rfl) (pg1 4 sc__law_word.nd) (jss_cons (js_set sc__law_word.nd (sn 3) (by decide) (JE.t (je_bin (op := .add) (va 3) (JE.t (je_blt (bl := .str) rfl rfl m_str (ja_cons (JE.t (je_bin (op := .mod) (va 0) (va 1))) ja_nil rfl) rfl)))) rfl)
    (jss_cons (js_set sc__law_word.nd (sn 0) (by decide) (JE.t (je_bin (op := .fdiv) (va 0) (va 1))) rfl)
    jss_nil)) (by decide) (fun _ => rfl))
    (jss_cons (js_retV (va 3))
    jss_nil)))
theorem kn__law_word {c : Addr} {fd : FuncData} (m_range : mg "range" = none) (m_str : mg "str" = none)   (Fn : FunD K "_law_word" "_law_word" (defArgs s__law_word) (defBody s__law_word) (defScope s__law_word) [] [] c fd) (hm : mg "_law_word" = some (.ref c)) : KnownF P w K mg base 1 f__law_word :=
  ⟨⟨c, fd, _, fn_ok (k := 0) Fn sc__law_word rfl (fun cdv A outer s H E hr => body__law_word m_range m_str  cdv A outer s H E hr) plain__law_word, hm, Fn.kp, Fn.bindsN fun _ _ _ _ _ _ us hl => match us, hl with | [_, _, _], _ => rfl⟩, by decide⟩
theorem body__law_far (m_len : mg "len" = none) (m_range : mg "range" = none)   {c : Addr} (cdv : Value) (A : Around) (outer : List Env) (s : Shared) (H : Hp) (E : XK) (hr : Room 0 (A.deeper (envOfC "_law_far" (defScope s__law_far) s.heap.objs.size c cdv))) :
    JSs (cxOf CX0 P w K mg base N__law_far "_law_far" (defScope s__law_far) c cdv A outer s H E).nox false [] (defBody s__law_far) t__law_far :=
  (jss_cons (js_retV (JE.t (je_blt (bl := .len) rfl rfl m_len (ja_cons (JE.t (JN.e (jn_lc (own := [("_law_k", 2)]) rfl rfl sc__law_far.nd (blkOk_by (by kernel_rfl)) rfl (ji_rng1 rfl m_range (JE.t (je_blt (bl := .len) rfl rfl m_len (ja_cons (va 0) ja_nil rfl) rfl)) rfl) (fun _ _ _ _ _ => (pg1 2 sc__law_far.nd)) (fun _ _ _ _ _ => (jts_one (jc_cmp (op := .ne) hr.units (JE.t (je_ix (va 0) (va 2) (fun _ _ => rfl))) (JE.t (je_ix (va 1) (va 2) (fun _ _ => rfl))) rfl))) (fun _ _ _ _ _ => (va 2)) (fun _ => rfl)))) ja_nil rfl) rfl)))
    jss_nil)
theorem kn__law_far {c : Addr} {fd : FuncData} (m_len : mg "len" = none) (m_range : mg "range" = none)   (Fn : FunD K "_law_far" "_law_far" (defArgs s__law_far) (defBody s__law_far) (defScope s__law_far) [] [] c fd) (hm : mg "_law_far" = some (.ref c)) : KnownF P w K mg base 1 f__law_far :=
  ⟨⟨c, fd, _, fn_ok (k := 0) Fn sc__law_far rfl (fun cdv A outer s H E hr => body__law_far m_len m_range  cdv A outer s H E hr) plain__law_far, hm, Fn.kp, Fn.bindsN fun _ _ _ _ _ _ us hl => match us, hl with | [_, _], _ => rfl⟩, by decide⟩
theorem body__law_texts (m_isinstance : mg "isinstance" = none) (m_list : mg "list" = none) (m_str : mg "str" = none)   {c : Addr} (cdv : Value) (A : Around) (outer : List Env) (s : Shared) (H : Hp) (E : XK) (hr : Room 0 (A.deeper (envOfC "_law_texts" (defScope s__law_texts) s.heap.objs.size c cdv))) :
    JSs (cxOf CX0 P w K mg base N__law_texts "_law_texts" (defScope s__law_texts) c cdv A outer s H E).nox false [] (defBody s__law_texts) t__law_texts :=
  (jss_cons (js_retV (jt_and (JE.t (je_isi (t := .list) rfl m_isinstance rfl m_list (va 0) rfl)) (jt_one (JE.t (je_cmp (op := .eq) hr.units (JE.t (JN.e (jn_lc (own := [("_law_one", 1)]) rfl rfl sc__law_texts.nd (blkOk_by (by kernel_rfl)) rfl (ji_list (va 0)) (fun _ _ _ _ _ => (pg1 1 sc__law_texts.nd)) (fun _ _ _ _ _ => (jts_one (jc_not (jc_val (JE.t (je_isi (t := .str) rfl m_isinstance rfl m_str (va 1) rfl)) (fun _ => rfl))))) (fun _ _ _ _ _ => (va 1)) (fun _ => rfl)))) (JE.t (JN.e (jn_lst ja_nil))) rfl)))))
    jss_nil)
theorem kn__law_texts {c : Addr} {fd : FuncData} (m_isinstance : mg "isinstance" = none) (m_list : mg "list" = none) (m_str : mg "str" = none)   (Fn : FunD K "_law_texts" "_law_texts" (defArgs s__law_texts) (defBody s__law_texts) (defScope s__law_texts) [] [] c fd) (hm : mg "_law_texts" = some (.ref c)) : KnownF P w K mg base 1 f__law_texts :=
  ⟨⟨c, fd, _, fn_ok (k := 0) Fn sc__law_texts rfl (fun cdv A outer s H E hr => body__law_texts m_isinstance m_list m_str  cdv A outer s H E hr) plain__law_texts, hm, Fn.kp, Fn.bindsN fun _ _ _ _ _ _ us hl => match us, hl with | [_], _ => rfl⟩, by decide⟩
theorem body__law_all (m_range : mg "range" = none) (m_str : mg "str" = none)   {c : Addr} (cdv : Value) (A : Around) (outer : List Env) (s : Shared) (H : Hp) (E : XK) (hr : Room 0 (A.deeper (envOfC "_law_all" (defScope s__law_all) s.heap.objs.size c cdv))) :
    JSs (cxOf CX0 P w K mg base N__law_all "_law_all" (defScope s__law_all) c cdv A outer s H E).nox true [] (defBody s__law_all) t__law_all :=
  (jss_cons (js_setO sc__law_all.nd (sn 2) (by decide) (jn_lst (ja_cons (JE.t je_str) ja_nil rfl)) rfl)
    (jss_cons (js_for (F' := []) rfl PassesOwn.never rfl (ji_rng1 rfl m_range (va 1) rfl) (pg1 3 sc__law_all.nd) (jss_cons (js_setO sc__law_all.nd (sn 4) (by decide) (jn_lst ja_nil) rfl)
    (jss_cons (js_for (F' := [2]) rfl PassesOwn.never rfl (ji_list (va 2)) (pg1 5 sc__law_all.nd) (jss_cons (js_setO sc__law_all.nd (sn 4) (by decide) (jn_cat (va 4) (JE.t (JN.e (jn_lc (own := [("_law_sign", 6)]) rfl rfl sc__law_all.nd (blkOk_by (by kernel_rfl)) rfl (ji_rng1 rfl m_range (va 0) rfl) (fun _ _ _ _ _ => (pg1 6 sc__law_all.nd)) (fun _ _ _ _ _ => jts_nil) (fun _ _ _ _ _ => (JE.t (je_bin (op := .add) (va 5) (JE.t (je_blt (bl := .str) rfl rfl m_str (ja_cons (va 6) ja_nil rfl) rfl))))) (fun _ => rfl))))) rfl)
    jss_nil) (by decide) (fun _ => rfl))
    (jss_cons (js_mv (own := true) sc__law_all.nd (sn 2) (by decide) (nm 4) rfl)
    jss_nil))) (by decide) (fun _ => rfl))
    (jss_cons (js_retO (nm 2))
    jss_nil)))
theorem kn__law_all {c : Addr} {fd : FuncData} (m_range : mg "range" = none) (m_str : mg "str" = none)   (Fn : FunD K "_law_all" "_law_all" (defArgs s__law_all) (defBody s__law_all) (defScope s__law_all) [] [] c fd) (hm : mg "_law_all" = some (.ref c)) : KnownF P w K mg base 1 f__law_all :=
  ⟨⟨c, fd, _, fn_ok (k := 0) Fn sc__law_all rfl (fun cdv A outer s H E hr => body__law_all m_range m_str  cdv A outer s H E hr) plain__law_all, hm, Fn.kp, Fn.bindsN fun _ _ _ _ _ _ us hl => match us, hl with | [_, _], _ => rfl⟩, by decide⟩
theorem body_read_list (m_enumerate : mg "enumerate" = none) (k_sure : KnownF P w K mg base 1 f_sure) (k_is_word : KnownF P w K mg base 1 f_is_word)  {c : Addr} (cdv : Value) (A : Around) (outer : List Env) (s : Shared) (H : Hp) (E : XK) (hr : Room 1 (A.deeper (envOfC "read_list" (defScope s_read_list) s.heap.objs.size c cdv))) :
    JSs (cxOf CX0 P w K mg base N_read_list "read_list" (defScope s_read_list) c cdv A outer s H E).nox true [] (defBody s_read_list) t_read_list :=
  (jss_cons (js_if (jc_cmp (op := .eq) hr.units (va 2) (JE.t je_str) rfl) (jss_cons (js_retN (jn_lst ja_nil))
    jss_nil) jss_nil)
    (jss_cons (js_setO sc_read_list.nd (sn 3) (by decide) (jn_split (va 2) (JE.t je_str) rfl rfl rfl) rfl)
    (jss_cons (js_for (F' := [3]) rfl PassesOwn.never rfl (ji_enum rfl m_enumerate (va 3) rfl) (pg2 4 5 rfl (pg1 4 sc_read_list.nd) (pg1 5 sc_read_list.nd)) (jss_cons (js_exp (JE.t (je_call (f := f_sure) (hr.mono (by decide)) (KnownF.at k_sure) rfl (ja_cons (jt_and (JE.t (je_call (f := f_is_word) (hr.mono (by decide)) (KnownF.at k_is_word) rfl (ja_cons (va 0) (ja_cons (va 1) (ja_cons (va 5) ja_nil rfl) rfl) rfl) rfl rfl)) (jt_one (JE.t (je_cmp (op := .nmem) hr.units (va 5) (JE.t (JN.e (jn_sl (va 3) jo_no (jo_so (va 4))))) rfl)))) ja_nil rfl) rfl rfl)) rfl)
    jss_nil) (by decide) (fun _ => rfl))
    (jss_cons (js_retO (nm 3))
    jss_nil))))
theorem kn_read_list {c : Addr} {fd : FuncData} (m_enumerate : mg "enumerate" = none) (k_sure : KnownF P w K mg base 1 f_sure) (k_is_word : KnownF P w K mg base 1 f_is_word)  (Fn : FunD K "read_list" "read_list" (defArgs s_read_list) (defBody s_read_list) (defScope s_read_list) [] [] c fd) (hm : mg "read_list" = some (.ref c)) : KnownF P w K mg base 2 f_read_list :=
  ⟨⟨c, fd, _, fn_ok (k := 1) Fn sc_read_list rfl (fun cdv A outer s H E hr => body_read_list m_enumerate k_sure k_is_word  cdv A outer s H E hr) plain_read_list, hm, Fn.kp, Fn.bindsN fun _ _ _ _ _ _ us hl => match us, hl with | [_, _, _], _ => rfl⟩, by decide⟩
theorem body__law_size  (k__law_pop : KnownF P w K mg base 1 f__law_pop)  {c : Addr} (cdv : Value) (A : Around) (outer : List Env) (s : Shared) (H : Hp) (E : XK) (hr : Room 1 (A.deeper (envOfC "_law_size" (defScope s__law_size) s.heap.objs.size c cdv))) :
    JSs (cxOf CX0 P w K mg base N__law_size "_law_size" (defScope s__law_size) c cdv A outer s H E).nox false [0] (defBody s__law_size) t__law_size :=
  (jss_cons (js_set sc__law_size.nd (sn 1) (by decide) (JE.t (je_call (f := f__law_pop) (hr.mono (by decide)) (KnownF.at k__law_pop) rfl (ja_cons (va 0) ja_nil rfl) rfl rfl)) rfl)
    (jss_cons (js_set sc__law_size.nd (sn 2) (by decide) (JE.t (je_bin (op := .add) (JE.t je_int) (JE.t (je_bin (op := .mod) (va 1) (JE.t je_int))))) rfl)
    (jss_cons (js_retV (JE.t (je_tup (ja_cons (va 2) (ja_cons (JE.t (je_bin (op := .add) (JE.t je_int) (JE.t (je_bin (op := .mod) (JE.t (je_bin (op := .fdiv) (va 1) (JE.t je_int))) (JE.t (je_ix (JE.t (JN.e (jn_lst (ja_cons (JE.t je_int) (ja_cons (JE.t je_int) ja_nil rfl) rfl)))) (JE.t (je_bin (op := .sub) (va 2) (JE.t je_int))) (fun _ _ => rfl))))))) ja_nil rfl) rfl))))
    jss_nil)))
theorem kn__law_size {c : Addr} {fd : FuncData}  (k__law_pop : KnownF P w K mg base 1 f__law_pop)  (Fn : FunD K "_law_size" "_law_size" (defArgs s__law_size) (defBody s__law_size) (defScope s__law_size) [] [] c fd) (hm : mg "_law_size" = some (.ref c)) : KnownF P w K mg base 2 f__law_size :=
  ⟨⟨c, fd, _, fn_ok (k := 1) Fn sc__law_size rfl (fun cdv A outer s H E hr => body__law_size k__law_pop  cdv A outer s H E hr) plain__law_size, hm, Fn.kp, Fn.bindsN fun _ _ _ _ _ _ us hl => match us, hl with | [_], _ => rfl⟩, by decide⟩
theorem body__law_list (m_range : mg "range" = none) (k__law_pop : KnownF P w K mg base 1 f__law_pop) (k__law_word : KnownF P w K mg base 1 f__law_word) (k__law_far : KnownF P w K mg base 1 f__law_far)  {c : Addr} (cdv : Value) (A : Around) (outer : List Env) (s : Shared) (H : Hp) (E : XK) (hr : Room 1 (A.deeper (envOfC "_law_list" (defScope s__law_list) s.heap.objs.size c cdv))) :
    JSs (cxOf CX0 P w K mg base N__law_list "_law_list" (defScope s__law_list) c cdv A outer s H E).nox true [0] (defBody s__law_list) t__law_list :=
  (jss_cons (js_setO sc__law_list.nd (sn 5) (by decide) (jn_lst ja_nil) rfl)
    (jss_cons (js_for (F' := [0]) rfl PassesOwn.never rfl (ji_rng1 rfl m_range (JE.t (je_bin (op := .mod) (JE.t (je_call (f := f__law_pop) (hr.mono (by decide)) (KnownF.at k__law_pop) rfl (ja_cons (va 0) ja_nil rfl) rfl rfl)) (JE.t (je_bin (op := .add) (va 3) (JE.t je_int))))) rfl) (pg1 6 sc__law_list.nd) (jss_cons (js_set sc__law_list.nd (sn 7) (by decide) (JE.t (je_call (f := f__law_word) (hr.mono (by decide)) (KnownF.at k__law_word) rfl (ja_cons (JE.t (je_call (f := f__law_pop) (hr.mono (by decide)) (KnownF.at k__law_pop) rfl (ja_cons (va 0) ja_nil rfl) rfl rfl)) (ja_cons (va 1) (ja_cons (va 2) ja_nil rfl) rfl) rfl) rfl rfl)) rfl)
    (jss_cons (js_if (jc_cmp (op := .eq) hr.units (JE.t (JN.e (jn_lc (own := [("_law_one", 8)]) rfl rfl sc__law_list.nd (blkOk_by (by kernel_rfl)) rfl (ji_list (va 5)) (fun _ _ _ _ _ => (pg1 8 sc__law_list.nd)) (fun _ _ _ _ _ => (jts_one (jc_cmp (op := .lt) hr.units (JE.t (je_call (f := f__law_far) (hr.mono (by decide)) (KnownF.at k__law_far) rfl (ja_cons (va 8) (ja_cons (va 7) ja_nil rfl) rfl) rfl rfl)) (va 4) rfl))) (fun _ _ _ _ _ => (va 8)) (fun _ => rfl)))) (JE.t (JN.e (jn_lst ja_nil))) rfl) (jss_cons (js_exp (JE.t (je_app (nm 5) (va 7) rfl rfl)) rfl)
    jss_nil) jss_nil)
    jss_nil)) (by decide) (fun _ => rfl))
    (jss_cons (js_retO (nm 5))
    jss_nil)))
theorem kn__law_list {c : Addr} {fd : FuncData} (m_range : mg "range" = none) (k__law_pop : KnownF P w K mg base 1 f__law_pop) (k__law_word : KnownF P w K mg base 1 f__law_word) (k__law_far : KnownF P w K mg base 1 f__law_far)  (Fn : FunD K "_law_list" "_law_list" (defArgs s__law_list) (defBody s__law_list) (defScope s__law_list) [] [] c fd) (hm : mg "_law_list" = some (.ref c)) : KnownF P w K mg base 2 f__law_list :=
  ⟨⟨c, fd, _, fn_ok (k := 1) Fn sc__law_list rfl (fun cdv A outer s H E hr => body__law_list m_range k__law_pop k__law_word k__law_far  cdv A outer s H E hr) plain__law_list, hm, Fn.kp, Fn.bindsN fun _ _ _ _ _ _ us hl => match us, hl with | [_, _, _, _, _], _ => rfl⟩, by decide⟩
theorem body__law_many (m_len : mg "len" = none) (m_range : mg "range" = none) (k__law_all : KnownF P w K mg base 1 f__law_all) (k__law_pop : KnownF P w K mg base 1 f__law_pop)  {c : Addr} (cdv : Value) (A : Around) (outer : List Env) (s : Shared) (H : Hp) (E : XK) (hr : Room 1 (A.deeper (envOfC "_law_many" (defScope s__law_many) s.heap.objs.size c cdv))) :
    JSs (cxOf CX0 P w K mg base N__law_many "_law_many" (defScope s__law_many) c cdv A outer s H E).nox true [0] (defBody s__law_many) t__law_many :=
  (jss_cons (js_set sc__law_many.nd (sn 3) (by decide) (JE.t (JN.e (jn_call (f := f__law_all) (hr.mono (by decide)) (KnownF.at k__law_all) rfl (ja_cons (va 1) (ja_cons (va 2) ja_nil rfl) rfl) rfl rfl))) rfl)
    (jss_cons (js_asgT (is := [4, 5]) (JE.t (je_tup (ja_cons (JE.t (je_bin (op := .mod) (JE.t (je_call (f := f__law_pop) (hr.mono (by decide)) (KnownF.at k__law_pop) rfl (ja_cons (va 0) ja_nil rfl) rfl rfl)) (JE.t (je_blt (bl := .len) rfl rfl m_len (ja_cons (va 3) ja_nil rfl) rfl)))) (ja_cons (JE.t (je_bin (op := .add) (JE.t je_int) (JE.t (je_bin (op := .mul) (JE.t je_int) (JE.t (je_bin (op := .mod) (JE.t (je_call (f := f__law_pop) (hr.mono (by decide)) (KnownF.at k__law_pop) rfl (ja_cons (va 0) ja_nil rfl) rfl rfl)) (JE.t je_int))))))) ja_nil rfl) rfl))) (pg_tup rfl (pgs_cons (pg1 4 sc__law_many.nd) (pgs_cons (pg1 5 sc__law_many.nd) pgs_nil))) (by decide) rfl rfl rfl rfl)
    (jss_cons (js_lcV (i := 6) (own := [("_law_k", 7)]) rfl (of_decide_eq_true rfl) rfl sc__law_many.nd rfl rfl (by decide) (sw_true rfl rfl rfl (by kernel_rfl)) (blkOk_by (by kernel_rfl)) rfl (ji_rng1 rfl m_range (JE.t (je_blt (bl := .len) rfl rfl m_len (ja_cons (va 3) ja_nil rfl) rfl)) rfl) (fun _ _ _ _ _ => (pg1 7 sc__law_many.nd)) (fun _ _ _ _ _ => jts_nil) (fun _ _ _ _ _ => (JE.t (je_ix (va 3) (JE.t (je_bin (op := .mod) (JE.t (je_bin (op := .add) (va 4) (JE.t (je_bin (op := .mul) (va 5) (va 7))))) (JE.t (je_blt (bl := .len) rfl rfl m_len (ja_cons (va 3) ja_nil rfl) rfl)))) (fun _ _ => rfl)))) (fun _ => rfl))
    (jss_cons (js_retN (jn_sl (va 6) jo_no (jo_so (JE.t (je_bin (op := .sub) (JE.t (je_blt (bl := .len) rfl rfl m_len (ja_cons (va 3) ja_nil rfl) rfl)) (JE.t (je_bin (op := .mod) (JE.t (je_call (f := f__law_pop) (hr.mono (by decide)) (KnownF.at k__law_pop) rfl (ja_cons (va 0) ja_nil rfl) rfl rfl)) (JE.t (je_ix (JE.t (JN.e (jn_lst (ja_cons (JE.t je_int) (ja_cons (JE.t (je_blt (bl := .len) rfl rfl m_len (ja_cons (va 3) ja_nil rfl) rfl)) ja_nil rfl) rfl)))) (JE.t (je_bin (op := .mod) (JE.t (je_call (f := f__law_pop) (hr.mono (by decide)) (KnownF.at k__law_pop) rfl (ja_cons (va 0) ja_nil rfl) rfl rfl)) (JE.t je_int))) (fun _ _ => rfl))))))))))
    jss_nil))))
theorem kn__law_many {c : Addr} {fd : FuncData} (m_len : mg "len" = none) (m_range : mg "range" = none) (k__law_all : KnownF P w K mg base 1 f__law_all) (k__law_pop : KnownF P w K mg base 1 f__law_pop)  (Fn : FunD K "_law_many" "_law_many" (defArgs s__law_many) (defBody s__law_many) (defScope s__law_many) [] [] c fd) (hm : mg "_law_many" = some (.ref c)) : KnownF P w K mg base 2 f__law_many :=
  ⟨⟨c, fd, _, fn_ok (k := 1) Fn sc__law_many rfl (fun cdv A outer s H E hr => body__law_many m_len m_range k__law_all k__law_pop  cdv A outer s H E hr) plain__law_many, hm, Fn.kp, Fn.bindsN fun _ _ _ _ _ _ us hl => match us, hl with | [_, _, _], _ => rfl⟩, by decide⟩
theorem body_law (m_int : mg "int" = none) (m_isinstance : mg "isinstance" = none) (m_list : mg "list" = none) (m_range : mg "range" = none) (m_str : mg "str" = none) (k__law_draws : KnownF P w K mg base 1 f__law_draws) (k__law_size : KnownF P w K mg base 2 f__law_size) (k__law_list : KnownF P w K mg base 2 f__law_list) (k__law_pop : KnownF P w K mg base 1 f__law_pop) (k__law_many : KnownF P w K mg base 2 f__law_many) (k_show_list : KnownF P w K mg base 1 f_show_list) (k_read_list : KnownF P w K mg base 2 f_read_list) (k__law_texts : KnownF P w K mg base 1 f__law_texts)  {c : Addr} (cdv : Value) (A : Around) (outer : List Env) (s : Shared) (H : Hp) (E : XK) (hr : Room 2 (A.deeper (envOfC "law" (defScope s_law) s.heap.objs.size c cdv))) :
    JSs (cxOf CX0 P w K mg base N_law "law" (defScope s_law) c cdv A outer s H E).nox false [] (defBody s_law) t_law :=
  (jss_cons (js_setO sc_law.nd (sn 1) (by decide) (jn_call (f := f__law_draws) (hr.mono (by decide)) (KnownF.at k__law_draws) rfl (ja_cons (va 0) (ja_cons (JE.t je_int) (ja_cons (JE.t je_int) ja_nil rfl) rfl) rfl) rfl rfl) rfl)
    (jss_cons (js_asgT (is := [2, 3]) (JE.t (je_call (f := f__law_size) (hr.mono (by decide)) (KnownF.at k__law_size) rfl (ja_cons (va 1) ja_nil rfl) rfl rfl)) (pg_tup rfl (pgs_cons (pg1 2 sc_law.nd) (pgs_cons (pg1 3 sc_law.nd) pgs_nil))) (by decide) rfl rfl rfl rfl)
    (jss_cons (js_set sc_law.nd (sn 4) (by decide) (JE.t (JN.e (jn_call (f := f__law_list) (hr.mono (by decide)) (KnownF.at k__law_list) rfl (ja_cons (va 1) (ja_cons (va 2) (ja_cons (va 3) (ja_cons (JE.t je_int) (ja_cons (JE.t je_int) ja_nil rfl) rfl) rfl) rfl) rfl) rfl rfl))) rfl)
    (jss_cons (js_if (jc_cmp (op := .eq) hr.units (JE.t (je_bin (op := .mod) (JE.t (je_call (f := f__law_pop) (hr.mono (by decide)) (KnownF.at k__law_pop) rfl (ja_cons (va 1) ja_nil rfl) rfl rfl)) (JE.t je_int))) (JE.t je_int) rfl) (jss_cons (js_set sc_law.nd (sn 4) (by decide) (JE.t (JN.e (jn_call (f := f__law_many) (hr.mono (by decide)) (KnownF.at k__law_many) rfl (ja_cons (va 1) (ja_cons (va 2) (ja_cons (va 3) ja_nil rfl) rfl) rfl) rfl rfl))) rfl)
    jss_nil) jss_nil)
    (jss_cons (js_set sc_law.nd (sn 5) (by decide) (JE.t je_str) rfl)
    (jss_cons (js_if (jc_cmp (op := .ne) hr.units (va 4) (JE.t (JN.e (jn_lst ja_nil))) rfl) (jss_cons (js_set sc_law.nd (sn 5) (by decide) (JE.t (je_join (JE.t je_str) (va 4) rfl rfl rfl)) rfl)
    jss_nil) jss_nil)
    (jss_cons (js_setO sc_law.nd (sn 6) (by decide) (jn_ls rfl m_list (va 4) rfl) rfl)
    (jss_cons (js_for (F' := []) rfl PassesOwn.never rfl (ji_rng1 rfl m_range (JE.t je_int) rfl) (pg1 7 sc_law.nd) (jss_cons (js_set sc_law.nd (sn 8) (by decide) (JE.t (je_call (f := f_show_list) (hr.mono (by decide)) (KnownF.at k_show_list) rfl (ja_cons (va 6) ja_nil rfl) rfl rfl)) rfl)
    (jss_cons (js_setO sc_law.nd (sn 9) (by decide) (jn_call (f := f_read_list) (hr.mono (by decide)) (KnownF.at k_read_list) rfl (ja_cons (va 2) (ja_cons (va 3) (ja_cons (va 5) ja_nil rfl) rfl) rfl) rfl rfl) rfl)
    (jss_cons (js_if (JW.c (jw_or (jc_not (jc_val (JE.t (je_isi (t := .str) rfl m_isinstance rfl m_str (va 8) rfl)) (fun _ => rfl))) (jw_or (jc_cmp (op := .ne) hr.units (va 8) (va 5) rfl) (jw_or (jc_not (jc_val (JE.t (je_call (f := f__law_texts) (hr.mono (by decide)) (KnownF.at k__law_texts) rfl (ja_cons (va 9) ja_nil rfl) rfl rfl)) (fun _ => rfl))) (jw_or (jc_cmp (op := .ne) hr.units (va 9) (va 4) rfl) (jw_or1 (jc_cmp (op := .ne) hr.units (va 6) (va 4) rfl))))))) (jss_cons (js_retV (JE.t je_bl))
    jss_nil) jss_nil)
    (jss_cons (js_exp (JE.t (je_app (nm 9) (JE.t je_str) rfl rfl)) rfl)
    jss_nil)))) (by decide) (fun _ => rfl))
    (jss_cons (js_setO sc_law.nd (sn 9) (by decide) (jn_call (f := f_read_list) (hr.mono (by decide)) (KnownF.at k_read_list) rfl (ja_cons (va 2) (ja_cons (va 3) (ja_cons (va 5) ja_nil rfl) rfl) rfl) rfl rfl) rfl)
    (jss_cons (js_exp (JE.t (je_rev (nm 6) rfl)) rfl)
    (jss_cons (js_retV (jt_and (JE.t (je_cmp (op := .eq) hr.units (JE.t (je_call (f := f_show_list) (hr.mono (by decide)) (KnownF.at k_show_list) rfl (ja_cons (va 6) ja_nil rfl) rfl rfl)) (JE.t (je_bin (op := .add) (JE.t (je_join (JE.t je_str) (va 6) rfl rfl rfl)) (JE.t (je_repS (JE.t je_str) (JE.t (je_blt (bl := .int) rfl rfl m_int (ja_cons (JE.t (je_cmp (op := .eq) hr.units (va 6) (JE.t (JN.e (jn_lst ja_nil))) rfl)) ja_nil rfl) rfl)))))) rfl)) (jt_one (JE.t (je_cmp (op := .eq) hr.units (va 9) (va 4) rfl)))))
    jss_nil)))))))))))
theorem kn_law {c : Addr} {fd : FuncData} (m_int : mg "int" = none) (m_isinstance : mg "isinstance" = none) (m_list : mg "list" = none) (m_range : mg "range" = none) (m_str : mg "str" = none) (k__law_draws : KnownF P w K mg base 1 f__law_draws) (k__law_size : KnownF P w K mg base 2 f__law_size) (k__law_list : KnownF P w K mg base 2 f__law_list) (k__law_pop : KnownF P w K mg base 1 f__law_pop) (k__law_many : KnownF P w K mg base 2 f__law_many) (k_show_list : KnownF P w K mg base 1 f_show_list) (k_read_list : KnownF P w K mg base 2 f_read_list) (k__law_texts : KnownF P w K mg base 1 f__law_texts)  (Fn : FunD K "law" "law" (defArgs s_law) (defBody s_law) (defScope s_law) [] [] c fd) (hm : mg "law" = some (.ref c)) : KnownF P w K mg base 3 f_law :=
  ⟨⟨c, fd, _, fn_ok (k := 2) Fn sc_law rfl (fun cdv A outer s H E hr => body_law m_int m_isinstance m_list m_range m_str k__law_draws k__law_size k__law_list k__law_pop k__law_many k_show_list k_read_list k__law_texts  cdv A outer s H E hr) plain_law, hm, Fn.kp, Fn.bindsN fun _ _ _ _ _ _ us hl => match us, hl with | [_], _ => rfl⟩, by decide⟩
end
/-! ### the head -/
def d_is_word : He.DefD := ⟨("is_word", none), "is_word", "is_word", defArgs s_is_word, defBody s_is_word, defScope s_is_word, [], []⟩
def d_show_list : He.DefD := ⟨("show_list", none), "show_list", "show_list", defArgs s_show_list, defBody s_show_list, defScope s_show_list, [], []⟩
def d_sure : He.DefD := ⟨("sure", none), "sure", "sure", defArgs s_sure, defBody s_sure, defScope s_sure, [], []⟩
def d__law_draws : He.DefD := ⟨("_law_draws", none), "_law_draws", "_law_draws", defArgs s__law_draws, defBody s__law_draws, defScope s__law_draws, [], []⟩
def d__law_pop : He.DefD := ⟨("_law_pop", none), "_law_pop", "_law_pop", defArgs s__law_pop, defBody s__law_pop, defScope s__law_pop, [], []⟩
def d__law_word : He.DefD := ⟨("_law_word", none), "_law_word", "_law_word", defArgs s__law_word, defBody s__law_word, defScope s__law_word, [], []⟩
def d__law_far : He.DefD := ⟨("_law_far", none), "_law_far", "_law_far", defArgs s__law_far, defBody s__law_far, defScope s__law_far, [], []⟩
def d__law_texts : He.DefD := ⟨("_law_texts", none), "_law_texts", "_law_texts", defArgs s__law_texts, defBody s__law_texts, defScope s__law_texts, [], []⟩
def d__law_all : He.DefD := ⟨("_law_all", none), "_law_all", "_law_all", defArgs s__law_all, defBody s__law_all, defScope s__law_all, [], []⟩
def d_read_list : He.DefD := ⟨("read_list", none), "read_list", "read_list", defArgs s_read_list, defBody s_read_list, defScope s_read_list, [], []⟩
def d__law_size : He.DefD := ⟨("_law_size", none), "_law_size", "_law_size", defArgs s__law_size, defBody s__law_size, defScope s__law_size, [], []⟩
def d__law_list : He.DefD := ⟨("_law_list", none), "_law_list", "_law_list", defArgs s__law_list, defBody s__law_list, defScope s__law_list, [], []⟩
def d__law_many : He.DefD := ⟨("_law_many", none), "_law_many", "_law_many", defArgs s__law_many, defBody s__law_many, defScope s__law_many, [], []⟩
def d_law : He.DefD := ⟨("law", none), "law", "law", defArgs s_law, defBody s_law, defScope s_law, [], []⟩
def fn : List He.DefD := [d_is_word, d_show_list, d_sure, d__law_draws, d__law_pop, d__law_word, d__law_far, d__law_texts, d__law_all, d_read_list, d__law_size, d__law_list, d__law_many, d_law]
def fa : List He.Fa := [.glo "is_word", .glo "show_list", .glo "sure", .glo "_law_draws", .glo "_law_pop", .glo "_law_word", .glo "_law_far", .glo "_law_texts", .glo "_law_all", .glo "read_list", .glo "_law_size", .glo "_law_list", .glo "_law_many", .glo "law", .free "any", .free "enumerate", .free "int", .free "isinstance", .free "len", .free "list", .free "range", .free "str"]
abbrev Rw : PySem.W.OpenRow := PySem.W.OpenLaw.row PySem.Challenge.rw_wordsapart_k40_lists_as_texts
abbrev hk : PySem.W.Hook := He.hookD 4 fa fn
def ob (s : PySem.W.SharedT) : He.AlD := He.obsDG 4 fa fn (HandSHeadRun.getT s)
theorem ob_eq (s : PySem.W.SharedT) : ob s = hk.obs s.abs := He.obsDG_eq (HandSHeadRun.getT_eq s)
def loose : List Str := ["is_word", "show_list", "sure", "read_list", "_law_draws", "_law_pop", "_law_size", "_law_word", "_law_far", "_law_list", "_law_texts", "_law_all", "_law_many", "ApartError", "NoText"]
theorem run (w : World) : HandSHeadRun.RunEq Rw (PySem.W.view Rw.prog [19]) hk ob 4000 loose w := by
  intro os
  kernel_rfl
theorem facts {P : Program} {w : World} {K : PySem.W.Frag} {h : Heap} {mg : Str → Option Value} {f : Addr} (X : K.In h) (G : h.Ns mainGlobals mg) (hfa : mg ("law" : Str) = some (.ref f)) (c : He.SaysD fa fn K) :
    ∃ fd : FuncData, (∀ (s : Shared) (v : Value), BindsTo s fd ⟨[v], []⟩ [("_law_script", v)]) ∧ ∀ base : Heap, K.In base → base.Ns mainGlobals mg → FnOk P w K mg base CX0 3 f fd ["_law_script"] (spOf K f_law) := by
  obtain ⟨fd_is_word, F_is_word⟩ := c.def_ 0 (d := d_is_word) rfl
  have g_is_word := He.glo_ok X G (c.fact 0 (f := .glo "is_word") rfl)
  obtain ⟨fd_show_list, F_show_list⟩ := c.def_ 1 (d := d_show_list) rfl
  have g_show_list := He.glo_ok X G (c.fact 1 (f := .glo "show_list") rfl)
  obtain ⟨fd_sure, F_sure⟩ := c.def_ 2 (d := d_sure) rfl
  have g_sure := He.glo_ok X G (c.fact 2 (f := .glo "sure") rfl)
  obtain ⟨fd__law_draws, F__law_draws⟩ := c.def_ 3 (d := d__law_draws) rfl
  have g__law_draws := He.glo_ok X G (c.fact 3 (f := .glo "_law_draws") rfl)
  obtain ⟨fd__law_pop, F__law_pop⟩ := c.def_ 4 (d := d__law_pop) rfl
  have g__law_pop := He.glo_ok X G (c.fact 4 (f := .glo "_law_pop") rfl)
  obtain ⟨fd__law_word, F__law_word⟩ := c.def_ 5 (d := d__law_word) rfl
  have g__law_word := He.glo_ok X G (c.fact 5 (f := .glo "_law_word") rfl)
  obtain ⟨fd__law_far, F__law_far⟩ := c.def_ 6 (d := d__law_far) rfl
  have g__law_far := He.glo_ok X G (c.fact 6 (f := .glo "_law_far") rfl)
  obtain ⟨fd__law_texts, F__law_texts⟩ := c.def_ 7 (d := d__law_texts) rfl
  have g__law_texts := He.glo_ok X G (c.fact 7 (f := .glo "_law_texts") rfl)
  obtain ⟨fd__law_all, F__law_all⟩ := c.def_ 8 (d := d__law_all) rfl
  have g__law_all := He.glo_ok X G (c.fact 8 (f := .glo "_law_all") rfl)
  obtain ⟨fd_read_list, F_read_list⟩ := c.def_ 9 (d := d_read_list) rfl
  have g_read_list := He.glo_ok X G (c.fact 9 (f := .glo "read_list") rfl)
  obtain ⟨fd__law_size, F__law_size⟩ := c.def_ 10 (d := d__law_size) rfl
  have g__law_size := He.glo_ok X G (c.fact 10 (f := .glo "_law_size") rfl)
  obtain ⟨fd__law_list, F__law_list⟩ := c.def_ 11 (d := d__law_list) rfl
  have g__law_list := He.glo_ok X G (c.fact 11 (f := .glo "_law_list") rfl)
  obtain ⟨fd__law_many, F__law_many⟩ := c.def_ 12 (d := d__law_many) rfl
  have g__law_many := He.glo_ok X G (c.fact 12 (f := .glo "_law_many") rfl)
  obtain ⟨fd_law, F_law⟩ := c.def_ 13 (d := d_law) rfl
  have g_law := He.glo_ok X G (c.fact 13 (f := .glo "law") rfl)
  have m_any := He.free_ok X G (c.fact 14 (f := .free "any") rfl)
  have m_enumerate := He.free_ok X G (c.fact 15 (f := .free "enumerate") rfl)
  have m_int := He.free_ok X G (c.fact 16 (f := .free "int") rfl)
  have m_isinstance := He.free_ok X G (c.fact 17 (f := .free "isinstance") rfl)
  have m_len := He.free_ok X G (c.fact 18 (f := .free "len") rfl)
  have m_list := He.free_ok X G (c.fact 19 (f := .free "list") rfl)
  have m_range := He.free_ok X G (c.fact 20 (f := .free "range") rfl)
  have m_str := He.free_ok X G (c.fact 21 (f := .free "str") rfl)
  have e := hfa.symm.trans g_law
  cases e
  have b := FunD.bindsA (ps := ["_law_script"]) F_law fun _ _ _ _ _ _ us hl => match us, hl with | [_], _ => rfl
  refine ⟨fd_law, fun s v => b s [v] rfl, fun base _ _ => ?_⟩
  have k_is_word : KnownF P w K mg base 1 f_is_word := kn_is_word m_any m_len m_range m_str  F_is_word g_is_word
  have k_show_list : KnownF P w K mg base 1 f_show_list := kn_show_list   F_show_list g_show_list
  have k_sure : KnownF P w K mg base 1 f_sure := kn_sure   F_sure g_sure
  have k__law_draws : KnownF P w K mg base 1 f__law_draws := kn__law_draws m_len m_range  F__law_draws g__law_draws
  have k__law_pop : KnownF P w K mg base 1 f__law_pop := kn__law_pop   F__law_pop g__law_pop
  have k__law_word : KnownF P w K mg base 1 f__law_word := kn__law_word m_range m_str  F__law_word g__law_word
  have k__law_far : KnownF P w K mg base 1 f__law_far := kn__law_far m_len m_range  F__law_far g__law_far
  have k__law_texts : KnownF P w K mg base 1 f__law_texts := kn__law_texts m_isinstance m_list m_str  F__law_texts g__law_texts
  have k__law_all : KnownF P w K mg base 1 f__law_all := kn__law_all m_range m_str  F__law_all g__law_all
  have k_read_list : KnownF P w K mg base 2 f_read_list := kn_read_list m_enumerate k_sure k_is_word  F_read_list g_read_list
  have k__law_size : KnownF P w K mg base 2 f__law_size := kn__law_size k__law_pop  F__law_size g__law_size
  have k__law_list : KnownF P w K mg base 2 f__law_list := kn__law_list m_range k__law_pop k__law_word k__law_far  F__law_list g__law_list
  have k__law_many : KnownF P w K mg base 2 f__law_many := kn__law_many m_len m_range k__law_all k__law_pop  F__law_many g__law_many
  exact fn_ok (k := 2) F_law sc_law rfl (fun cdv A outer s H E hr => body_law m_int m_isinstance m_list m_range m_str k__law_draws k__law_size k__law_list k__law_pop k__law_many k_show_list k_read_list k__law_texts  cdv A outer s H E hr) plain_law
end K40
open PySem PySem.W PySem.Calls PyProof.Rows
set_option maxRecDepth 100000 in
set_option maxHeartbeats 0 in
theorem PySem.Challenge.cw_wordsapart_k40_lists_as_texts_holds : PySem.Challenge.rw_wordsapart_k40_lists_as_texts.Holds := by
  w_on; o_law
  refine HandSHeadRun.head_any (r := OpenLaw.row PySem.Challenge.rw_wordsapart_k40_lists_as_texts) (q := view (OpenLaw.row PySem.Challenge.rw_wordsapart_k40_lists_as_texts).prog [19]) (H := K40.hk) (ob := K40.ob) (M := 4000) (loose := K40.loose) (d := HandSHeadRun.topDef (OpenLaw.row PySem.Challenge.rw_wordsapart_k40_lists_as_texts).prog 19) (kwd := []) K40.ob_eq
    (by kernel_rfl) (fun s => by kernel_rfl) K40.run (by kernel_rfl) (by kernel_rfl) (by kernel_rfl) (by rfl) (by first | assumption | decide +kernel) (by decide +kernel) ⟨rfl, rfl, rfl, rfl, rfl, by decide +kernel⟩ ?hw ?hc
  case hw => w_witness2
  case hc =>
    refine L2.walk_ofE (l := PySem.Challenge.rw_wordsapart_k40_lists_as_texts) (n := 63) (k := 3) (x := "_law_script") (CX := L2.CX0) rfl (by decide) (by kernel_rfl) ⟨rfl, by decide, by decide⟩ ?F (fun _ _ _ _ z => z)
    intro w mg fa h Y G hmg0
    obtain ⟨K, KX, c⟩ := Y
    have hmg : mg ("law" : PySem.Str) = some (.ref fa) := by
      have e : (HandSHeadRun.topDef (OpenLaw.row PySem.Challenge.rw_wordsapart_k40_lists_as_texts).prog 19).name = ("law" : PySem.Str) := by kernel_rfl
      rw [← e]
      exact hmg0
    obtain ⟨fd, hb, hF⟩ := K40.facts (P := (PySem.Challenge.rw_wordsapart_k40_lists_as_texts).prog) (w := w) KX G hmg c
    exact ⟨K, fd, WA.spOf K K40.f_law, KX, hb, fun H a ns hl _ hS => WA.law_sp hl hS, hF⟩
